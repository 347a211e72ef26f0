/- The code's parser of values is the plain function. No condition: general lemmas. -/
import Derived.Test.YtmahnaanhhojkaaGreatDoorNmA
import Derived.Test.YtmahnaanhhojkaaGreatDoorNmB
import Derived.Lib.ValidLaws
set_option linter.unusedVariables false
set_option linter.unusedSimpArgs false

namespace Go.Proofs.Q
open Go.Sy
set_option linter.unusedVariables false

theorem Val.eta (v:Val):Val.mk v.kind v.n v.b v.l v.rule v.more=v:=by cases v;rfl
theorem Val.lt {v w:Val} (h:w ∈ v.l):SizeOf.sizeOf w < SizeOf.sizeOf v:=by
 obtain ⟨k,n,b,l,r,m⟩:=v
 have h1:=List.sizeOf_lt_of_mem (show w ∈ l from h)
 rw [Val.mk.sizeOf_spec]
 omega
theorem zlw {α β:Type} (l:List α) (f:α->β):(l.attach.map λw=>f w.1)=l.map f:=by simp
inductive Fine:Val->Prop
 | mk {v:Val}:v.b.length <= 68719476736->v.l.length <= 68719476736->v.more.length <= 68719476736->(∀ r ∈ v.more,r.b.length <= 68719476736)->(∀ w ∈ v.l,Fine w)->Fine v
theorem Fine.b {v:Val} (h:Fine v):v.b.length <= 68719476736:=by cases h;assumption
theorem Fine.l {v:Val} (h:Fine v):v.l.length <= 68719476736:=by cases h;assumption
theorem Fine.more {v:Val} (h:Fine v):v.more.length <= 68719476736:=by cases h;assumption
theorem Fine.raw {v:Val} (h:Fine v):∀ r ∈ v.more,r.b.length <= 68719476736:=by cases h;assumption
theorem Fine.kid {v:Val} (h:Fine v):∀ w ∈ v.l,Fine w:=by cases h;assumption
def cnt (v:Val):Nat:=1 + (v.l.attach.map λw=>cnt w.1).sum
termination_by SizeOf.sizeOf v
decreasing_by exact Val.lt w.2
theorem zhm (v:Val):cnt v=1 + (v.l.map cnt).sum:=by
 rw [cnt]
 congr 2
 exact zlw v.l cnt
def strip (v:Val):Val:=if v.kind=12 then Val.mk 12 0 [] [] 0 [] else Val.mk v.kind v.n v.b (v.l.attach.map λw=>strip w.1) 0 []
termination_by SizeOf.sizeOf v
decreasing_by exact Val.lt w.2
theorem ziZ (v:Val):strip v=if v.kind=12 then Val.mk 12 0 [] [] 0 [] else Val.mk v.kind v.n v.b (v.l.map strip) 0 []:=by
 rw [strip]
 split
 ·rfl
 ·congr 1
  exact zlw v.l strip
def bare (v:Val):Bool:=!(decide (v.kind=12) || decide (0 < v.more.length)) && (v.l.attach.map λw=>bare w.1).all id
termination_by SizeOf.sizeOf v
decreasing_by exact Val.lt w.2
theorem zkI (v:Val):bare v=(!(decide (v.kind=12) || decide (0 < v.more.length)) && (v.l.map bare).all id):=by
 rw [bare]
 congr 2
 exact zlw v.l bare
theorem zfz (v:Val):0 < cnt v:=by rw [zhm];omega
theorem zm7 {α:Type} {f:α->Nat}:∀ {l:List α} {x:α},x ∈ l->f x <= (l.map f).sum
 | [],x,h=>by cases h
 | y :: r,x,h=>by
  rw [List.map_cons,List.sum_cons]
  rcases List.mem_cons.1 h with e | e
  ·rw [e];omega
  ·have:=zm7 (f:=f) e
   omega
theorem zrI {α:Type} {f:α->Nat} (hf:∀ x,0 < f x):∀ {l:List α},l.length <= (l.map f).sum
 | []=>zNl _
 | y :: r=>by
  have:=zrI hf (l:=r)
  have:=hf y
  rw [List.map_cons,List.sum_cons,zLc]
  omega
theorem zeq {v w:Val} (h:w ∈ v.l):cnt w + 1 <= cnt v:=by
 rw [zhm v]
 have:=zm7 (f:=cnt) h
 omega
theorem zu3 (v:Val):v.l.length + 1 <= cnt v:=by
 rw [zhm v]
 have:=zrI zfz (l:=v.l)
 omega
theorem zsZ:∀ (n:Nat) (v:Val),cnt v <= n->cnt (strip v) <= cnt v:=by
 intro n
 induction n with
 | zero=>intro v h;have:=zfz v;omega
 | succ n ih =>
  intro v h
  rw [ziZ v]
  split
  ·rw [zhm]
   exact zfz v
  ·rw [zhm,zhm v]
   show 1 + ((v.l.map strip).map cnt).sum <= _
   have:∀ l:List Val,(∀ w ∈ l,w ∈ v.l)->((l.map strip).map cnt).sum <= (l.map cnt).sum:=by
    intro l
    induction l with
    | nil=>intro _;exact zNl _
    | cons x r ihr =>
     intro hl
     have h1:=zeq (hl x zMs)
     have h2:=ih x (by omega)
     have h3:=ihr λw hw=>hl w (zMm _ hw)
     simp only [List.map_cons,List.sum_cons] at h3 ⊢
     omega
   have:=this v.l λ_ h=>h
   omega
theorem T.or' {β:Type} {R:β->Prop} {c d:Bool} {K:Bool->Option β} (hK:T R (K (c || d))):T R (Sy.jp (λJ=>Sy.br c (J true) (J d)) K):=by cases c <;> exact hK
theorem T.and' {β:Type} {R:β->Prop} {c d:Bool} {K:Bool->Option β} (hK:T R (K (c && d))):T R (Sy.jp (λJ=>Sy.br c (J d) (J false)) K):=by cases c <;> exact hK
theorem zsd {a b:Nat} (h:(!decide ((a:Int)=(b:Int)))=false):a=b:=by
 have:(a:Int)=b:=by simpa using h
 omega
theorem T.andI {β:Type} {R:β->Prop} {P Q:Prop} {c:Bool} {M:(Bool->Option β)->Option β} {K:Bool->Option β} (hc:c=true ↔ P) (hM:∀ J:Bool->Option β,(∀ b,(b=true ↔ Q)->T R (J b))->T R (M J)) (hK:∀ b:Bool,(b=true ↔ P/\Q)->T R (K b)) :
    T R (Sy.jp (λJ=>Sy.br c (M J) (J false)) K):=by
  cases c with
  | true=>exact hM K λb hb=>hK b (by rw [hb];exact ⟨λh=>⟨hc.1 rfl,h⟩,λh=>h.2⟩)
  | false=>exact hK false ⟨λh=>(by cases h),λh=>by have:=hc.2 h.1;cases this⟩
theorem zl8 {α:Type} {E:α->α->Option Bool} {F:(Int->Option Bool)->Int->Option Bool} (a b:List α) (ha:a.length <= 68719476736) (hE:∀ x ∈ a,∀ y,T (λr=>r=true ↔ x=y) (E x y))
    (hF:∀ (L:Int->Option Bool) (q:Int),F L q=Sy.br (decide (q < (a.length:Int))) (Sy.cal (getI a q) λy=>Sy.cal (getI b q) λz=>Sy.cal (E y z) λw=>Sy.br (!w) (some false) (Sy.ck (q + 1) <| L (q + 1))) (some true)) :
    T (λr=>r=true ↔ a=b) (Sy.br (!decide ((a.length:Int)=(b.length:Int))) (some false) (Sy.lp F (0:Int))):=by
  refine T.br (λh=>T.some ⟨λh=>(by cases h),λe=>?_⟩) λh=>?_
  · subst e
    simp at h
  have hl:a.length=b.length:=zsd h
  refine T.lp (λ(q:Int)=>0 <= q/\q <= (a.length:Int)/\∀ i:Nat,(i:Int) < q->a[i]?=b[i]?) (λ(q:Int)=>((a.length:Int) - q).toNat) ⟨zIl _,by omega,λi h=>by omega⟩ (by omega) λL q ⟨h1,h2,h3⟩ hL=>?_
  rw [hF]
  refine T.br (λhb=>?_) λhb=>T.some ⟨λ_=>?_,λ_=>rfl⟩
  · have hb:=zOT hb
    refine T.get h1 hb λy hy=>T.get h1 (by omega) λz hz=>T.cal (hE y (List.mem_of_getElem? hy) z) λw _ hw=>T.br (λhe=>T.some ⟨λh=>(by cases h),λe=>?_⟩) λhe=>T.ck (by omega) (hL _ ⟨by omega,by omega,λi hi=>?_⟩ (by omega))
    · subst e
      rw [hy] at hz;cases hz
      rw [hw.2 rfl] at he;cases he
    · have he:y=z:=hw.1 (by simpa using he)
      rcases Int.lt_or_le (i:Int) q with h | h
      · exact h3 i h
      · have:i=q.toNat:=by omega
        rw [this,hy,hz,he]
  · have hb:=zOF hb
    refine List.ext_getElem? λi=>?_
    rcases Nat.lt_or_ge i a.length with h | h
    · exact h3 i (by omega)
    · rw [List.getElem?_eq_none h,List.getElem?_eq_none (by omega)]
theorem ztK (x y:Raw):T (λr=>r=true ↔ x=y) (zqc x y):=by
 unfold zqc
 refine T.andI (P:=x.n=y.n) (Q:=x.b=y.b) decide_eq_true_iff (λJ kk=>T.eq (y:=decide (Str.mk x.b=Str.mk y.b)) rfl (kk _ ?_)) λb hb=>T.some ?_
 ·rw [decide_eq_true_iff]
  exact ⟨λh=>congrArg Str.b h,λh=>by rw [h]⟩
 ·rw [hb]
  obtain ⟨a,b⟩:=x
  obtain ⟨c,d⟩:=y
  exact ⟨λ⟨h1,h2⟩=>(by cases h1;cases h2;rfl),λh=>by cases h;exact ⟨rfl,rfl⟩⟩
theorem znA:∀ {k n:Nat} {f:Val},cnt f <= k->2 * k <= n->Fine f->∀ g,T (λr=>r=true ↔ f=g) (zi9 n f g):=by
 intro k
 induction k with
 | zero=>intro n f h;have:=zfz f;omega
 | succ k ih =>
  intro n f hk hn hf g
  obtain ⟨n,rfl⟩:∃ n',n=n' + 2:=⟨n - 2,by omega⟩
  show T _ (zi5 (zgP (n + 1)) (zi9 (n + 1)) f g)
  unfold zi5
  refine T.andI (P:=f.kind=g.kind) (Q:=f.n=g.n) decide_eq_true_iff (λJ kk=>kk _ decide_eq_true_iff) λb1 h1=>?_
  refine T.andI (Q:=f.b=g.b) h1 (λJ kk=>T.eq (y:=decide (Str.mk f.b=Str.mk g.b)) rfl (kk _ ?_)) λb2 h2=>?_
  ·rw [decide_eq_true_iff]
   exact ⟨λh=>congrArg Str.b h,λh=>by rw [h]⟩
  refine T.andI (Q:=f.l=g.l) h2 (λJ kk=>T.cal (Q:=λr=>r=true ↔ f.l=g.l) ?_ λr _ hr=>kk _ hr) λb3 h3=>?_
  ·show T _ (zd2 (zgP n) (zi9 n) f.l g.l)
   unfold zd2
   exact zl8 f.l g.l hf.l (λx hx y=>ih (by have:=zeq hx;omega) (by omega) (hf.kid x hx) y) λL q=>rfl
  refine T.andI (Q:=f.rule=g.rule) h3 (λJ kk=>kk _ decide_eq_true_iff) λb4 h4=>?_
  refine T.andI (Q:=f.more=g.more) h4 (λJ kk=>T.cal (Q:=λr=>r=true ↔ f.more=g.more) ?_ λr _ hr=>kk _ hr) λb5 h5=>T.some ?_
  ·unfold zgA
   exact zl8 f.more g.more hf.more (λx hx y=>ztK x y) λL q=>rfl
  ·rw [h5,<- Val.eta f,<- Val.eta g]
   constructor
   ·rintro ⟨⟨⟨⟨⟨e1,e2⟩,e3⟩,e4⟩,e5⟩,e6⟩
    simp only [Val.eta] at e1 e2 e3 e4 e5 e6
    rw [e1,e2,e3,e4,e5,e6]
   ·intro h
    rw [Val.eta,Val.eta] at h
    subst h
    exact ⟨⟨⟨⟨⟨rfl,rfl⟩,rfl⟩,rfl⟩,rfl⟩,rfl⟩
theorem zoB:∀ {n:Nat} {v:Val},cnt v <= n->cnt v <= 1000000->Fine v->zhg n v=some (cnt v:Int):=by
 intro n
 induction n with
 | zero=>intro v h;have:=zfz v;omega
 | succ n ih =>
  intro v hn h6 hf
  refine T.eqs ?_
  show T _ (zfM (zhg n) v)
  unfold zfM
  have hfl:=hf.l
  have hc:=zhm v
  refine T.lp (ι:=Int × Int) (λq=>0 <= q.2/\q.2 <= (v.l.length:Int)/\q.1=1 + (((v.l.take q.2.toNat).map cnt).sum:Nat)) (λq=>((v.l.length:Int) - q.2).toNat) ⟨zIl _,by dsimp only;omega,by show (1:Int)=1 + ((([]:List Val).map cnt).sum:Nat);simp⟩ (by dsimp only;omega) λL q ⟨q1,q2,q3⟩ hL=>?_
  obtain ⟨c,i⟩:=q
  dsimp only at q1 q2 q3 hL ⊢
  refine T.br (λhb=>?_) λhb=>T.some ?_
  ·have hb:=zOT hb
   refine T.get q1 hb λy hy=>?_
   have hm:=List.mem_of_getElem? hy
   have hk:=zeq hm
   have e:(i + 1).toNat=i.toNat + 1:=by omega
   have hs:((v.l.take (i.toNat + 1)).map cnt).sum=((v.l.take i.toNat).map cnt).sum + cnt y:=by
    rw [List.take_add_one,hy,List.map_append,List.sum_append]
    simp
   have hle:((v.l.take (i.toNat + 1)).map cnt).sum <= (v.l.map cnt).sum:=by
    conv=>rhs;rw [<- List.take_append_drop (i.toNat + 1) v.l]
    rw [List.map_append,List.sum_append]
    omega
   refine T.eq (ih (by omega) (by omega) (hf.kid _ hm)) (T.ck (by omega) (T.ck (by omega) (hL _ ⟨by dsimp only;omega,by dsimp only;omega,?_⟩ (by dsimp only;omega))))
   dsimp only
   rw [e,hs,q3]
   omega
  ·have hb:=zOF hb
   rw [zTl (by omega)] at q3
   rw [q3,hc]
   omega
def pln (v:Val) (n b l m:Bool):Bool:=(n || decide (v.n=0)) && (b || decide ((v.b.length:Int)=0)) && (l || decide ((v.l.length:Int)=0)) && (m || (decide (v.rule=0) && decide ((v.more.length:Int)=0)))
theorem T.andJ {β:Type} {R:β->Prop} {c d:Bool} {M:(Bool->Option β)->Option β} {K:Bool->Option β} (hM:∀ J:Bool->Option β,T R (J d)->T R (M J)) (hK:T R (K (c && d))):T R (Sy.jp (λJ=>Sy.br c (M J) (J false)) K):=by
 cases c
 ·exact hK
 ·exact hM K hK
theorem T.orJ {β:Type} {R:β->Prop} {c d:Bool} {M:(Bool->Option β)->Option β} {K:Bool->Option β} (hM:∀ J:Bool->Option β,T R (J d)->T R (M J)) (hK:T R (K (c || d))):T R (Sy.jp (λJ=>Sy.br c (J true) (M J)) K):=by
 cases c
 ·exact hM K hK
 ·exact hK
theorem zcM (v:Val) (u:Int) (h:0 <= u):zcW v u=some (pln v (!decide (andI u 1=0)) (!decide (andI u 2=0)) (!decide (andI u 4=0)) (!decide (andI u 8=0))):=by
 refine T.eqs ?_
 unfold zcW
 refine T.asd ⟨h,by decide⟩ (T.or' (T.andJ (λJ hh=>T.asd ⟨h,by decide⟩ (T.or' hh)) (T.andJ (λJ hh=>T.asd ⟨h,by decide⟩ (T.or' hh)) (T.andJ (λJ hh=>T.asd ⟨h,by decide⟩ (T.orJ (λJ2 h2=>T.and' h2) hh)) (T.some rfl)))))
theorem zhC (v:Val):zeT v=some (decide (v.kind=0) && pln v false false false false):=by
 refine T.eqs ?_
 unfold zeT
 refine T.andJ (d:=pln v false false false false) (λJ hh=>T.eq (zcM v 0 (zIl _)) ?_) (T.some rfl)
 have e:pln v (!decide (andI 0 1=0)) (!decide (andI 0 2=0)) (!decide (andI 0 4=0)) (!decide (andI 0 8=0))=pln v false false false false:=rfl
 rw [e]
 exact hh
theorem zl9 {v:Val}:(decide (v.kind=0) && pln v false false false false)=true ↔ v=Val.mk 0 0 [] [] 0 []:=by
 unfold pln
 simp only [Bool.false_or,zBa,decide_eq_true_eq]
 constructor
 ·rintro ⟨h1,⟨⟨h2,h3⟩,h4⟩,h5,h6⟩
  rw [<- Val.eta v,h1,h2,h5,List.length_eq_zero_iff.1 (by omega:v.b.length=0),List.length_eq_zero_iff.1 (by omega:v.l.length=0),List.length_eq_zero_iff.1 (by omega:v.more.length=0)]
 ·intro h
  subst h
  exact ⟨rfl,⟨⟨rfl,rfl⟩,rfl⟩,rfl,rfl⟩
def rng (a b:Int):List Int:=(List.range (b - a).toNat).map λ(i:Nat)=>a + (i:Int)
theorem zkC {a b:Int} (h:b <= a):rng a b=[]:=by
 unfold rng
 have:(b - a).toNat=0:=by omega
 rw [this];rfl
theorem znB {a b:Int} (h:a <= b):rng a (b + 1)=rng a b ++ [b]:=by
 unfold rng
 have:(b + 1 - a).toNat=(b - a).toNat + 1:=by omega
 rw [this,List.range_succ,List.map_append]
 congr 1
 show [a + (((b - a).toNat:Nat):Int)]=[b]
 congr 1
 omega
theorem zlD {a b:Int}:(rng a b).length=(b - a).toNat:=by unfold rng;rw [List.length_map,List.length_range]
theorem zuD {a b:Int} {k:Nat} (h:a + k < b):(rng a b)[k]?=some (a + k):=by
 unfold rng
 rw [List.getElem?_map,List.getElem?_range (by omega)]
 rfl
def grp (fs:List GFld) (k:Int):Int:=((fs[k.toNat]?).map λf=>f.group).getD 0
def slot1 (c:Bool) (fs:List GFld) (out:List (List Int)) (k:Int):List (List Int) :=
 if (c && decide (0 < grp fs k) && decide (0 < out.length))=true/\grp fs (k - 1)=grp fs k then out.set (out.length - 1) ((out[out.length - 1]?).getD [] ++ [k]) else out ++ [[k]]
def slots (x:GTyp):List (List Int):=(rng x.root x.fields.length).foldl (slot1 (!decide (x.kind=9)) x.fields) []
def slotsT (t:GTab) (i:Int):List (List Int):=match (if 0 <= i then t.types[i.toNat]? else none) with
 | none=>[]
 | some x=>if x.kind=7 \/ x.kind=8 \/ x.kind=9 then slots x else []
theorem zoD (c:Bool) (fs:List GFld) (out:List (List Int)) (k:Int):(slot1 c fs out k).length <= out.length + 1/\0 < (slot1 c fs out k).length:=by
 unfold slot1
 split
 ·rename_i h
  have h1:=h.1
  rw [zBa] at h1
  have h2:=zOT h1.2
  rw [List.length_set]
  omega
 ·rw [zLa,zLs]
  omega
theorem zlo {c:Bool} {fs:List GFld}:∀ (l:List Int) (out:List (List Int)) (n:Nat),out.length <= n->(∀ s ∈ out,s.length <= n)->(l.foldl (slot1 c fs) out).length <= n + l.length/\∀ s ∈ l.foldl (slot1 c fs) out,s.length <= n + l.length:=by
 intro l
 induction l with
 | nil=>intro out n h1 h2;exact ⟨h1,h2⟩
 | cons k r ih =>
  intro out n h1 h2
  have:=ih (slot1 c fs out k) (n + 1) (by have:=(zoD c fs out k).1;omega) (λs hs=>by
   unfold slot1 at hs
   split at hs
   ·rcases List.mem_or_eq_of_mem_set hs with h | h
    ·have:=h2 s h;omega
    ·rw [h,zLa,zLs]
     cases hg:out[out.length - 1]? with
     | none=>simp
     | some y =>
      have:=h2 y (List.mem_of_getElem? hg)
      show y.length + 1 <= n + 1
      omega
   ·rcases List.mem_append.1 hs with h | h
    ·have:=h2 s h;omega
    ·rw [zMo.1 h]
     show 1 <= n + 1
     omega)
  rw [List.foldl_cons,zLc]
  have e:n + 1 + r.length=n + (r.length + 1):=by omega
  rw [e] at this
  exact this
theorem kindNot {x:Int} {β:Type} {R:β->Prop} {K:Bool->Option β} (h:T R (K (!decide (x=7 \/ x=8 \/ x=9)))) :
    T R (Sy.jp (λJ5=>Sy.br (!decide (x=7)) (J5 (!decide (x=8))) (J5 false)) λq=>Sy.jp (λJ8=>Sy.br q (J8 (!decide (x=9))) (J8 false)) K):=by
  refine T.and' (T.and' ?_)
  have:((!decide (x=7)) && (!decide (x=8)) && !decide (x=9))=!decide (x=7 \/ x=8 \/ x=9):=by
    rw [Bool.eq_iff_iff]
    simp only [zBa,Bool.not_eq_true',decide_eq_false_iff_not,not_or]
    exact and_assoc
  rw [this]
  exact h
theorem zny {h:Nat} {l:List GTyp} {x:GTyp} {i j:Nat} (hk:Kids (SubT h l) (kidsT x) i j) (hj:j <= l.length) (hl:l.length <= 1000):x.fields.length <= 1000:=by
 have:=ztN hk
 unfold kidsT at this
 rw [zLa,List.length_map] at this
 omega
theorem zsz (a b:Int) (h0:0 <= a) (hb:b <= 1000000) (hb0:0 <= b) (ha:a <= 1000000):zgz a b=some (rng a b):=by
 refine T.eqs ?_
 unfold zgz
 refine T.lp (ι:=List Int × Int) (λq=>a <= q.2/\(q.2 <= b \/ q.2=a)/\q.1=rng a q.2) (λq=>(b - q.2).toNat) ⟨zIl _,.inr rfl,(zkC (zIl _)).symm⟩ (by dsimp only;omega) λL q ⟨q1,q2,q3⟩ hL=>?_
 obtain ⟨l,k⟩:=q
 dsimp only at q1 q2 q3 hL ⊢
 refine T.br (λh=>?_) λh=>T.some ?_
 ·have h:=zOT h
  have hl:l.length=(k - a).toNat:=by rw [q3,zlD]
  exact T.abl (by rw [zLs];omega) (T.ck (by omega) (hL _ ⟨by dsimp only;omega,by dsimp only;omega,by dsimp only;rw [znB q1,q3]⟩ (by dsimp only;omega)))
 ·have h:=zOF h
  rw [q3]
  rcases q2 with h2 | h2
  ·have:k=b:=by omega
   rw [this]
  ·subst h2
   rw [zkC (zIl _),zkC (by omega)]
theorem zoN {t:GTab} (ht:TabOk t) (i:Int):zgc t i=some (slotsT t i):=by
  refine T.eqs ?_
  unfold zgc
  have htl:=ht.types
  by_cases hi:0 <= i/\i < t.types.length
  · obtain ⟨x,hx⟩:∃ x,t.types[i.toNat]?=some x:=⟨_,List.getElem?_eq_getElem (by omega)⟩
    have hs:slotsT t i=if x.kind=7 \/ x.kind=8 \/ x.kind=9 then slots x else []:=by unfold slotsT;rw [if_pos hi.1,hx]
    rw [hs]
    refine T.cal (Q:=λr=>r=x) (by
      unfold zha
      refine T.or' (T.br (λh=>?_) λ_=>T.get hi.1 hi.2 λy hy=>T.some (by rw [hx] at hy;cases hy;rfl))
      rw [zDF (by omega),zDF (by omega)] at h
      cases h) λy _ hy=>?_
    subst hy
    refine kindNot (T.br (λh=>T.some ?_) λh=>?_)
    · rw [if_neg (zOF ((Bool.not_eq_true' _).mp h))]
    have hk:y.kind=7 \/ y.kind=8 \/ y.kind=9:=zOT ((Bool.not_eq_false' _).mp h)
    rw [if_pos hk]
    obtain ⟨j,hj⟩:=SubT.sub ht.kids i.toNat (by omega) (by omega)
    have hjl:=hj.inb
    obtain ⟨x'',hx'',hok,hkid⟩:=hj
    rw [hx] at hx'';cases hx''
    have hfl:=zny hkid hjl (by omega)
    have hr0:=hok.root0
    have hr1:=hok.rootF hk
    have hmx:max y.root 0=y.root:=by omega
    rw [hmx]
    refine T.eq (zsz _ _ hr0 (by omega) (by omega) (by omega)) ?_
    have hpl:(rng y.root y.fields.length).length=((y.fields.length:Int) - y.root).toNat:=zlD
    refine T.lp (ι:=List (List Int) × Int) (λq=>0 <= q.2/\q.2 <= (y.fields.length:Int) - y.root/\q.1=(rng y.root (y.root + q.2)).foldl (slot1 (!decide (y.kind=9)) y.fields) []/\(0 < q.1.length ↔ 0 < q.2)) (λq=>(((y.fields.length:Int) - y.root) - q.2).toNat) ⟨zIl _,by dsimp only;omega,by dsimp only;rw [zkC (by omega)];rfl,by dsimp only [zLn];omega⟩ (by dsimp only;omega) λL q ⟨q1,q2,q3,q4⟩ hL=>?_
    obtain ⟨out,p⟩:=q
    dsimp only at q1 q2 q3 q4 hL ⊢
    refine T.br (λhb=>?_) λhb=>T.some ?_
    · have hb:=zOT hb
      rw [hpl] at hb
      have hfold:=zlo (c:=!decide (y.kind=9)) (fs:=y.fields) (rng y.root (y.root + p)) [] 0 (zNl _) (λs hs=>by cases hs)
      rw [<- q3,zlD] at hfold
      have hol:out.length <= 1000:=by omega
      have hget:(rng y.root y.fields.length)[p.toNat]?=some (y.root + p):=by
        rw [zuD (by omega)]
        congr 2
        omega
      refine T.jp (ι:=List (List Int)) (λo=>o=slot1 (!decide (y.kind=9)) y.fields out (y.root + p)) (λJ kk=>T.asd ⟨by omega,by rw [hpl];omega⟩ (T.eq hget (T.ck (by omega) (T.get (by omega) (by omega) λf hf=>T.and' (T.and' (T.jp (λb=>b=true ↔ (!decide (y.kind=9) && decide (0 < f.group) && decide (0 <= ((out.length:Nat):Int) - 1))=true/\grp y.fields (y.root + p - 1)=f.group) (λJ2 k2=>T.br (λh1=>?_) λh1=>k2 _ ⟨λh=>(by cases h),λh=>by rw [h1] at h;cases h.1⟩) λb hb2=>?_)))))) λo ho=>T.ck (by omega) (hL _ ⟨by dsimp only;omega,by dsimp only;omega,by
          have e:y.root + (p + 1)=y.root + p + 1:=by omega
          dsimp only;rw [e,znB (by omega),List.foldl_append,<- q3,ho];rfl,by dsimp only;rw [ho];exact ⟨λ_=>by omega,λ_=>(zoD _ _ _ _).2⟩⟩ (by dsimp only;omega))
      · have h2:=h1
        rw [zBa] at h2
        have h3:=zOT h2.2
        have h4:0 < p:=q4.1 (by omega)
        refine T.ck (by omega) (T.get (by omega) (by omega) λg hg=>k2 _ ?_)
        rw [decide_eq_true_iff,h1]
        have:grp y.fields (y.root + p - 1)=g.group:=by unfold grp;rw [hg];rfl
        rw [this]
        exact ⟨λh=>⟨rfl,h⟩,λh=>h.2⟩
      · have hgf:grp y.fields (y.root + p)=f.group:=by unfold grp;rw [hf];rfl
        have hiff:decide (0 < out.length)=decide (0 <= ((out.length:Nat):Int) - 1):=by rw [decide_eq_decide];omega
        refine T.br (λhbt=>?_) λhbf=>?_
        · have hc:=hb2.1 hbt
          have h2:=hc.1
          rw [zBa] at h2
          have h3:=zOT h2.2
          obtain ⟨z,hz⟩:∃ z,out[out.length - 1]?=some z:=⟨_,List.getElem?_eq_getElem (by omega)⟩
          have ei:(((out.length:Nat):Int) - 1).toNat=out.length - 1:=by omega
          have hzl:=hfold.2 z (List.mem_of_getElem? hz)
          have hs1:slot1 (!decide (y.kind=9)) y.fields out (y.root + p)=out.set (out.length - 1) (z ++ [y.root + p]):=by
            unfold slot1
            rw [hgf,hiff,if_pos hc,hz];rfl
          rw [hs1] at kk
          have hz':out[(((out.length:Nat):Int) - 1).toNat]?=some z:=by rw [ei];exact hz
          refine T.asd ⟨by omega,by omega⟩ (T.asd (by omega) (T.eq hz' (T.abl (by rw [zLs];omega) (T.asd ⟨by omega,by omega⟩ (T.asd (by omega) (T.eq hz' (kk _ ?_)))))))
          rw [ei]
        · have hs1:slot1 (!decide (y.kind=9)) y.fields out (y.root + p)=out ++ [[y.root + p]]:=by
            unfold slot1
            rw [hgf,hiff,if_neg (λh=>by rw [hb2.2 h] at hbf;cases hbf)]
          exact T.abl (by rw [zLs];omega) (kk _ hs1.symm)
    · have hb:=zOF hb
      rw [hpl] at hb
      have:y.root + p=y.fields.length:=by omega
      rw [q3,this];rfl
  · refine T.cal (Q:=λr=>r.kind=0) (by
      unfold zha
      refine T.or' (T.br (λh=>T.some rfl) λh=>?_)
      rw [Bool.or_eq_false_iff] at h
      have h1:=zOF h.1
      have h2:=zOF h.2
      omega) λy _ hy=>?_
    refine kindNot (T.br (λh=>T.some ?_) λh=>?_)
    · unfold slotsT
      split
      · rfl
      · rename_i x hx
        split at hx
        · have:=(List.getElem?_eq_some_iff.1 hx).1
          omega
        · cases hx
    · have:=zOT ((Bool.not_eq_false' _).mp h)
      omega
/-! ### Slots -/
def SlotOk (fs:List GFld) (a b:Int) (s:List Int):Prop:=∃ k0 r,s=k0 :: r/\(r=[] \/ 0 < grp fs k0)/\∀ k ∈ s,a <= k/\k < b
theorem SlotOk.mono {fs:List GFld} {a b b':Int} {s:List Int} (h:SlotOk fs a b s) (hb:b <= b'):SlotOk fs a b' s:=by
 obtain ⟨k0,r,h1,h2,h3⟩:=h
 exact ⟨k0,r,h1,h2,λk hk=>⟨(h3 k hk).1,by have:=(h3 k hk).2;omega⟩⟩
theorem zsC (c:Bool) (fs:List GFld) (a:Int):∀ n:Nat,(∀ s ∈ (rng a (a + n)).foldl (slot1 c fs) [],SlotOk fs a (a + n) s) /\
    (0 < n->∃ s,((rng a (a + n)).foldl (slot1 c fs) [])[((rng a (a + n)).foldl (slot1 c fs) []).length - 1]?=some s/\s.getLast?=some (a + n - 1))/\(n=0->(rng a (a + n)).foldl (slot1 c fs) []=[]):=by
  intro n
  induction n with
  | zero =>
    have e:rng a (a + ((0:Nat):Int))=[]:=zkC (by omega)
    rw [e]
    exact ⟨λs hs=>(by cases hs),λh=>absurd h (by omega),λ_=>rfl⟩
  | succ n ih =>
    obtain ⟨h1,h2,h3⟩:=ih
    have e:rng a (a + ((n + 1:Nat):Int))=rng a (a + n) ++ [a + n]:=by
      have:a + ((n + 1:Nat):Int)=a + n + 1:=by omega
      rw [this,znB (by omega)]
    rw [e,List.foldl_append]
    generalize hout:(rng a (a + n)).foldl (slot1 c fs) []=out at h1 h2 h3
    show (∀ s ∈ slot1 c fs out (a + n),_)/\(_->∃ s,(slot1 c fs out (a + n))[(slot1 c fs out (a + n)).length - 1]?=some s/\_)/\_
    refine ⟨?_,?_,λh=>absurd h (by omega)⟩
    · intro s hs
      unfold slot1 at hs
      split at hs
      · rename_i h
        obtain ⟨g1,g2⟩:=h
        rw [zBa,zBa] at g1
        have g3:=zOT g1.1.2
        have g4:=zOT g1.2
        have hn:0 < n:=by
          rcases Nat.eq_zero_or_pos n with h | h
          · rw [h3 h] at g4;exact absurd g4 (by simp)
          · exact h
        obtain ⟨s0,e0,e1⟩:=h2 hn
        rcases List.mem_or_eq_of_mem_set hs with h | h
        · exact (h1 s h).mono (by omega)
        · rw [e0] at h
          obtain ⟨k0,r,r1,r2,r3⟩:=h1 s0 (List.mem_of_getElem? e0)
          subst h
          refine ⟨k0,r ++ [a + n],by rw [r1];rfl,.inr ?_,λk hk=>?_⟩
          · rcases r2 with r2 | r2
            · subst r2
              rw [r1] at e1
              have:k0=a + n - 1:=by simpa using e1
              rw [this,g2];exact g3
            · exact r2
          · rcases List.mem_append.1 hk with h | h
            · have:=r3 k h;omega
            · rw [zMo.1 h];omega
      · rcases List.mem_append.1 hs with h | h
        · exact (h1 s h).mono (by omega)
        · rw [zMo.1 h]
          exact ⟨a + n,[],rfl,.inl rfl,λk hk=>by rw [zMo.1 hk];omega⟩
    · intro _
      unfold slot1
      split
      · rename_i h
        have g1:=h.1
        rw [zBa] at g1
        have g4:=zOT g1.2
        rw [List.length_set]
        refine ⟨_,List.getElem?_set_self (by omega),?_⟩
        rw [List.getLast?_append]
        show some (a + (n:Int))=_
        congr 1;omega
      · refine ⟨[a + n],?_,?_⟩
        · rw [zLa,zLs,List.getElem?_append_right (by omega)]
          have:out.length + 1 - 1 - out.length=0:=by omega
          rw [this];rfl
        · show some (a + (n:Int))=_
          congr 1;omega
theorem zp3 {x:GTyp} (h0:0 <= x.root):∀ s ∈ slots x,SlotOk x.fields x.root x.fields.length s:=by
 unfold slots
 rcases Int.lt_or_le x.root x.fields.length with h | h
 ·have e:((x.fields.length:Nat):Int)=x.root + ((((x.fields.length:Int) - x.root).toNat:Nat):Int):=by omega
  rw [e]
  exact (zsC _ x.fields x.root _).1
 ·rw [zkC h]
  intro s hs;cases hs
theorem zo6 {t:GTab} {i:Int} {x:GTyp} (h0:0 <= i) (hx:t.types[i.toNat]?=some x) (hk:x.kind=7 \/ x.kind=8):slotsT t i=slots x:=by
 unfold slotsT
 rw [if_pos h0,hx]
 exact if_pos (by omega)
theorem zoV {x:GTyp} (h0:0 <= x.root):(slots x).length <= x.fields.length:=by
 have:=(zlo (c:=!decide (x.kind=9)) (fs:=x.fields) (rng x.root x.fields.length) [] 0 (zNl _) (λs hs=>by cases hs)).1
 rw [zlD] at this
 unfold slots
 omega
theorem zoh {x:GTyp} (h0:0 <= x.root):∀ s ∈ slots x,s.length <= x.fields.length:=λs hs=>by
 have:=(zlo (c:=!decide (x.kind=9)) (fs:=x.fields) (rng x.root x.fields.length) [] 0 (zNl _) (λs hs=>by cases hs)).2 s hs
 rw [zlD] at this
 omega

/-! ### Small parts -/
theorem nt {c:Bool} (h:(!c)=false):c=true:=by
 cases c with
 | false=>cases h
 | true=>rfl
def wthn (c:GCon) (v:Int):Bool:=!c.has || ((!c.hasLow || decide (c.low <= v)) && (!c.hasHigh || decide (v <= c.high)))
theorem zgX (c:GCon) (v:Int):zen c v=some (wthn c v):=by
 unfold zen wthn
 generalize decide (c.low <= v)=d1
 generalize decide (v <= c.high)=d2
 cases c.has <;> cases c.hasLow <;> cases c.hasHigh <;> cases d1 <;> cases d2 <;> rfl
theorem ztO (x:GTyp) (n:Int) (hl:x.items.length <= 1000000) (hi:∃ it ∈ x.items,it.number=n):T (λr=>0 <= r) (zd1 x n):=by
 unfold zd1 za5
 refine T.cal (Q:=λr=>0 <= r) ?_ λr _ hr=>T.some hr
 refine T.lp (ι:=Int) (λ(q:Int)=>0 <= q/\q <= (x.items.length:Int)/\∀ k:Nat,(k:Int) < q->∀ it,x.items[k]?=some it->it.number ≠ n) (λ(q:Int)=>((x.items.length:Int) - q).toNat) ⟨zIl _,by omega,λk h=>by omega⟩ (by omega) λL q ⟨q1,q2,q3⟩ hL=>T.br (λh=>?_) λh=>?_
 ·have h:=zOT h
  refine T.get q1 h λy hy=>T.eq (y:=decide (y.number=n)) rfl (T.br (λh2=>T.some q1) λh2=>T.ck (by omega) (hL _ ⟨by omega,by omega,λk hk it hit=>?_⟩ (by omega)))
  rcases Int.lt_or_le (k:Int) q with h4 | h4
  ·exact q3 k h4 it hit
  ·have:k=q.toNat:=by omega
   rw [this,hy] at hit;cases hit
   exact zOF h2
 ·have h:=zOF h
  obtain ⟨it,h1,h2⟩:=hi
  obtain ⟨k,hk⟩:=List.mem_iff_getElem?.1 h1
  have:=(List.getElem?_eq_some_iff.1 hk).1
  exact absurd h2 (q3 k (by omega) it hk)
/-! ### What fits -/
def zeroV:Val:=Val.mk 0 0 [] [] 0 []
def thr (v:Val) (k:Int):Bool:=match v.l[k.toNat]? with
 | some w=>!decide (w.kind=0)
 | none=>false
def lck (x:GTyp) (v:Val) (k:Int):Bool:=!thr v k && !(match x.fields[k.toNat]? with
 | some f=>f.optional || f.has
 | none=>false)
def Grp (x:GTyp) (v:Val) (s:List Int):Prop:=(decide (0 < grp x.fields (s.headD 0)) && s.any (thr v) && s.any (lck x v))=false
def FldF (x:GTyp) (F:Int->Val->Prop) (k:Nat) (f:GFld) (w:Val):Prop :=
 (w.kind=0/\w=zeroV/\(f.optional=true \/ f.has=true \/ x.root <= (k:Int))) \/ (w.kind ≠ 0/\F f.ty w/\(f.has=true->w ≠ f.dflt))
def FitK (x:GTyp) (v:Val) (F:Int->Val->Prop):Prop :=
 (x.kind=1/\pln v true false false false=true/\(decide (v.n=0) || decide (v.n=1))=true) \/
 (x.kind=2/\pln v true false false false=true/\(x.con.more || wthn x.con v.n)=true) \/
 (x.kind=3/\pln v true false false false=true/\∃ it ∈ x.items,it.number=v.n) \/
 (x.kind=4/\pln v false false false false=true) \/
 ((x.kind=5 \/ x.kind=6)/\pln v false true false false=true/\(v.b.length:Int) <= 70000/\(x.con.more || wthn x.con (v.b.length:Int))=true/\(x.kind=5 \/ zdo v.b=some true)) \/
 (x.kind=10/\pln v false false true false=true/\(x.con.more || wthn x.con (v.l.length:Int))=true/\∀ w ∈ v.l,F x.of w) \/
 (x.kind=9/\pln v true false true false=true/\0 <= v.n/\∃ f w,x.fields[v.n.toNat]?=some f/\v.l=[w]/\F f.ty w) \/
 ((x.kind=7 \/ x.kind=8)/\pln v false false true true=true/\(v.more=[]->v.rule=0)/\v.l.length=x.fields.length /\
  (∀ (k:Nat) f w,x.fields[k]?=some f->v.l[k]?=some w->FldF x F k f w)/\∀ s ∈ slots x,Grp x v s)
def Fit (t:GTab):Nat->Int->Val->Prop
 | 0,_,_=>False
 | h + 1,i,v=>0 <= i/\∃ x:GTyp,t.types[i.toNat]?=some x/\(v.kind=12 \/ v.kind=x.kind/\FitK x v (Fit t h))
theorem zlG {l:List Int} {p:Int->Bool} {n:Nat} {y:Int} (h:l[n]?=some y):(l.take (n + 1)).any p=((l.take n).any p || p y):=by
 rw [List.take_add_one,h,List.any_append]
 simp
theorem zsX (x y:Raw):T (λr=>r=true ↔ x=y) (zfK x y):=by
 unfold zfK
 refine T.andI (P:=x.n=y.n) (Q:=x.b=y.b) decide_eq_true_iff (λJ kk=>T.eq (y:=decide (Str.mk x.b=Str.mk y.b)) rfl (kk _ ?_)) λb hb=>T.some ?_
 ·rw [decide_eq_true_iff]
  exact ⟨λh=>congrArg Str.b h,λh=>by rw [h]⟩
 ·rw [hb]
  obtain ⟨a,b⟩:=x
  obtain ⟨c,d⟩:=y
  exact ⟨λ⟨h1,h2⟩=>(by cases h1;cases h2;rfl),λh=>by cases h;exact ⟨rfl,rfl⟩⟩
theorem zmL:∀ {k n:Nat} {f:Val},cnt f <= k->2 * k <= n->Fine f->∀ g,T (λr=>r=true ↔ f=g) (zfV n f g):=by
 intro k
 induction k with
 | zero=>intro n f h;have:=zfz f;omega
 | succ k ih =>
  intro n f hk hn hf g
  obtain ⟨n,rfl⟩:∃ n',n=n' + 2:=⟨n - 2,by omega⟩
  show T _ (zgm (zfV (n + 1)) (za9 (n + 1)) f g)
  unfold zgm
  refine T.andI (P:=f.kind=g.kind) (Q:=f.n=g.n) decide_eq_true_iff (λJ kk=>kk _ decide_eq_true_iff) λb1 h1=>?_
  refine T.andI (Q:=f.b=g.b) h1 (λJ kk=>T.eq (y:=decide (Str.mk f.b=Str.mk g.b)) rfl (kk _ ?_)) λb2 h2=>?_
  ·rw [decide_eq_true_iff]
   exact ⟨λh=>congrArg Str.b h,λh=>by rw [h]⟩
  refine T.andI (Q:=f.l=g.l) h2 (λJ kk=>T.cal (Q:=λr=>r=true ↔ f.l=g.l) ?_ λr _ hr=>kk _ hr) λb3 h3=>?_
  ·show T _ (zar (zfV n) (za9 n) f.l g.l)
   unfold zar
   exact zl8 f.l g.l hf.l (λx hx y=>ih (by have:=zeq hx;omega) (by omega) (hf.kid x hx) y) λL q=>rfl
  refine T.andI (Q:=f.rule=g.rule) h3 (λJ kk=>kk _ decide_eq_true_iff) λb4 h4=>?_
  refine T.andI (Q:=f.more=g.more) h4 (λJ kk=>T.cal (Q:=λr=>r=true ↔ f.more=g.more) ?_ λr _ hr=>kk _ hr) λb5 h5=>T.some ?_
  ·unfold zaZ
   exact zl8 f.more g.more hf.more (λx hx y=>zsX x y) λL q=>rfl
  ·rw [h5,<- Val.eta f,<- Val.eta g]
   constructor
   ·rintro ⟨⟨⟨⟨⟨e1,e2⟩,e3⟩,e4⟩,e5⟩,e6⟩
    simp only [Val.eta] at e1 e2 e3 e4 e5 e6
    rw [e1,e2,e3,e4,e5,e6]
   ·intro h
    rw [Val.eta,Val.eta] at h
    subst h
    exact ⟨⟨⟨⟨⟨rfl,rfl⟩,rfl⟩,rfl⟩,rfl⟩,rfl⟩

/-! ### Stripped -/
theorem znK {v:Val} (h:bare (strip v)=true):v.kind ≠ 12/\∀ w ∈ v.l,bare (strip w)=true:=by
 have hk:v.kind ≠ 12:=λhk=>by
  rw [ziZ,if_pos hk,zkI] at h
  cases h
 refine ⟨hk,λw hw=>?_⟩
 rw [ziZ,if_neg hk,zkI] at h
 have h2:=(Bool.and_eq_true_iff.1 h).2
 exact List.all_eq_true.1 h2 _ (List.mem_map.2 ⟨strip w,List.mem_map.2 ⟨w,hw,rfl⟩,rfl⟩)
theorem zjT {v:Val} (hk:v.kind ≠ 12):strip v=Val.mk v.kind v.n v.b (v.l.map strip) 0 []:=by rw [ziZ,if_neg hk]
theorem zhS (v:Val):(strip v).kind=v.kind:=by
 rw [ziZ]
 split
 ·rename_i h;exact h.symm
 ·rfl
theorem zlv:strip zeroV=zeroV:=by rw [zjT (by decide)];rfl
theorem zrn:∀ (n:Nat) (v:Val),cnt v <= n->Fine v->Fine (strip v):=by
 intro n
 induction n with
 | zero=>intro v h;have:=zfz v;omega
 | succ n ih =>
  intro v hn hf
  rw [ziZ]
  split
  ·exact .mk (zNz _) (zNz _) (zNz _) (λr hr=>by cases hr) λw hw=>by cases hw
  ·refine .mk hf.b (by show (v.l.map strip).length <= _;rw [List.length_map];exact hf.l) (zNz _) (λr hr=>by cases hr) λw hw=>?_
   obtain ⟨w',h1,h2⟩:=List.mem_map.1 (show w ∈ v.l.map strip from hw)
   subst h2
   exact ih w' (by have:=zeq h1;omega) (hf.kid w' h1)
theorem zs9 {v:Val} (hk:v.kind ≠ 12) {n b l m m':Bool} (h:pln v n b l m=true):pln (strip v) n b l m'=true:=by
 rw [zjT hk]
 unfold pln at h ⊢
 rw [zBa] at h
 rw [zBa]
 refine ⟨?_,?_⟩
 ·show ((n || decide (v.n=0)) && (b || decide ((v.b.length:Int)=0)) && (l || decide (((v.l.map strip).length:Int)=0)))=true
  rw [List.length_map];exact h.1
 ·show (m' || (decide ((0:Int)=0) && decide (((0:Nat):Int)=0)))=true
  cases m' <;> rfl
theorem zfH {v:Val} {n b:Bool} (hk:v.kind ≠ 12) (h:pln v n b false false=true):strip v=v:=by
 unfold pln at h
 simp only [Bool.false_or,zBa,decide_eq_true_eq] at h
 obtain ⟨⟨⟨_,_⟩,h3⟩,h4,h5⟩:=h
 have e1:v.l=[]:=List.length_eq_zero_iff.1 (by omega)
 have e2:v.more=[]:=List.length_eq_zero_iff.1 (by omega)
 rw [zjT hk,e1,<- h4,<- e2,List.map_nil,<- e1]
 exact Val.eta v
theorem ztX {x:GTyp} {v:Val} {F:Int->Val->Prop} (h:FitK x v F) (h6:x.kind <= 6) (hk:v.kind ≠ 12):strip v=v:=by
 rcases h with ⟨_,h,_⟩ | ⟨_,h,_⟩ | ⟨_,h,_⟩ | ⟨_,h⟩ | ⟨_,h,_⟩ | ⟨h1,_⟩ | ⟨h1,_⟩ | ⟨h1,_⟩
 ·exact zfH hk h
 ·exact zfH hk h
 ·exact zfH hk h
 ·exact zfH hk h
 ·exact zfH hk h
 ·omega
 ·omega
 ·omega
theorem zoQ {t:GTab}:∀ {h:Nat} {i:Int} {v:Val},Fit t h i v->bare v=true->strip v=v:=by
 intro h
 induction h with
 | zero=>intro i v hf;exact hf.elim
 | succ h ih =>
  intro i v ⟨_,x,hx,hf⟩ hb
  rw [zkI,zBa] at hb
  have hb1:(decide (v.kind=12) || decide (0 < v.more.length))=false:=by simpa using hb.1
  rw [Bool.or_eq_false_iff] at hb1
  have hk:=zOF hb1.1
  have hm:v.more=[]:=List.length_eq_zero_iff.1 (by have:=zOF hb1.2;omega)
  have hkid:∀ w ∈ v.l,bare w=true:=λw hw=>List.all_eq_true.1 hb.2 _ (List.mem_map.2 ⟨w,hw,rfl⟩)
  have hf:=hf.resolve_left hk
  have fin:v.rule=0->(∀ w ∈ v.l,strip w=w)->strip v=v:=λhr hl=>by
   have:v.l.map strip=v.l:=by
    conv=>rhs;rw [<- List.map_id v.l]
    exact List.map_congr_left λw hw=>hl w hw
   rw [zjT hk,this]
   conv=>rhs;rw [<- Val.eta v,hr,hm]
  have pl:∀ {n b l:Bool},pln v n b l false=true->v.rule=0:=λh=>by
   unfold pln at h
   simp only [Bool.false_or,zBa,decide_eq_true_eq] at h
   exact h.2.1
  rcases hf.2 with ⟨_,h,_⟩ | ⟨_,h,_⟩ | ⟨_,h,_⟩ | ⟨_,h⟩ | ⟨_,h,_⟩ | ⟨_,h,_,h2⟩ | ⟨_,h,_,f,w,_,h2,h3⟩ | ⟨_,h,hr,hl,h2,_⟩
  ·exact zfH hk h
  ·exact zfH hk h
  ·exact zfH hk h
  ·exact zfH hk h
  ·exact zfH hk h
  ·exact fin (pl h) λw hw=>ih (h2 w hw) (hkid w hw)
  ·refine fin (pl h) λw' hw=>?_
   rw [h2] at hw
   rw [zMo.1 hw]
   exact ih h3 (hkid w (by rw [h2];exact zMo.2 rfl))
  ·refine fin (hr hm) λw hw=>?_
   obtain ⟨k,hkw⟩:=List.mem_iff_getElem?.1 hw
   have hlt:=(List.getElem?_eq_some_iff.1 hkw).1
   obtain ⟨f,hf⟩:∃ f,x.fields[k]?=some f:=⟨_,List.getElem?_eq_getElem (by omega)⟩
   rcases h2 k f w hf hkw with ⟨_,e,_⟩ | ⟨_,e,_⟩
   ·rw [e];exact zlv
   ·exact ih e (hkid w hw)

/-! ### The code's side -/
def zhi (t:GTab) (b:Bool):GChk:=GChk.mk (GTbd.mk t) b
theorem zoK {x:GTyp} {k:Int} {f:GFld} (h0:0 <= k) (hf:x.fields[k.toNat]?=some f):zgd x k=some (f.optional || f.has || decide (x.root <= k)):=by
 have hlt:=(List.getElem?_eq_some_iff.1 hf).1
 have e:getI x.fields k=some f:=by rw [zcQ h0 (by omega)];exact congrArg some (List.getElem?_eq_some_iff.1 hf).2
 refine T.eqs ?_
 unfold zgd
 refine T.eq e (T.orJ (d:=f.has) (λJ h=>T.eq e h) (T.or' (T.some rfl)))
theorem zro {t:GTab} (ht:TabOk t) {b:Bool} {i:Int} {x:GTyp} {v:Val} (h0:0 <= i) (hx:t.types[i.toNat]?=some x) (hk:x.kind=7 \/ x.kind=8) (hlen:v.l.length=x.fields.length)
    (hw:∀ w ∈ v.l,w.kind=0->w=zeroV) (hg:∀ s ∈ slots x,Grp x v s) (hfl:x.fields.length <= 1000) (hr0:0 <= x.root):zcm (zhi t b) i v=some (true,zhi t b):=by
  refine T.eqs ?_
  unfold zcm
  have hlt:=(List.getElem?_eq_some_iff.1 hx).1
  have e:getI t.types i=some x:=by rw [zcQ h0 (by omega)];exact congrArg some (List.getElem?_eq_some_iff.1 hx).2
  refine T.eq e (T.eq (zoN ht i) ?_)
  rw [zo6 h0 hx hk]
  have hsl:=zoV hr0
  refine T.lp (ι:=Int) (λ(q:Int)=>0 <= q/\q <= ((slots x).length:Int)) (λ(q:Int)=>(((slots x).length:Int) - q).toNat) ⟨zIl _,by omega⟩ (by omega) λL q ⟨q1,q2⟩ hL=>T.br (λhb=>?_) λhb=>T.some rfl
  have hb:=zOT hb
  refine T.jp (ι:=Unit) (λ_=>True) (λJ kk=>?_) λ_ _=>T.ck (by omega) (hL _ ⟨by omega,by omega⟩ (by omega))
  refine T.get q1 hb λs hs=>?_
  have hsm:=List.mem_of_getElem? hs
  obtain ⟨k0,r,e0,e1,e2⟩:=zp3 hr0 s hsm
  have hsl2:=zoh hr0 s hsm
  obtain ⟨k1,k2⟩:=e2 k0 (by rw [e0];exact zMs)
  refine T.get (zIl _) (by rw [e0,zLc];omega) λk hk'=>?_
  have ek:k=k0:=by rw [e0] at hk';simpa using hk'.symm
  subst ek
  refine T.get (by omega) k2 λf hff=>T.br (λ_=>kk _ trivial) λhgz=>?_
  have hgz:=zOF hgz
  have eg:grp x.fields k=f.group:=by unfold grp;rw [hff];rfl
  refine T.lp (ι:=Bool × Bool × Int) (λp=>0 <= p.2.2/\p.2.2 <= (s.length:Int)/\p.1=(s.take p.2.2.toNat).any (thr v)/\p.2.1=(s.take p.2.2.toNat).any (lck x v)) (λp=>((s.length:Int) - p.2.2).toNat) ⟨zIl _,by dsimp only;omega,rfl,rfl⟩ (by dsimp only;omega) λL2 p ⟨p1,p2,p3,p4⟩ hL2=>T.br (λhc2=>?_) λhc2=>?_
  · obtain ⟨so,la,m⟩:=p
    dsimp only at p1 p2 p3 p4 hL2 hc2 ⊢
    have hc2:=zOT hc2
    have em:(m + 1).toNat=m.toNat + 1:=by omega
    refine T.get p1 hc2 λk hk=>?_
    obtain ⟨k1,k2⟩:=e2 k (List.mem_of_getElem? hk)
    refine T.get (by omega) (by omega) λw hwk=>T.eq (zhC w) ?_
    have ea:(decide (w.kind=0) && pln w false false false false)=decide (w.kind=0):=by
      by_cases hz:w.kind=0
      · rw [zl9.2 (hw w (List.mem_of_getElem? hwk) hz),zDT hz]
      · rw [zDF hz];rfl
    rw [ea]
    obtain ⟨f',hf'⟩:∃ f,x.fields[k.toNat]?=some f:=⟨_,List.getElem?_eq_getElem (by omega)⟩
    have e':getI x.fields k=some f':=by rw [zcQ (by omega) (by omega)];exact congrArg some (List.getElem?_eq_some_iff.1 hf').2
    have eth:(!decide (w.kind=0))=thr v k:=by unfold thr;rw [hwk]
    have elk:(!(!decide (w.kind=0)) && (!f'.optional) && (!f'.has))=lck x v k:=by
      unfold lck
      rw [<- eth,hf']
      show _=(!(!decide (w.kind=0)) && !(f'.optional || f'.has))
      cases decide (w.kind=0) <;> cases f'.optional <;> cases f'.has <;> rfl
    refine T.or' (T.orJ (d:=lck x v k) (λJ h2=>T.andJ (d:=!f'.optional) (λJ3 h3=>T.eq e' h3) (T.andJ (d:=!f'.has) (λJ3 h3=>T.eq e' h3) ?_)) (T.ck (by omega) (hL2 _ ⟨by dsimp only;omega,by dsimp only;omega,?_,?_⟩ (by dsimp only;omega))))
    · rw [elk];exact h2
    · dsimp only;rw [em,zlG hk,p3,eth]
    · dsimp only;rw [em,zlG hk,p4]
  · obtain ⟨so,la,m⟩:=p
    dsimp only at p1 p2 p3 p4 hL2 hc2 ⊢
    have hc2:=zOF hc2
    rw [zTl (by omega)] at p3 p4
    refine T.and' ?_
    have hno:(so && la)=false:=by
      rcases e1 with e1 | e1
      · rw [p3,p4,e0,e1]
        unfold lck
        show ((thr v k || false) && ((!thr v k && _) || false))=false
        cases thr v k <;> rfl
      · have:=hg s hsm
        unfold Grp at this
        have eh:s.headD 0=k:=by rw [e0];rfl
        rw [eh,zDT e1,Bool.true_and] at this
        rw [p3,p4];exact this
    rw [hno]
    exact T.br (λh=>by cases h) λ_=>kk _ trivial
theorem zqd {t:GTab} (ht:TabOk t) {b:Bool}:∀ {h n:Nat} {i:Int} {v:Val} {d:Int},0 <= d->d + h=18->6 * h + 6 <= n->Fine v->cnt v <= 100000->Fit t h i v->bare (strip v)=true->zav n (zhi t b) i (strip v) d=some (true,zhi t b):=by
 intro h
 induction h with
 | zero=>intro n i v d _ _ _ _ _ hf;exact hf.elim
 | succ h ih =>
  intro n i v d d0 hd hn hf hc hfit hb
  obtain ⟨n,rfl⟩:∃ n',n=n' + 6:=⟨n - 6,by omega⟩
  obtain ⟨hk12,hkb⟩:=znK hb
  obtain ⟨i0,x,hx,hfk⟩:=hfit
  obtain ⟨hkk,hfk⟩:=hfk.resolve_left hk12
  have htl:=ht.types
  have hvl:=hf.l
  have hlt:=(List.getElem?_eq_some_iff.1 hx).1
  obtain ⟨j,hj⟩:=SubT.sub ht.kids i.toNat (by omega) (by omega)
  have hjl:=hj.inb
  obtain ⟨x',hx',hok,hkid⟩:=hj
  rw [hx] at hx';cases hx'
  have hfl:=zny hkid hjl (by omega)
  have hil:=hok.ilen
  have es:=zjT hk12
  have esl:(strip v).l=v.l.map strip:=by rw [es];rfl
  have esk:(strip v).kind=v.kind:=zhS v
  have esn:(strip v).n=v.n:=by rw [es];rfl
  have esb:(strip v).b=v.b:=by rw [es];rfl
  have eg:getI t.types i=some x:=by rw [zcQ i0 (by omega)];exact congrArg some (List.getElem?_eq_some_iff.1 hx).2
  refine T.eqs ?_
  show T _ (zby (zaF (n + 5)) (zav (n + 5)) (zaY (n + 5)) (zG (n + 5)) (zI (n + 5)) (zaM (n + 5)) (zhi t b) i (strip v) d)
  unfold zby
  refine T.or' (T.or' (T.br (λhq=>?_) λ_=>?_))
  ·rw [Bool.or_eq_true,Bool.or_eq_true] at hq
   rcases hq with (hq | hq) | hq
   ·have:=zOT hq;omega
   ·have:=zOT hq
    have:(t.types.length:Int) <= i:=this
    omega
   ·have:=zOT hq;omega
  refine T.eq eg (T.br (λh=>absurd (zOT h) (by rw [esk];exact hk12)) λ_=>T.br (λh=>?_) λ_=>?_)
  ·rw [esk,hkk] at h
   simp at h
  have P:∀ {n' b' l' m':Bool},pln v n' b' l' m'=true->∀ m2,pln (strip v) n' b' l' m2=true:=λh m2=>zs9 hk12 h
  rcases hfk with ⟨k,h1,h2⟩ | ⟨k,h1,h2⟩ | ⟨k,h1,h2⟩ | ⟨k,h1⟩ | ⟨k,h1,h2,h3,h4⟩ | ⟨k,h1,h2,h3⟩ | ⟨k,h1,h2,f,w,h3,h4,h5⟩ | ⟨k,h1,h2,h3,h4,h5⟩
  ·refine T.br (λ_=>?_) λh=>absurd k (zOF h)
   refine T.eq (zcM _ _ (by decide)) (T.andJ (d:=decide ((strip v).n=0) || decide ((strip v).n=1)) (λJ hh=>T.or' hh) (T.some ?_))
   have e:pln (strip v) (!decide (andI 1 1=0)) (!decide (andI 1 2=0)) (!decide (andI 1 4=0)) (!decide (andI 1 8=0))=true:=P h1 false
   rw [e,esn,h2];rfl
  ·refine T.br (λh=>absurd (zOT h) (by rw [k];decide)) λ_=>T.br (λ_=>?_) λh=>absurd k (zOF h)
   refine T.eq (zcM _ _ (by decide)) (T.andJ (d:=x.con.more || wthn x.con (strip v).n) (λJ hh=>T.orJ (d:=wthn x.con (strip v).n) (λJ2 h2=>T.eq (zgX _ _) h2) hh) (T.some ?_))
   have e:pln (strip v) (!decide (andI 1 1=0)) (!decide (andI 1 2=0)) (!decide (andI 1 4=0)) (!decide (andI 1 8=0))=true:=P h1 false
   rw [e,esn,h2];rfl
  ·refine T.br (λh=>absurd (zOT h) (by rw [k];decide)) λ_=>T.br (λh=>absurd (zOT h) (by rw [k];decide)) λ_=>T.br (λ_=>?_) λh=>absurd k (zOF h)
   have e:pln (strip v) (!decide (andI 1 1=0)) (!decide (andI 1 2=0)) (!decide (andI 1 4=0)) (!decide (andI 1 8=0))=true:=P h1 false
   refine T.eq (zcM _ _ (by decide)) (T.jp (λb=>b=true) (λJ hh=>T.br (λ_=>?_) λh=>by rw [e] at h;cases h) λb hb=>T.some (by rw [hb]))
   refine T.cal (ztO x (strip v).n (by omega) (by rw [esn];exact h2)) λr _ hr=>hh _ (zDT hr)
  ·refine T.br (λh=>absurd (zOT h) (by rw [k];decide)) λ_=>T.br (λh=>absurd (zOT h) (by rw [k];decide)) λ_=>T.br (λh=>absurd (zOT h) (by rw [k];decide)) λ_=>T.br (λ_=>?_) λh=>absurd k (zOF h)
   have e:pln (strip v) (!decide (andI 0 1=0)) (!decide (andI 0 2=0)) (!decide (andI 0 4=0)) (!decide (andI 0 8=0))=true:=P h1 false
   exact T.eq (zcM _ _ (by decide)) (T.some (by rw [e]))
  all_goals refine T.br (λh=>absurd (zOT h) (by omega)) λ_=>T.br (λh=>absurd (zOT h) (by omega)) λ_=>T.br (λh=>absurd (zOT h) (by omega)) λ_=>T.br (λh=>absurd (zOT h) (by omega)) λ_=>?_
  ·refine T.jp (λb=>b=true) (λJ kk=>T.br (λh=>kk _ h) λh=>kk _ (zDT (k.resolve_left (zOF h)))) λb56 hb56=>?_
   subst hb56
   refine T.br (λ_=>?_) λh=>by cases h
   refine T.eq (y:=(true,zhi t b)) ?_ (T.some rfl)
   refine T.eqs ?_
   unfold zdv
   have e:pln (strip v) (!decide (andI 2 1=0)) (!decide (andI 2 2=0)) (!decide (andI 2 4=0)) (!decide (andI 2 8=0))=true:=P h1 false
   refine T.eq (zcM _ _ (by decide)) (T.and' (T.andJ (d:=x.con.more || wthn x.con ((strip v).b.length:Int)) (λJ hh=>T.orJ (d:=wthn x.con ((strip v).b.length:Int)) (λJ2 h2=>T.eq (zgX _ _) h2) hh) ?_))
   rw [e,esb,h3,zDT h2]
   refine T.jp (λb=>b=true) (λJ kk=>T.br (λ_=>?_) λh=>by cases h) λc hc=>T.some (by rw [hc])
   refine T.jp (λb=>b=true) (λJ2 k2=>T.br (λh5=>k2 _ rfl) λh5=>T.eq (h4.resolve_left (zOF h5)) (k2 _ rfl)) λc hc=>kk _ hc
  all_goals refine T.jp (λb=>b=false) (λJ kk=>T.br (λh=>absurd (zOT h) (by omega)) λh=>kk _ (zDF (by omega))) λb56 hb56=>T.br (λh=>by rw [hb56] at h;cases h) λ_=>?_
  ·refine T.br (λ_=>?_) λh=>absurd k (zOF h)
   refine T.eq (y:=(true,zhi t b)) ?_ (T.some rfl)
   refine T.eqs ?_
   show T _ (zcn (zaF (n + 4)) (zav (n + 4)) (zaY (n + 4)) (zG (n + 4)) (zI (n + 4)) (zaM (n + 4)) (zhi t b) x (strip v) d)
   unfold zcn
   have e:pln (strip v) (!decide (andI 4 1=0)) (!decide (andI 4 2=0)) (!decide (andI 4 4=0)) (!decide (andI 4 8=0))=true:=P h1 false
   refine T.eq (zcM _ _ (by decide)) (T.andJ (d:=x.con.more || wthn x.con ((strip v).l.length:Int)) (λJ hh=>T.orJ (d:=wthn x.con ((strip v).l.length:Int)) (λJ2 h2=>T.eq (zgX _ _) h2) hh) ?_)
   rw [e,esl,List.length_map,h2]
   refine T.jp (ι:=Bool × GChk) (λp=>p=(true,zhi t b)) (λJ kk=>T.br (λ_=>?_) λh=>by cases h) λp hp=>T.some (by rw [hp])
   refine T.eq (y:=(false,zhi t b)) ?_ (kk _ rfl)
   refine T.eqs ?_
   show T _ (zaw (zaF (n + 3)) (zav (n + 3)) (zaY (n + 3)) (zG (n + 3)) (zI (n + 3)) (zaM (n + 3)) (v.l.map strip) (zhi t b) x d)
   unfold zaw
   refine T.eq (y:=((-1:Int),zhi t b)) ?_ (T.some rfl)
   refine T.eqs ?_
   show T _ (zaA (zaF (n + 2)) (zav (n + 2)) (zaY (n + 2)) (zG (n + 2)) (zI (n + 2)) (zaM (n + 2)) (v.l.map strip) (zhi t b) x d)
   unfold zaA
   refine T.lp (ι:=Int × GChk) (λq=>0 <= q.1/\q.1 <= (v.l.length:Int)/\q.2=zhi t b) (λq=>((v.l.length:Int) - q.1).toNat) ⟨zIl _,by dsimp only;omega,rfl⟩ (by dsimp only;omega) λL q ⟨q1,q2,q3⟩ hL=>T.br (λhb2=>?_) λ_=>T.some (by rw [q3])
   obtain ⟨q,c⟩:=q
   dsimp only at q1 q2 q3 hL hb2 ⊢
   subst q3
   have hb2:=zOT hb2
   rw [List.length_map] at hb2
   refine T.get q1 (by rw [List.length_map];exact hb2) λy hy=>?_
   rw [List.getElem?_map] at hy
   obtain ⟨w,hw1,hw2⟩:=Option.map_eq_some_iff.1 hy
   subst hw2
   have hwm:=List.mem_of_getElem? hw1
   refine T.eq (y:=(false,zhi t b)) ?_ (T.br (λh=>by cases h) λ_=>T.ck (by omega) (hL _ ⟨by dsimp only;omega,by dsimp only;omega,rfl⟩ (by dsimp only;omega)))
   refine T.eqs ?_
   show T _ (zbM (zaF (n + 1)) (zav (n + 1)) (zaY (n + 1)) (zG (n + 1)) (zI (n + 1)) (zaM (n + 1)) (strip w) (zhi t b) x d)
   unfold zbM
   exact T.ck (by omega) (T.eq (ih (by omega) (by omega) (by omega) (hf.kid w hwm) (by have:=zeq hwm;omega) (h3 w hwm) (hkb w hwm)) (T.some rfl))
  ·refine T.br (λh=>absurd (zOT h) (by omega)) λ_=>T.br (λ_=>?_) λh=>absurd k (zOF h)
   have e:pln (strip v) (!decide (andI 5 1=0)) (!decide (andI 5 2=0)) (!decide (andI 5 4=0)) (!decide (andI 5 8=0))=true:=P h1 false
   have hnl:=(List.getElem?_eq_some_iff.1 h3).1
   have hl1:(strip v).l=[strip w]:=by rw [esl,h4];rfl
   have hwm:w ∈ v.l:=by rw [h4];exact zMo.2 rfl
   refine T.eq (zcM _ _ (by decide)) (T.and' (T.and' (T.and' ?_)))
   rw [e,esn,hl1,zDT h2,zDT (show v.n < (x.fields.length:Int) by omega)]
   refine T.jp (ι:=Bool × GChk) (λp=>p=(true,zhi t b)) (λJ kk=>T.br (λ_=>?_) λh=>by cases h) λp hp=>T.some (by rw [hp])
   refine T.get h2 (by omega) λf' hf'=>?_
   rw [h3] at hf';cases hf'
   refine T.eq (y:=strip w) rfl (T.ck (by omega) (T.eq (ih (by omega) (by omega) (by omega) (hf.kid w hwm) (by have:=zeq hwm;omega) h5 (hkb w hwm)) (kk _ rfl)))
  ·refine T.br (λh=>absurd (zOT h) (by omega)) λ_=>T.br (λh=>absurd (zOT h) (by omega)) λ_=>?_
   refine T.jp (λb=>b=true) (λJ kk=>T.br (λh=>kk _ h) λh=>kk _ (zDT (k.resolve_left (zOF h)))) λb78 hb78=>?_
   subst hb78
   refine T.br (λ_=>?_) λh=>by cases h
   refine T.eq (y:=(true,zhi t b)) ?_ (T.some rfl)
   refine T.eqs ?_
   show T _ (zb5 (zaF (n + 4)) (zav (n + 4)) (zaY (n + 4)) (zG (n + 4)) (zI (n + 4)) (zaM (n + 4)) (zhi t b) i (strip v) d)
   unfold zb5
   have e:pln (strip v) (!decide (andI 12 1=0)) (!decide (andI 12 2=0)) (!decide (andI 12 4=0)) (!decide (andI 12 8=0))=true:=P h1 true
   refine T.eq eg (T.eq (zcM _ _ (by decide)) (T.or' ?_))
   rw [e,esl,List.length_map,h3,zDT rfl]
   refine T.jp (ι:=Bool × GChk) (λp=>p=(false,zhi t b)) (λJ kk=>T.br (λh=>by cases h) λ_=>T.eq (y:=(true,zhi t b)) ?_ (kk _ rfl)) λp hp=>?_
   ·refine T.eqs ?_
    unfold zdl
    refine T.eq eg (T.br (λ_=>T.some ?_) λh=>?_)
    ·rw [es];rfl
    ·rw [es] at h;cases h
   subst hp
   refine T.br (λh=>by cases h) λ_=>?_
   refine T.lp (ι:=Int × GChk) (λq=>0 <= q.1/\q.1 <= (x.fields.length:Int)/\q.2=zhi t b) (λq=>((x.fields.length:Int) - q.1).toNat) ⟨zIl _,by dsimp only;omega,rfl⟩ (by dsimp only;omega) λL q ⟨q1,q2,q3⟩ hL=>?_
   obtain ⟨q,c⟩:=q
   dsimp only at q1 q2 q3 hL ⊢
   subst q3
   refine T.br (λhb2=>?_) λ_=>?_
   ·have hb2:=zOT hb2
    refine T.jp (ι:=GChk) (λp=>p=zhi t b) (λJ kk=>?_) λp hp=>T.ck (by omega) (hL _ ⟨by dsimp only;omega,by dsimp only;omega,hp⟩ (by dsimp only;omega))
    refine T.get q1 hb2 λf hff=>T.get q1 (by rw [List.length_map];omega) λy hy=>?_
    rw [List.getElem?_map] at hy
    obtain ⟨w,hw1,hw2⟩:=Option.map_eq_some_iff.1 hy
    subst hw2
    have hwm:=List.mem_of_getElem? hw1
    have hfw:=h4 q.toNat f w hff hw1
    have hcw:=zeq hwm
    rw [zhS w]
    refine T.br (λhz=>?_) λhz=>?_
    ·have hz:=zOT hz
     obtain ⟨_,z1,z2⟩:=hfw.resolve_right λh=>h.1 hz
     rw [z1,zlv]
     refine T.eq (zhC _) ?_
     have ea:(decide (zeroV.kind=0) && pln zeroV false false false false)=true:=rfl
     rw [ea]
     have el:(f.optional || f.has || decide (x.root <= q))=true:=by
      rcases z2 with z2 | z2 | z2
      ·rw [z2];rfl
      ·rw [z2];simp
      ·rw [zDT (show x.root <= q by omega)];simp
     refine T.orJ (d:=false) (λJ2 hh=>T.eq (zoK q1 hff) (by rw [el];exact hh)) (T.br (λh=>by cases h) λ_=>kk _ rfl)
    ·have hz:=zOF hz
     obtain ⟨_,z1,z2⟩:=hfw.resolve_left λh=>hz h.1
     refine T.ck (by omega) (T.eq (ih (by omega) (by omega) (by omega) (hf.kid w hwm) (by omega) z1 (hkb w hwm)) ?_)
     have hdk:=hok.dflt f (List.mem_of_getElem? hff)
     have hne:f.has=true->strip w ≠ f.dflt:=λhh e=>by
      have hk2:w.kind=f.dflt.kind:=by rw [<- zhS w,e]
      cases h with
      | zero=>exact z1.elim
      | succ h =>
       obtain ⟨_,x2,_,g⟩:=z1
       have h12:=(znK (hkb w hwm)).1
       obtain ⟨g1,g2⟩:=g.resolve_left h12
       have:strip w=w:=ztX g2 (by rw [<- g1,hk2];exact hdk.2.2.2.2.1) h12
       exact z2 hh (this ▸ e)
     refine T.orJ (d:=false) (λJ2 hh=>T.jp (λb=>b=false) (λJ3 k3=>T.br (λh1=>?_) λ_=>k3 _ rfl) λb hb=>by rw [hb];exact hh) (T.br (λh=>by cases h) λ_=>kk _ rfl)
     refine T.cal (zmL (k:=100000) (n:=fuel) (by have:=zsZ 100000 w (by omega);omega) (by unfold fuel;omega) (zrn 100000 w (by omega) (hf.kid w hwm)) _) λr _ hr=>k3 _ ?_
     cases r with
     | true=>exact absurd (hr.1 rfl) (hne h1)
     | false=>rfl
   ·refine T.eq (zro ht (v:=strip v) i0 hx k (by rw [esl,List.length_map,h3]) (λw hw hz=>?_) (λs hs=>?_) hfl hok.root0) (T.some rfl)
    ·rw [esl] at hw
     obtain ⟨w',hw1,hw2⟩:=List.mem_map.1 hw
     subst hw2
     rw [zhS] at hz
     obtain ⟨k',hk'⟩:=List.mem_iff_getElem?.1 hw1
     have:=(List.getElem?_eq_some_iff.1 hk').1
     obtain ⟨f,hff⟩:∃ f,x.fields[k']?=some f:=⟨_,List.getElem?_eq_getElem (by omega)⟩
     obtain ⟨_,z1,_⟩:=(h4 k' f w' hff hk').resolve_right λh=>h.1 hz
     rw [z1];exact zlv
    ·have:=h5 s hs
     have et:thr (strip v)=thr v:=by
      funext k
      unfold thr
      rw [esl,List.getElem?_map]
      cases v.l[k.toNat]? with
      | none=>rfl
      | some w=>show (!decide ((strip w).kind=0))=_;rw [zhS]
     unfold Grp lck at this ⊢
     rw [et]
     exact this
end Go.Proofs.Q


namespace Go.Proofs.Q
open Go.Sy
set_option maxRecDepth 4000
def zaq (a_r_:GLex) (a_k:Int):Option (UInt8 × GLex) :=
 ck ((a_r_.reader.at_ + a_k)) <| br (decide ((a_r_.reader.s.b.length:Int) <= (a_r_.reader.at_ + a_k))) (some ((0:UInt8),a_r_)) (ck ((a_r_.reader.at_ + a_k)) <| cal (getI a_r_.reader.s.b (a_r_.reader.at_ + a_k)) λy7=>some (y7,a_r_))

def zbQ (a_s:Str) (zdW:Str):Option (Bool) :=
 jp (ι:=Bool) (λJ2=>br (decide ((zdW.b.length:Int) <= (a_s.b.length:Int))) (asr (decide (0 <= (0:Int)/\(0:Int) <= (zdW.b.length:Int)/\(zdW.b.length:Int) <= (a_s.b.length:Int))) <| J2 ((decide ((Str.mk ((a_s.b.take ((zdW.b.length:Int)).toNat).drop (0:Int).toNat))=zdW)))) (J2 (false))) (λq1=>some (q1))

def zfa (a_s:Str) (zdW:Str):Option (Bool) :=
 cal (zbQ a_s zdW) λy1=>some (y1)

def zb9 (a_r_:GLex) (a_t:Str):Option (Bool × GLex) :=
 asr (decide (0 <= a_r_.reader.at_/\a_r_.reader.at_ <= (a_r_.reader.s.b.length:Int)/\(a_r_.reader.s.b.length:Int) <= (a_r_.reader.s.b.length:Int))) <| cal (zfa (Str.mk ((a_r_.reader.s.b.take ((a_r_.reader.s.b.length:Int)).toNat).drop (a_r_.reader.at_).toNat)) a_t) λy4=>some (y4,a_r_)

def zdN (a_r_:GLex):Option (GLex) :=
 lp (ι:=GLex) (λL2 q1=>br (decide (q1.reader.at_ < (q1.reader.s.b.length:Int))) (cal (zaq q1 (0:Int)) λy65=>jp (ι:=Bool) (λJ67=>br (decide (y65.1=(32:UInt8))) (J67 (true)) (J67 ((decide (y65.1=(9:UInt8)))))) (λq66=>jp (ι:=Bool) (λJ70=>br q66 (J70 (true)) (J70 ((decide (y65.1=(10:UInt8)))))) (λq69=>jp (ι:=Bool) (λJ73=>br q69 (J73 (true)) (J73 ((decide (y65.1=(13:UInt8)))))) (λq72=>br q72 (ck ((y65.2.reader.at_ + (1:Int))) <| L2 ({ y65.2 with reader:={ y65.2.reader with at_:=(y65.2.reader.at_ + (1:Int)) } })) (cal (zb9 y65.2 (Str.mk [45,45])) λy76=>br y76.1 (ck ((y76.2.reader.at_ + (2:Int))) <| lp (ι:=GLex) (λL79 q78=>jp (ι:=Bool × GLex) (λJ102=>jp (ι:=Bool × GLex) (λJ104=>br (decide (q78.reader.at_ < (q78.reader.s.b.length:Int))) (cal (zaq q78 (0:Int)) λy106=>J104 ((!decide (y106.1=(10:UInt8))),y106.2)) (J104 (false,q78))) (λq103=>jp (ι:=Bool × GLex) (λJ108=>br q103.1 (cal (zb9 q103.2 (Str.mk [45,45])) λy110=>J108 ((!y110.1),y110.2)) (J108 (false,q103.2))) (λq107=>J102 (q107.1,q107.2)))) (λq101=>br q101.1 (ck ((q101.2.reader.at_ + (1:Int))) <| L79 ({ q101.2 with reader:={ q101.2.reader with at_:=(q101.2.reader.at_ + (1:Int)) } })) (cal (zb9 q101.2 (Str.mk [45,45])) λy120=>br y120.1 (ck ((y120.2.reader.at_ + (2:Int))) <| L2 ({ y120.2 with reader:={ y120.2.reader with at_:=(y120.2.reader.at_ + (2:Int)) } })) (L2 (y120.2))))) (({ y76.2 with reader:={ y76.2.reader with at_:=(y76.2.reader.at_ + (2:Int)) } }))) (some (y76.2))))))) (some (q1))) ((a_r_))

def zfU (a_c:UInt8):Option (Bool) :=
 jp (ι:=Bool) (λJ2=>br (decide ((97:UInt8) <= a_c)) (J2 ((decide (a_c <= (122:UInt8))))) (J2 (false))) (λq1=>jp (ι:=Bool) (λJ5=>br q1 (J5 (true)) (jp (ι:=Bool) (λJ8=>br (decide ((65:UInt8) <= a_c)) (J8 ((decide (a_c <= (90:UInt8))))) (J8 (false))) (λq7=>J5 (q7)))) (λq4=>some (q4)))

def zfA (a_c:UInt8):Option (Bool) :=
 jp (ι:=Bool) (λJ2=>br (decide ((48:UInt8) <= a_c)) (J2 ((decide (a_c <= (57:UInt8))))) (J2 (false))) (λq1=>some (q1))

def zka (a_s:Str):Option (Bool) :=
 jp (ι:=Bool) (λJ2=>br (decide (a_s=(Str.mk [68,69,70,73,78,73,84,73,79,78,83]))) (J2 ((decide (a_s=(Str.mk [68,69,70,73,78,73,84,73,79,78,83]))))) (br (decide (a_s=(Str.mk [69,88,80,76,73,67,73,84]))) (J2 ((decide (a_s=(Str.mk [69,88,80,76,73,67,73,84]))))) (br (decide (a_s=(Str.mk [73,77,80,76,73,67,73,84]))) (J2 ((decide (a_s=(Str.mk [73,77,80,76,73,67,73,84]))))) (br (decide (a_s=(Str.mk [65,85,84,79,77,65,84,73,67]))) (J2 ((decide (a_s=(Str.mk [65,85,84,79,77,65,84,73,67]))))) (br (decide (a_s=(Str.mk [84,65,71,83]))) (J2 ((decide (a_s=(Str.mk [84,65,71,83]))))) (br (decide (a_s=(Str.mk [66,69,71,73,78]))) (J2 ((decide (a_s=(Str.mk [66,69,71,73,78]))))) (br (decide (a_s=(Str.mk [69,78,68]))) (J2 ((decide (a_s=(Str.mk [69,78,68]))))) (br (decide (a_s=(Str.mk [66,79,79,76,69,65,78]))) (J2 ((decide (a_s=(Str.mk [66,79,79,76,69,65,78]))))) (br (decide (a_s=(Str.mk [73,78,84,69,71,69,82]))) (J2 ((decide (a_s=(Str.mk [73,78,84,69,71,69,82]))))) (br (decide (a_s=(Str.mk [69,78,85,77,69,82,65,84,69,68]))) (J2 ((decide (a_s=(Str.mk [69,78,85,77,69,82,65,84,69,68]))))) (br (decide (a_s=(Str.mk [78,85,76,76]))) (J2 ((decide (a_s=(Str.mk [78,85,76,76]))))) (br (decide (a_s=(Str.mk [79,67,84,69,84]))) (J2 ((decide (a_s=(Str.mk [79,67,84,69,84]))))) (br (decide (a_s=(Str.mk [83,84,82,73,78,71]))) (J2 ((decide (a_s=(Str.mk [83,84,82,73,78,71]))))) (br (decide (a_s=(Str.mk [85,84,70,56,83,116,114,105,110,103]))) (J2 ((decide (a_s=(Str.mk [85,84,70,56,83,116,114,105,110,103]))))) (br (decide (a_s=(Str.mk [83,69,81,85,69,78,67,69]))) (J2 ((decide (a_s=(Str.mk [83,69,81,85,69,78,67,69]))))) (br (decide (a_s=(Str.mk [83,69,84]))) (J2 ((decide (a_s=(Str.mk [83,69,84]))))) (br (decide (a_s=(Str.mk [67,72,79,73,67,69]))) (J2 ((decide (a_s=(Str.mk [67,72,79,73,67,69]))))) (br (decide (a_s=(Str.mk [79,70]))) (J2 ((decide (a_s=(Str.mk [79,70]))))) (br (decide (a_s=(Str.mk [79,80,84,73,79,78,65,76]))) (J2 ((decide (a_s=(Str.mk [79,80,84,73,79,78,65,76]))))) (br (decide (a_s=(Str.mk [68,69,70,65,85,76,84]))) (J2 ((decide (a_s=(Str.mk [68,69,70,65,85,76,84]))))) (br (decide (a_s=(Str.mk [83,73,90,69]))) (J2 ((decide (a_s=(Str.mk [83,73,90,69]))))) (br (decide (a_s=(Str.mk [77,73,78]))) (J2 ((decide (a_s=(Str.mk [77,73,78]))))) (br (decide (a_s=(Str.mk [77,65,88]))) (J2 ((decide (a_s=(Str.mk [77,65,88]))))) (br (decide (a_s=(Str.mk [84,82,85,69]))) (J2 ((decide (a_s=(Str.mk [84,82,85,69]))))) (J2 ((decide (a_s=(Str.mk [70,65,76,83,69]))))))))))))))))))))))))))))) (λq1=>br q1 (some (true)) (some (false)))

def zfs (a_l:GLex):Option (Int × Str × GLex) :=
 cal (zaq a_l (0:Int)) λy1=>lp (ι:=UInt8 × GLex) (λL3 q2=>cal (zfU q2.1) λy28=>jp (ι:=Bool) (λJ30=>br y28 (J30 (true)) (cal (zfA q2.1) λy32=>J30 (y32))) (λq29=>jp (ι:=Bool × GLex) (λJ34=>br q29 (J34 (true,q2.2)) (jp (ι:=Bool × GLex) (λJ37=>br (decide (q2.1=(45:UInt8))) (cal (zaq q2.2 (1:Int)) λy39=>J37 ((!decide (y39.1=(45:UInt8))),y39.2)) (J37 (false,q2.2))) (λq36=>J34 (q36.1,q36.2)))) (λq33=>br q33.1 (ck ((q33.2.reader.at_ + (1:Int))) <| cal (zaq ({ q33.2 with reader:={ q33.2.reader with at_:=(q33.2.reader.at_ + (1:Int)) } }) (0:Int)) λy41=>L3 (y41.1,y41.2)) (asr (decide (0 <= a_l.reader.at_/\a_l.reader.at_ <= q33.2.reader.at_/\q33.2.reader.at_ <= (q33.2.reader.s.b.length:Int))) <| jp (ι:=Bool) (λJ46=>br (decide ((60:Int) < ((Str.mk ((q33.2.reader.s.b.take (q33.2.reader.at_).toNat).drop (a_l.reader.at_).toNat)).b.length:Int))) (J46 (true)) (ck ((((Str.mk ((q33.2.reader.s.b.take (q33.2.reader.at_).toNat).drop (a_l.reader.at_).toNat)).b.length:Int) - (1:Int))) <| cal (getI (Str.mk ((q33.2.reader.s.b.take (q33.2.reader.at_).toNat).drop (a_l.reader.at_).toNat)).b (((Str.mk ((q33.2.reader.s.b.take (q33.2.reader.at_).toNat).drop (a_l.reader.at_).toNat)).b.length:Int) - (1:Int))) λy49=>J46 ((decide (y49=(45:UInt8)))))) (λq45=>br q45 (some ((0:Int),(Str.mk []),q33.2)) (cal (zka (Str.mk ((q33.2.reader.s.b.take (q33.2.reader.at_).toNat).drop (a_l.reader.at_).toNat))) λy50=>br y50 (some ((5:Int),(Str.mk ((q33.2.reader.s.b.take (q33.2.reader.at_).toNat).drop (a_l.reader.at_).toNat)),q33.2)) (cal (getI (Str.mk ((q33.2.reader.s.b.take (q33.2.reader.at_).toNat).drop (a_l.reader.at_).toNat)).b (0:Int)) λy51=>br (decide (y51 <= (90:UInt8))) (some ((1:Int),(Str.mk ((q33.2.reader.s.b.take (q33.2.reader.at_).toNat).drop (a_l.reader.at_).toNat)),q33.2)) (some ((2:Int),(Str.mk ((q33.2.reader.s.b.take (q33.2.reader.at_).toNat).drop (a_l.reader.at_).toNat)),q33.2))))))))) ((y1.1,y1.2))

def zeE (a_l:GLex):Option (Int × Str × GLex) :=
 cal (zaq a_l (0:Int)) λy1=>jp (ι:=GLex) (λJ3=>br (decide (y1.1=(45:UInt8))) (ck ((y1.2.reader.at_ + (1:Int))) <| J3 ({ y1.2 with reader:={ y1.2.reader with at_:=(y1.2.reader.at_ + (1:Int)) } })) (J3 (y1.2))) (λq2=>lp (ι:=GLex) (λL6 q5=>cal (zaq q5 (0:Int)) λy30=>cal (zfA y30.1) λy31=>br y31 (ck ((y30.2.reader.at_ + (1:Int))) <| L6 ({ y30.2 with reader:={ y30.2.reader with at_:=(y30.2.reader.at_ + (1:Int)) } })) (asr (decide (0 <= a_l.reader.at_/\a_l.reader.at_ <= y30.2.reader.at_/\y30.2.reader.at_ <= (y30.2.reader.s.b.length:Int))) <| cal (getI y30.2.reader.s.b q2.reader.at_) λy36=>cal (zbj (Str.mk ((y30.2.reader.s.b.take (y30.2.reader.at_).toNat).drop (a_l.reader.at_).toNat)) (10:Int) (64:Int)) λy37=>jp (ι:=Bool) (λJ39=>br y37.2.bad (J39 (true)) (jp (ι:=Bool) (λJ42=>br (decide (y36=(48:UInt8))) (ck ((y30.2.reader.at_ - q2.reader.at_)) <| jp (ι:=Bool) (λJ46=>br (decide ((1:Int) < (y30.2.reader.at_ - q2.reader.at_))) (J46 (true)) (J46 ((decide (a_l.reader.at_ < q2.reader.at_))))) (λq45=>J42 (q45))) (J42 (false))) (λq41=>J39 (q41)))) (λq38=>jp (ι:=Bool × GLex) (λJ49=>br q38 (J49 (true,y30.2)) (cal (zaq y30.2 (0:Int)) λy51=>cal (zfU y51.1) λy52=>J49 (y52,y51.2))) (λq48=>br q48.1 (some ((0:Int),(Str.mk []),q48.2)) (some ((3:Int),(Str.mk ((y30.2.reader.s.b.take (y30.2.reader.at_).toNat).drop (a_l.reader.at_).toNat)),q48.2)))))) ((q2)))

def zfI (a_l:GLex):Option (Int × Str × GLex) :=
 ck ((a_l.reader.at_ + (1:Int))) <| cal (zaq ({ a_l with reader:={ a_l.reader with at_:=(a_l.reader.at_ + (1:Int)) } }) (0:Int)) λy2=>lp (ι:=UInt8 × GLex) (λL4 q3=>cal (zfA q3.1) λy23=>jp (ι:=Bool) (λJ25=>br y23 (J25 (true)) (jp (ι:=Bool) (λJ28=>br (decide ((65:UInt8) <= q3.1)) (J28 ((decide (q3.1 <= (70:UInt8))))) (J28 (false))) (λq27=>J25 (q27)))) (λq24=>br q24 (ck ((q3.2.reader.at_ + (1:Int))) <| cal (zaq ({ q3.2 with reader:={ q3.2.reader with at_:=(q3.2.reader.at_ + (1:Int)) } }) (0:Int)) λy31=>L4 (y31.1,y31.2)) (asr (decide (0 <= (a_l.reader.at_ + (1:Int))/\(a_l.reader.at_ + (1:Int)) <= q3.2.reader.at_/\q3.2.reader.at_ <= (q3.2.reader.s.b.length:Int))) <| asr (!decide ((2:Int)=0)) <| jp (ι:=Bool × GLex) (λJ37=>br (!decide ((((Str.mk ((q3.2.reader.s.b.take (q3.2.reader.at_).toNat).drop ((a_l.reader.at_ + (1:Int))).toNat)).b.length:Int).tmod (2:Int))=(0:Int))) (J37 (true,q3.2)) (cal (zb9 q3.2 (Str.mk [39,72])) λy39=>J37 ((!y39.1),y39.2))) (λq36=>br q36.1 (some ((0:Int),(Str.mk []),q36.2)) (ck ((q36.2.reader.at_ + (2:Int))) <| some ((4:Int),(Str.mk ((q3.2.reader.s.b.take (q3.2.reader.at_).toNat).drop ((a_l.reader.at_ + (1:Int))).toNat)),{ q36.2 with reader:={ q36.2.reader with at_:=(q36.2.reader.at_ + (2:Int)) } })))))) ((y2.1,y2.2))

def zfm (a_l:GLex):Option (Int × Str × GLex) :=
 ck ((a_l.reader.at_ + (1:Int))) <| lp (ι:=(List UInt8) × GLex) (λL3 q2=>br (decide (q2.2.reader.at_ < (q2.2.reader.s.b.length:Int))) (cal (zaq q2.2 (0:Int)) λy19=>jp (ι:=GLex) (λJ21=>br (decide (y19.1=(34:UInt8))) (ck ((y19.2.reader.at_ + (1:Int))) <| cal (zaq ({ y19.2 with reader:={ y19.2.reader with at_:=(y19.2.reader.at_ + (1:Int)) } }) (0:Int)) λy23=>br (!decide (y23.1=(34:UInt8))) (cal (zdo q2.1) λy24=>br (!y24) (some ((0:Int),(Str.mk []),y23.2)) (some ((7:Int),(Str.mk q2.1),y23.2))) (J21 (y23.2))) (J21 (y19.2))) (λq20=>cal (zaq q20 (0:Int)) λy25=>asr (Nat.ble (q2.1.length + ([y25.1]:(List UInt8)).length) 68719476736) <| ck ((y25.2.reader.at_ + (1:Int))) <| L3 ((q2.1 ++ ([y25.1]:(List UInt8))),{ y25.2 with reader:={ y25.2.reader with at_:=(y25.2.reader.at_ + (1:Int)) } }))) (some ((0:Int),(Str.mk []),q2.2))) ((([]:(List UInt8)),{ a_l with reader:={ a_l.reader with at_:=(a_l.reader.at_ + (1:Int)) } }))

def zfu (a_l:GLex):Option (Int × Str × GLex) :=
 lp (ι:=Int × GLex) (λL3 q2=>br (decide (q2.1 < (([(Str.mk [58,58,61]),(Str.mk [46,46,46]),(Str.mk [46,46]),(Str.mk [91,91]),(Str.mk [93,93]),(Str.mk [123]),(Str.mk [125]),(Str.mk [91]),(Str.mk [93]),(Str.mk [40]),(Str.mk [41]),(Str.mk [44]),(Str.mk [58])]:(List Str)).length:Int))) (cal (getI ([(Str.mk [58,58,61]),(Str.mk [46,46,46]),(Str.mk [46,46]),(Str.mk [91,91]),(Str.mk [93,93]),(Str.mk [123]),(Str.mk [125]),(Str.mk [91]),(Str.mk [93]),(Str.mk [40]),(Str.mk [41]),(Str.mk [44]),(Str.mk [58])]:(List Str)) q2.1) λy8=>cal (zb9 q2.2 y8) λy9=>br y9.1 (ck ((y9.2.reader.at_ + (y8.b.length:Int))) <| some ((6:Int),y8,{ y9.2 with reader:={ y9.2.reader with at_:=(y9.2.reader.at_ + (y8.b.length:Int)) } })) (ck ((q2.1 + (1:Int))) <| L3 ((q2.1 + (1:Int)),y9.2))) (some ((0:Int),(Str.mk []),q2.2))) (((0:Int),a_l))

def zeW (a_l:GLex):Option (Int × Str × GLex) :=
 cal (zaq a_l (0:Int)) λy1=>cal (zfU y1.1) λy2=>br y2 (cal (zfs y1.2) λy3=>some (y3.1,y3.2.1,y3.2.2)) (cal (zfA y1.1) λy4=>jp (ι:=Bool × GLex) (λJ6=>br y4 (J6 (true,y1.2)) (jp (ι:=Bool × GLex) (λJ9=>br (decide (y1.1=(45:UInt8))) (cal (zaq y1.2 (1:Int)) λy11=>cal (zfA y11.1) λy12=>J9 (y12,y11.2)) (J9 (false,y1.2))) (λq8=>J6 (q8.1,q8.2)))) (λq5=>br q5.1 (cal (zeE q5.2) λy13=>some (y13.1,y13.2.1,y13.2.2)) (br (decide (y1.1=(39:UInt8))) (cal (zfI q5.2) λy14=>some (y14.1,y14.2.1,y14.2.2)) (br (decide (y1.1=(34:UInt8))) (cal (zfm q5.2) λy15=>some (y15.1,y15.2.1,y15.2.2)) (cal (zfu q5.2) λy16=>some (y16.1,y16.2.1,y16.2.2))))))

def zhP (zaV:Str):Option ((List GTok) × Int × Int) :=
 br (decide ((8000:Int) < (zaV.b.length:Int))) (some (([]:(List GTok)),(0:Int),(5:Int))) (cal (zdN (GLex.mk (GLrd.mk zaV (0:Int)))) λy2=>lp (ι:=(List GTok) × GLex) (λL4 q3=>br (decide (q3.2.reader.at_ < (zaV.b.length:Int))) (cal (zeW q3.2) λy13=>br (decide (y13.1=(0:Int))) (some (([]:(List GTok)),q3.2.reader.at_,(6:Int))) (asr (Nat.ble (q3.1.length + ([(GTok.mk y13.1 y13.2.1 q3.2.reader.at_)]:(List GTok)).length) 68719476736) <| cal (zdN y13.2.2) λy17=>L4 ((q3.1 ++ ([(GTok.mk y13.1 y13.2.1 q3.2.reader.at_)]:(List GTok))),y17))) (asr (Nat.ble (q3.1.length + ([(GTok.mk (0:Int) (Str.mk []) (zaV.b.length:Int))]:(List GTok)).length) 68719476736) <| some ((q3.1 ++ ([(GTok.mk (0:Int) (Str.mk []) (zaV.b.length:Int))]:(List GTok))),(0:Int),(0:Int)))) ((([]:(List GTok)),y2)))
end Go.Proofs.Q


namespace Go.Proofs.Q
open Go.Sy
set_option maxRecDepth 4000
def zaG (a_p:GNpr) (zl7:(List Str)):Option (GNpr) :=
 lp (ι:=Int × GNpr) (λL3 q2=>br (decide (q2.1 < (zl7.length:Int))) (cal (getI zl7 q2.1) λy8=>asr (Nat.ble (q2.2.b.length + y8.b.length) 68719476736) <| ck ((q2.1 + (1:Int))) <| L3 ((q2.1 + (1:Int)),(GNpr.mk q2.2.t (q2.2.b ++ y8.b)))) (some (q2.2))) (((0:Int),a_p))

def ziE (a_b:(List UInt8)):Option (Str) :=
 lp (ι:=(List UInt8) × Int) (λL3 q2=>br (decide (q2.2 < (a_b.length:Int))) (cal (getI a_b q2.2) λy15=>asr (Nat.ble (4:UInt64).toNat 8) <| cal (getI (Str.mk [48,49,50,51,52,53,54,55,56,57,65,66,67,68,69,70]).b ((shr8 y15 (4:UInt64).toNat).toNat:Int)) λy17=>cal (getI (Str.mk [48,49,50,51,52,53,54,55,56,57,65,66,67,68,69,70]).b ((y15 &&& (15:UInt8)).toNat:Int)) λy18=>asr (Nat.ble (q2.1.length + ([y17,y18]:(List UInt8)).length) 68719476736) <| ck ((q2.2 + (1:Int))) <| L3 ((q2.1 ++ ([y17,y18]:(List UInt8))),(q2.2 + (1:Int)))) (asr (Nat.ble (q2.1.length + ([(39:UInt8),(72:UInt8)]:(List UInt8)).length) 68719476736) <| some ((Str.mk (q2.1 ++ ([(39:UInt8),(72:UInt8)]:(List UInt8))))))) ((([(39:UInt8)]:(List UInt8)),(0:Int)))

def zga (a_v:Val):Option (Str) :=
 br (decide (a_v.kind=(1:Int))) (br (!decide (a_v.n=(0:Int))) (some ((Str.mk [84,82,85,69]))) (some ((Str.mk [70,65,76,83,69])))) (br (decide (a_v.kind=(4:Int))) (some ((Str.mk [78,85,76,76]))) (br (decide (a_v.kind=(2:Int))) (cal (zeh a_v.n (10:Int)) λy1=>some (y1)) (br (decide (a_v.kind=(3:Int))) (some ((Str.mk a_v.b))) (br (decide (a_v.kind=(5:Int))) (cal (ziE a_v.b) λy2=>some (y2)) (br (decide (a_v.kind=(6:Int))) (cal (strings_ReplaceAll (Str.mk a_v.b) (Str.mk [34]) (Str.mk [34,34])) λy3=>asr (Nat.ble ((Str.mk [34]).b.length + y3.b.length) 4611686018427387904) <| asr (Nat.ble ((Str.mk ((Str.mk [34]).b ++ y3.b)).b.length + (Str.mk [34]).b.length) 4611686018427387904) <| some ((Str.mk ((Str.mk ((Str.mk [34]).b ++ y3.b)).b ++ (Str.mk [34]).b)))) (some ((Str.mk []))))))))

def zcP (zaf:Int->GNpr->GTyp->Val->Option (Bool × GNpr)) (zai:GNpr->Int->Val->Option (GNpr)) (zal:GNpr->Int->GTyp->Val->Option (GNpr)) (zae:GNpr->Int->Val->GTyp->Option (GNpr)) (zag:Int->Val->GNpr->GTyp->Option (Bool × GNpr)) (a_k:Int) (a_a1:GNpr) (a_a2:GTyp) (a_a3:Val):Option (Bool × GNpr) :=
 cal (getI a_a3.l a_k) λy2=>cal (zai a_a1 a_a2.of y2) λy3=>some (true,y3)
def zdx (zaf:Int->GNpr->GTyp->Val->Option (Bool × GNpr)) (zai:GNpr->Int->Val->Option (GNpr)) (zal:GNpr->Int->GTyp->Val->Option (GNpr)) (zae:GNpr->Int->Val->GTyp->Option (GNpr)) (zag:Int->Val->GNpr->GTyp->Option (Bool × GNpr)) (a_p:GNpr) (a_i:Int) (a_v:Val):Option (GNpr) :=
 cal (getI a_p.t.types a_i) λy2=>br (decide (y2.kind=(3:Int))) (cal (zd1 y2 a_v.n) λy4=>cal (getI y2.items y4) λy5=>cal (zaG a_p ([y5.name]:(List Str))) λy7=>some (y7)) (br (decide (y2.kind=(10:Int))) (cal (zal a_p (a_v.l.length:Int) y2 a_v) λy9=>some (y9)) (br (decide (y2.kind=(9:Int))) (cal (getI y2.fields a_v.n) λy11=>cal (zaG a_p ([y11.name,(Str.mk [32,58,32])]:(List Str))) λy14=>cal (getI a_v.l (0:Int)) λy16=>cal (zai y14 y11.ty y16) λy17=>some (y17)) (jp (ι:=Bool) (λJ20=>br (decide (y2.kind=(7:Int))) (J20 ((decide (y2.kind=(7:Int))))) (J20 ((decide (y2.kind=(8:Int)))))) (λq19=>br q19 (cal (zae a_p (a_v.l.length:Int) a_v y2) λy21=>some (y21)) (cal (zga a_v) λy23=>cal (zaG a_p ([y23]:(List Str))) λy25=>some (y25))))))
def zde (zaf:Int->GNpr->GTyp->Val->Option (Bool × GNpr)) (zai:GNpr->Int->Val->Option (GNpr)) (zal:GNpr->Int->GTyp->Val->Option (GNpr)) (zae:GNpr->Int->Val->GTyp->Option (GNpr)) (zag:Int->Val->GNpr->GTyp->Option (Bool × GNpr)) (a_p:GNpr) (a_n_:Int) (zek:GTyp) (zcI:Val):Option (GNpr) :=
 lp (ι:=Bool × Int × GNpr) (λL3 q2=>br (decide (q2.2.1 < a_n_)) (jp (ι:=Bool × GNpr) (λJ19=>jp (ι:=GNpr) (λJ21=>br q2.1 (cal (zaG q2.2.2 ([(Str.mk [123,32])]:(List Str))) λy23=>J21 (y23)) (cal (zaG q2.2.2 ([(Str.mk [44,32])]:(List Str))) λy26=>J21 (y26))) (λq20=>cal (zaf q2.2.1 q20 zek zcI) λy28=>br y28.1 (J19 (false,y28.2)) (asr (decide (0 <= ((q2.2.2.b.length:Nat):Int)/\((q2.2.2.b.length:Nat):Int) <= (y28.2.b.length:Int))) <| J19 (q2.1,(GNpr.mk y28.2.t (y28.2.b.take (((q2.2.2.b.length:Nat):Int)).toNat)))))) (λq18=>ck ((q2.2.1 + (1:Int))) <| L3 (q18.1,(q2.2.1 + (1:Int)),q18.2))) (br q2.1 (cal (zaG q2.2.2 ([(Str.mk [123,125])]:(List Str))) λy33=>some (y33)) (cal (zaG q2.2.2 ([(Str.mk [32,125])]:(List Str))) λy36=>some (y36)))) ((true,(0:Int),a_p))
def zcO (zaf:Int->GNpr->GTyp->Val->Option (Bool × GNpr)) (zai:GNpr->Int->Val->Option (GNpr)) (zal:GNpr->Int->GTyp->Val->Option (GNpr)) (zae:GNpr->Int->Val->GTyp->Option (GNpr)) (zag:Int->Val->GNpr->GTyp->Option (Bool × GNpr)) (a_p:GNpr) (a_n_:Int) (zlP:Val) (zcI:GTyp):Option (GNpr) :=
 lp (ι:=Bool × Int × GNpr) (λL3 q2=>br (decide (q2.2.1 < a_n_)) (jp (ι:=Bool × GNpr) (λJ19=>jp (ι:=GNpr) (λJ21=>br q2.1 (cal (zaG q2.2.2 ([(Str.mk [123,32])]:(List Str))) λy23=>J21 (y23)) (cal (zaG q2.2.2 ([(Str.mk [44,32])]:(List Str))) λy26=>J21 (y26))) (λq20=>cal (zag q2.2.1 zlP q20 zcI) λy28=>br y28.1 (J19 (false,y28.2)) (asr (decide (0 <= ((q2.2.2.b.length:Nat):Int)/\((q2.2.2.b.length:Nat):Int) <= (y28.2.b.length:Int))) <| J19 (q2.1,(GNpr.mk y28.2.t (y28.2.b.take (((q2.2.2.b.length:Nat):Int)).toNat)))))) (λq18=>ck ((q2.2.1 + (1:Int))) <| L3 (q18.1,(q2.2.1 + (1:Int)),q18.2))) (br q2.1 (cal (zaG q2.2.2 ([(Str.mk [123,125])]:(List Str))) λy33=>some (y33)) (cal (zaG q2.2.2 ([(Str.mk [32,125])]:(List Str))) λy36=>some (y36)))) ((true,(0:Int),a_p))
def zcg (zaf:Int->GNpr->GTyp->Val->Option (Bool × GNpr)) (zai:GNpr->Int->Val->Option (GNpr)) (zal:GNpr->Int->GTyp->Val->Option (GNpr)) (zae:GNpr->Int->Val->GTyp->Option (GNpr)) (zag:Int->Val->GNpr->GTyp->Option (Bool × GNpr)) (a_k:Int) (a_a1:Val) (a_a2:GNpr) (a_a3:GTyp):Option (Bool × GNpr) :=
 cal (getI a_a1.l a_k) λy2=>cal (zeT y2) λy3=>br y3 (some (false,a_a2)) (cal (getI a_a3.fields a_k) λy4=>cal (zaG a_a2 ([y4.name,(Str.mk [32])]:(List Str))) λy6=>cal (getI a_a3.fields a_k) λy8=>cal (getI a_a1.l a_k) λy9=>cal (zai y6 y8.ty y9) λy10=>some (true,y10))
def zb1:Nat->(Int->GNpr->GTyp->Val->Option (Bool × GNpr)) × (GNpr->Int->Val->Option (GNpr)) × (GNpr->Int->GTyp->Val->Option (GNpr)) × (GNpr->Int->Val->GTyp->Option (GNpr)) × (Int->Val->GNpr->GTyp->Option (Bool × GNpr))
 | 0=>(λ_ _ _ _=>none,λ_ _ _=>none,λ_ _ _ _=>none,λ_ _ _ _=>none,λ_ _ _ _=>none)
 | n + 1=>let p:=zb1 n;(zcP p.1 p.2.1 p.2.2.1 p.2.2.2.1 p.2.2.2.2,zdx p.1 p.2.1 p.2.2.1 p.2.2.2.1 p.2.2.2.2,zde p.1 p.2.1 p.2.2.1 p.2.2.2.1 p.2.2.2.2,zcO p.1 p.2.1 p.2.2.1 p.2.2.2.1 p.2.2.2.2,zcg p.1 p.2.1 p.2.2.1 p.2.2.2.1 p.2.2.2.2)
def zce (n:Nat):Int->GNpr->GTyp->Val->Option (Bool × GNpr):=(zb1 n).1
def zbB (n:Nat):GNpr->Int->Val->Option (GNpr):=(zb1 n).2.1
def zcA (n:Nat):GNpr->Int->GTyp->Val->Option (GNpr):=(zb1 n).2.2.1
def zbG (n:Nat):GNpr->Int->Val->GTyp->Option (GNpr):=(zb1 n).2.2.2.1
def zcd (n:Nat):Int->Val->GNpr->GTyp->Option (Bool × GNpr):=(zb1 n).2.2.2.2

def zh4 (a_t:GTab) (a_i:Int) (a_v:Val):Option (Str × Int) :=
 cal (zeR a_t a_i a_v) λy1=>br (!y1) (some ((Str.mk []),(13:Int))) (cal (zfl fuel a_v) λy2=>br (!y2) (some ((Str.mk []),(16:Int))) (cal (zbB fuel (GNpr.mk a_t ([]:(List UInt8))) a_i a_v) λy5=>br (decide ((8000:Int) < ((y5.b.length:Nat):Int))) (some ((Str.mk []),(5:Int))) (some ((Str.mk y5.b),(0:Int)))))

def zfZ (zku:UInt64->Option (Str)) (a_v:UInt64):Option (Str) :=
 br (decide (a_v < (10:UInt64))) (some ((Str.mk ([((48:UInt64) + a_v).toUInt8]:(List UInt8))))) (jp (ι:=Str) (λJ3=>asr (!decide ((10:UInt64)=0)) <| asr (!decide ((10:UInt64)=0)) <| cal (zku (a_v / (10:UInt64))) λy6=>asr (Nat.ble (y6.b.length + (Str.mk ([((48:UInt64) + (a_v % (10:UInt64))).toUInt8]:(List UInt8))).b.length) 4611686018427387904) <| J3 ((Str.mk (y6.b ++ (Str.mk ([((48:UInt64) + (a_v % (10:UInt64))).toUInt8]:(List UInt8))).b)))) (λq2=>some (q2)))
def zl0:Nat->(UInt64->Option (Str))
 | 0=>(λ_=>none)
 | n + 1=>let p:=zl0 n;(zfZ p)
def zhd (n:Nat):UInt64->Option (Str):=(zl0 n)

def zko (a_v:Int):Option (Str) :=
 br (decide (a_v < (0:Int))) (ck ((a_v + (1:Int))) <| ck ((-(a_v + (1:Int)))) <| cal (zhd fuel ((UInt64.ofNat ((-(a_v + (1:Int))) % 18446744073709551616).toNat) + (1:UInt64))) λy3=>asr (Nat.ble ((Str.mk [45]).b.length + y3.b.length) 4611686018427387904) <| some ((Str.mk ((Str.mk [45]).b ++ y3.b)))) (cal (zhd fuel (UInt64.ofNat (a_v % 18446744073709551616).toNat)) λy5=>some (y5))
end Go.Proofs.Q


namespace Go.Proofs.Q
open Go.Sy
set_option linter.unusedVariables false

theorem tx {β:Type} {o:Option β} {x:β} (h:T (λr=>r=x) o):o=some x:=by
 obtain ⟨r,h1,h2⟩:=h;rw [h1,h2]
def hd:List UInt8->UInt8
 | []=>0
 | c :: _=>c
theorem zvD (b:List UInt8) (n:Nat):hd (b.drop n)=(b[n]?).getD 0:=by
 rcases Nat.lt_or_ge n b.length with h | h
 ·rw [List.drop_eq_getElem_cons h,List.getElem?_eq_getElem h];rfl
 ·rw [zDn h,List.getElem?_eq_none h];rfl
theorem dropc {b:List UInt8} {n:Nat} {y:UInt8} (h:b[n]?=some y):b.drop n=y :: b.drop (n + 1):=by
 obtain ⟨h1,h2⟩:=List.getElem?_eq_some_iff.1 h
 rw [List.drop_eq_getElem_cons h1,h2]
theorem zmU (s:Str) (i:Int) (h:0 <= i):zgx s i=some (hd (s.b.drop i.toNat)):=by
 obtain ⟨r,h1,h2⟩:=zwe s i
 rw [h1,h2,if_pos h,zvD]

/-! ### White -/
inductive Wst where
 | out
 | start
 | ins
 | fin
def isWh (c:UInt8):Bool:=decide (c=32) || decide (c=9) || decide (c=10) || decide (c=13)
def wh:Wst->List UInt8->List UInt8
 | _,[]=>[]
 | .out,c :: r=>bif isWh c then wh .out r else bif decide (c=45) && decide (hd r=45) then wh .start r else c :: r
 | .start,_ :: r=>wh .ins r
 | .ins,c :: r=>bif decide (c=10) then wh .out r else bif decide (c=45) && decide (hd r=45) then wh .fin r else wh .ins r
 | .fin,_ :: r=>wh .out r
theorem zoR {b:List UInt8} {n:Nat} (h:hd (b.drop n)=45):n < b.length:=by
 rcases Nat.lt_or_ge n b.length with h2 | h2
 ·exact h2
 ·rw [zDn h2] at h;cases h
theorem skip1 {b:List UInt8} {n:Nat} (h:n < b.length):∃ c,b.drop n=c :: b.drop (n + 1):=⟨_,List.drop_eq_getElem_cons h⟩
theorem zt0 (s:Str) (i:Int) (h0:0 <= i) (h1:i <= s.b.length) (hl:s.b.length <= 1000000):ziX s i=some ((s.b.length:Int) - ((wh .out (s.b.drop i.toNat)).length:Int)):=by
 refine tx ?_
 unfold ziX
 refine T.lp (λk=>i <= k/\k <= s.b.length/\wh .out (s.b.drop k.toNat)=wh .out (s.b.drop i.toNat)) (λk=>(s.b.length - k).toNat) ⟨zIl _,h1,rfl⟩ (by omega) λL k ⟨k1,k2,k3⟩ hL=>?_
 rw [<- k3] at hL ⊢
 refine T.br (λhb=>?_) (λhb=>T.some ?_)
 rotate_left
 ·have hb:=zOF hb
  rw [zDn (by omega)]
  simp only [wh,zLn];omega
 have hb:=zOT hb
 refine T.get (by omega) hb λy hy=>?_
 have e:=dropc hy
 have e1:(k + 1).toNat=k.toNat + 1:=by omega
 refine T.jp (λq=>q=(decide (y=32) || decide (y=9))) (λJ h=>T.br (λh2=>h _ (by rw [h2];rfl)) λh2=>T.get (by omega) hb λy' hy'=>h _ (by rw [hy] at hy';cases hy';rw [h2];rfl)) λq hq=>?_
 refine T.jp (λq'=>q'=(q || decide (y=10))) (λJ h=>T.br (λh2=>h _ (by rw [h2];rfl)) λh2=>T.get (by omega) hb λy' hy'=>h _ (by rw [hy] at hy';cases hy';rw [h2];rfl)) λq' hq'=>?_
 refine T.jp (λq2=>q2=(q' || decide (y=13))) (λJ h=>T.br (λh2=>h _ (by rw [h2];rfl)) λh2=>T.get (by omega) hb λy' hy'=>h _ (by rw [hy] at hy';cases hy';rw [h2];rfl)) λq2 hq2=>?_
 have hw:q2=isWh y:=by rw [hq2,hq',hq];rfl
 refine T.br (λh2=>T.ck (by omega) ?_) λh2=>?_
 ·refine hL _ ⟨by omega,by omega,?_⟩ (by omega)
  rw [e1,e];simp only [wh,<- hw,h2,zCt]
 refine T.get (by omega) hb λy' hy'=>?_
 rw [hy] at hy';cases hy'
 refine T.jp (λq=>q=(decide (y=45) && decide (hd (s.b.drop (k.toNat + 1))=45))) (λJ h=>T.br (λh3=>T.ck (by omega) (T.eq (zmU s _ (by omega)) (h _ (by rw [h3,e1];rfl)))) λh3=>h _ (by rw [h3];rfl)) λq3 hq3=>?_
 refine T.br (λh3=>T.ck (by omega) ?_) (λh3=>T.some ?_)
 rotate_left
 ·rw [e];simp only [wh,<- hw,h2,zCf,<- hq3,h3,zLc,zLd];omega
 have h45:hd (s.b.drop (k.toNat + 1))=45:=by rw [hq3] at h3;simpa using (Bool.and_eq_true_iff.1 h3).2
 have hlt:=zoR h45
 obtain ⟨c,ec⟩:=skip1 hlt
 have e2:(k + 2).toNat=k.toNat + 1 + 1:=by omega
 have hins:wh .out (s.b.drop k.toNat)=wh .ins (s.b.drop (k + 2).toNat):=by
  rw [e,e2];simp only [wh,<- hw,h2,zCf,<- hq3,h3,zCt];rw [ec];simp only [wh]
 refine T.lp (λj=>k + 2 <= j/\j <= s.b.length/\wh .out (s.b.drop k.toNat)=wh .ins (s.b.drop j.toNat)) (λj=>(s.b.length - j).toNat) ⟨zIl _,by omega,hins⟩ (by omega) λL2 j ⟨j1,j2,j3⟩ hL2=>?_
 refine T.jp (λq=>(q=true->j < s.b.length/\∀ y,s.b[j.toNat]?=some y->y ≠ 10)/\(q=false->wh .out (s.b.drop j.toNat)=wh .ins (s.b.drop j.toNat))) (λJ h=>T.br (λh4=>?_) λh4=>h _ ⟨(λh=>by cases h),λ_=>?_⟩) λq hq=>?_
 ·have h4:=zOT h4
  refine T.get (by omega) h4 λy2 hy2=>h _ ⟨λh5=>⟨h4,λy3 hy3=>?_⟩,λh5=>?_⟩
  ·rw [hy2] at hy3;cases hy3;simpa using h5
  ·have h6:y2=10:=by simpa using h5
   subst h6
   rw [dropc hy2]
   simp [wh,isWh]
 ·have h4:=zOF h4
  rw [zDn (by omega)];simp only [wh]
 refine T.br (λh4=>?_) (λh4=>hL _ ⟨by omega,j2,by rw [hq.2 h4,j3]⟩ (by omega))
 obtain ⟨hj,hne⟩:=hq.1 h4
 refine T.get (by omega) hj λy2 hy2=>?_
 have hy10:=hne y2 hy2
 have f:=dropc hy2
 have f1:(j + 1).toNat=j.toNat + 1:=by omega
 refine T.jp (λq=>q=(decide (y2=45) && decide (hd (s.b.drop (j.toNat + 1))=45))) (λJ h=>T.br (λh3=>T.ck (by omega) (T.eq (zmU s _ (by omega)) (h _ (by rw [h3,f1];rfl)))) λh3=>h _ (by rw [h3];rfl)) λq4 hq4=>?_
 refine T.br (λh5=>T.ck (by omega) ?_) (λh5=>T.ck (by omega) (hL2 _ ⟨by omega,by omega,?_⟩ (by omega)))
 ·have h46:hd (s.b.drop (j.toNat + 1))=45:=by rw [hq4] at h5;simpa using (Bool.and_eq_true_iff.1 h5).2
  have hlt2:=zoR h46
  obtain ⟨c2,ec2⟩:=skip1 hlt2
  have f2:(j + 2).toNat=j.toNat + 1 + 1:=by omega
  refine hL _ ⟨by omega,by omega,?_⟩ (by omega)
  rw [j3,f,f2];simp only [wh,zDF hy10,zCf,<- hq4,h5,zCt];rw [ec2];simp only [wh]
 ·rw [j3,f,f1];simp only [wh,zDF hy10,zCf,<- hq4,h5]

/-! ### Names -/
def inName (c:UInt8) (r:List UInt8):Bool:=zaU c || isDigit c || (decide (c=45) && !decide (hd r=45))
def nm:List UInt8->Nat
 | []=>0
 | c :: r=>bif inName c r then nm r + 1 else 0
theorem zr4 (c:UInt8) (r:List UInt8):nm (c :: r)=bif inName c r then nm r + 1 else 0:=rfl
theorem zoW:∀ b:List UInt8,nm b <= b.length
 | []=>zNl _
 | c :: r=>by
  have:=zoW r
  unfold nm
  cases inName c r <;> simp <;> omega
def nmBad (b:List UInt8):Bool:=decide ((b.take (nm b)).getLast?=some 45) || decide (60 < nm b)
theorem zs3 {b:List UInt8} {n:Nat} {y:UInt8} (hn:0 < n) (hy:b[n - 1]?=some y):(b.take n).getLast?=some y:=by
 have hlt:=(List.getElem?_eq_some_iff.1 hy).1
 rw [List.getLast?_eq_getElem?,zLt,List.getElem?_take,Nat.min_eq_left (by omega),if_pos (by omega),hy]
theorem zu6 (s:Str) (i:Int) (h0:0 <= i) (h1:i < s.b.length) (hl:s.b.length <= 1000000) (hc:zaU (hd (s.b.drop i.toNat))=true) :
    zj2 s i=some (bif nmBad (s.b.drop i.toNat) then -1 else i + nm (s.b.drop i.toNat)):=by
  refine tx ?_
  unfold zj2
  have hi0:0 < nm (s.b.drop i.toNat):=by
    obtain ⟨c,ec⟩:=skip1 (b:=s.b) (n:=i.toNat) (by omega)
    rw [ec] at hc ⊢
    unfold nm inName
    simp only [hd] at hc
    rw [hc];simp
  refine T.lp (λk=>i <= k/\k <= s.b.length/\(nm (s.b.drop i.toNat):Int)=k - i + nm (s.b.drop k.toNat)) (λk=>(s.b.length - k).toNat) ⟨zIl _,by omega,by omega⟩ (by omega) λL k ⟨k1,k2,k3⟩ hL=>?_
  refine T.jp (λq=>(q=true->k < s.b.length/\(nm (s.b.drop i.toNat):Int)=k + 1 - i + nm (s.b.drop (k + 1).toNat))/\(q=false->(nm (s.b.drop i.toNat):Int)=k - i)) (λJ h=>?_) λq hq=>?_
  · refine T.br (λhb=>?_) (λhb=>h _ ⟨(λh=>by cases h),λ_=>by
      have:=zOF hb
      rw [zDn (as:=s.b) (i:=k.toNat) (by omega)] at k3
      simpa [nm] using k3⟩)
    have hb:=zOT hb
    refine T.get (by omega) hb λy hy=>?_
    have e:=dropc hy
    have e1:(k + 1).toNat=k.toNat + 1:=by omega
    refine T.eq (zmP y) ?_
    refine T.jp (λq=>q=(zaU y || isDigit y)) (λJ2 h2=>T.br (λh3=>h2 _ (by rw [h3];rfl)) λh3=>T.get (by omega) hb λy2 hy2=>T.eq (zkr y2) (h2 _ (by rw [hy] at hy2;cases hy2;rw [h3];rfl))) λq hq=>?_
    refine T.jp (λq2=>q2=inName y (s.b.drop (k.toNat + 1))) (λJ2 h2=>T.br (λh3=>h2 _ (by unfold inName;rw [<- hq,h3];rfl)) λh3=>T.get (by omega) hb λy2 hy2=>?_) λq2 hq2=>?_
    · rw [hy] at hy2;cases hy2
      refine T.jp (λq3=>q3=(decide (y=45) && !decide (hd (s.b.drop (k.toNat + 1))=45))) (λJ3 h4=>T.br (λh5=>T.ck (by omega) (T.eq (zmU s _ (by omega)) (h4 _ (by rw [h5,e1];rfl)))) λh5=>h4 _ (by rw [h5];rfl)) λq3 hq3=>h2 _ ?_
      unfold inName;rw [<- hq,h3,hq3];rfl
    · rw [e,zr4] at k3
      refine h _ ⟨λh3=>⟨hb,?_⟩,λh3=>?_⟩
      · rw [<- hq2,h3,zCt] at k3
        rw [e1];omega
      · rw [<- hq2,h3,zCf] at k3
        omega
  refine T.br (λhb=>T.ck (by have:=hq.1 hb;omega) (hL _ ⟨by omega,by have:=hq.1 hb;omega,(hq.1 hb).2⟩ (by have:=hq.1 hb;omega))) λhb=>?_
  have hn:=hq.2 hb
  refine T.ck (by omega) (T.get (by omega) (by omega) λy hy=>?_)
  have hlast:((s.b.drop i.toNat).take (nm (s.b.drop i.toNat))).getLast?=some y:=by
    refine zs3 hi0 ?_
    rw [List.getElem?_drop]
    have:i.toNat + (nm (s.b.drop i.toNat) - 1)=(k - 1).toNat:=by omega
    rw [this,hy]
  refine T.jp (λq=>q=nmBad (s.b.drop i.toNat)) (λJ h=>T.br (λh3=>h _ ?_) λh3=>T.ck (by omega) (h _ ?_)) λq hq=>?_
  · unfold nmBad
    rw [hlast]
    have:=zOT h3
    subst this;rfl
  · unfold nmBad
    rw [hlast]
    have:=zOF h3
    have e:decide (some y=some (45:UInt8))=false:=by simpa using this
    rw [e,Bool.false_or,decide_eq_decide]
    omega
  · rw [<- hq]
    exact T.br (λh3=>T.some (by rw [h3];rfl)) λh3=>T.some (by rw [h3,zCf];omega)
end Go.Proofs.Q


namespace Go.Proofs.Q
open Go.Sy
set_option linter.unusedVariables false

theorem seg {b:List UInt8} {i k:Nat}:(b.take k).drop i=(b.drop i).take (k - i):=by rw [List.drop_take]
theorem zto {b:List UInt8} {i n:Nat} {y:UInt8} (h:b[i + n]?=some y):(b.drop i)[n]?=some y:=by rw [List.getElem?_drop,h]
theorem zsD {b:List UInt8} {n:Nat} {y:UInt8} (h:b[n]?=some y):b.take (n + 1)=b.take n ++ [y]:=by rw [List.take_add_one,h];rfl

/-! ### Numbers -/
def dg:List UInt8->Nat
 | []=>0
 | c :: r=>bif isDigit c then dg r + 1 else 0
theorem zpA (c:UInt8) (r:List UInt8):dg (c :: r)=bif isDigit c then dg r + 1 else 0:=rfl
theorem zrW:∀ b:List UInt8,dg b <= b.length
 | []=>zNl _
 | c :: r=>by
  have:=zrW r
  rw [zpA]
  cases isDigit c <;> simp <;> omega
def numBad (m:Bool) (d:List UInt8):Bool :=
 decide (dg d < 1) || decide (19 < dg d) || (decide (1 < dg d) && decide (hd d=48)) || (m && decide (hd d=48)) || zaU (hd (d.drop (dg d))) ||
  decide (9223372036854775808 < uval (d.take (dg d))) || (!m && decide (uval (d.take (dg d))=9223372036854775808))
def numLen (b:List UInt8):Option Nat :=
 bif decide (hd b=45) then bif numBad true (b.drop 1) then none else some (dg (b.drop 1) + 1)
 else bif numBad false b then none else some (dg b)
theorem ztc (s:Str) (i:Int) (h0:0 <= i) (h1:i < s.b.length) (hl:s.b.length <= 1000000) :
    zh0 s i=some (match numLen (s.b.drop i.toNat) with
      | none=>-1
      | some n=>i + (n:Int)):=by
  refine tx ?_
  unfold zh0
  refine T.get h0 h1 λy1 hy1=>?_
  have hd1:hd (s.b.drop i.toNat)=y1:=by rw [dropc hy1];rfl
  refine T.jp (λf=>i <= f/\f <= i + 1/\numLen (s.b.drop i.toNat)=(bif numBad (decide (y1=45)) (s.b.drop f.toNat) then none else some (dg (s.b.drop f.toNat) + (f - i).toNat))) (λJ h=>T.br (λhb=>T.ck (by omega) (h _ ⟨by omega,by omega,?_⟩)) λhb=>h _ ⟨by omega,by omega,?_⟩) λf ⟨f1,f2,f3⟩=>?_
  · have e1:(i + 1).toNat=i.toNat + 1:=by omega
    have e2:(i + 1 - i).toNat=1:=by omega
    unfold numLen
    rw [hd1,hb,zCt,e1,e2,List.drop_drop]
  · have e2:(i - i).toNat=0:=by omega
    unfold numLen
    rw [hd1,hb,zCf,e2,Nat.add_zero]
  have hfl:f <= s.b.length:=by omega
  have hgoal:∀ k:Int,(dg (s.b.drop f.toNat):Int)=k - f->(match numLen (s.b.drop i.toNat) with
      | none=>-1
      | some n=>i + (n:Int))=bif numBad (decide (y1=45)) (s.b.drop f.toNat) then -1 else k:=by
    intro k hk
    rw [f3]
    cases numBad (decide (y1=45)) (s.b.drop f.toNat) with
    | true=>rfl
    | false =>
      show i + ((dg (s.b.drop f.toNat) + (f - i).toNat:Nat):Int)=k
      omega
  refine T.lp (ι:=Int × UInt64) (λq=>f <= q.1/\q.1 <= s.b.length/\(dg (s.b.drop f.toNat):Int)=q.1 - f + dg (s.b.drop q.1.toNat)/\(q.1 - f <= 19->q.2=uval ((s.b.drop f.toNat).take (q.1.toNat - f.toNat)))) (λq=>(s.b.length - q.1).toNat)
    ⟨zIl _,hfl,by dsimp only;omega,λ_=>by rw [Nat.sub_self];rfl⟩ (by simp only;omega) λL q hq hL=>?_
  obtain ⟨k,v⟩:=q
  obtain ⟨hq1,hq2,hq3,hq4⟩:=hq
  simp only at hq1 hq2 hq3 hq4 ⊢
  refine T.jp (λb=>(b=true->k < s.b.length/\(dg (s.b.drop f.toNat):Int)=k + 1 - f + dg (s.b.drop (k + 1).toNat))/\(b=false->(dg (s.b.drop f.toNat):Int)=k - f)) (λJ h=>?_) λb hb=>?_
  · refine T.br (λh2=>?_) λh2=>h _ ⟨(λh=>by cases h),λ_=>?_⟩
    · have h2:=zOT h2
      have ek:(k + 1).toNat=k.toNat + 1:=by omega
      refine T.get (by omega) h2 λy hy=>T.eq (zkr y) (h _ ?_)
      rw [dropc hy,zpA] at hq3
      rw [ek]
      refine ⟨λhd=>⟨h2,?_⟩,λhd=>?_⟩
      · rw [hd,zCt] at hq3;omega
      · rw [hd,zCf] at hq3;omega
    · have h2:=zOF h2
      rw [zDn (as:=s.b) (i:=k.toNat) (by omega)] at hq3
      simpa [dg] using hq3
  refine T.br (λh2=>?_) λh2=>?_
  · obtain ⟨hk,hd⟩:=hb.1 h2
    obtain ⟨y,hy⟩:∃ y,s.b[k.toNat]?=some y:=⟨_,List.getElem?_eq_getElem (by omega)⟩
    have hsn:=zsD (b:=s.b.drop f.toNat) (n:=k.toNat - f.toNat) (y:=y) (zto (by rw [show f.toNat + (k.toNat - f.toNat)=k.toNat by omega,hy]))
    have hk1:(k + 1).toNat - f.toNat=k.toNat - f.toNat + 1:=by omega
    refine T.ck (by omega) (T.jp (λu=>k - f < 19->u=10 * v + (y - 48).toUInt64) (λJ h=>T.br (λ_=>?_) λh3=>h _ λh4=>by have:=zOF h3;omega) λu hu=>T.ck (by omega) (hL _ ?_ (by simp only;omega)))
    · exact T.get (by omega) hk λy' hy'=>h _ λ_=>by rw [hy] at hy';cases hy';rfl
    · refine ⟨by simp only;omega,by simp only;omega,hd,λh19=>?_⟩
      simp only at h19 ⊢
      rw [hk1,hsn,zmk,hu (by omega),hq4 (by omega)]
  have hn:=hb.2 h2
  rw [hgoal k hn]
  refine T.ck (by omega) ?_
  have hdn:dg (s.b.drop f.toNat)=k.toNat - f.toNat:=by omega
  have hyf:1 <= k - f->∀ y,s.b[f.toNat]?=some y->hd (s.b.drop f.toNat)=y:=λ_ y hy=>by rw [dropc hy];rfl
  refine T.jp (λb=>b=(decide (dg (s.b.drop f.toNat) < 1) || decide (19 < dg (s.b.drop f.toNat)))) (λJ h=>T.br (λh3=>h _ ?_) λh3=>h _ ?_) λb1 hb1=>?_
  · have:=zOT h3;rw [zDT (by omega)];rfl
  · have:=zOF h3;rw [zDF (show ¬ dg (s.b.drop f.toNat) < 1 by omega),Bool.false_or,decide_eq_decide];omega
  refine T.jp (λb=>b=(b1 || (decide (1 < dg (s.b.drop f.toNat)) && decide (hd (s.b.drop f.toNat)=48)))) (λJ h=>T.br (λh3=>h _ (by rw [h3];rfl)) λh3=>?_) λb2 hb2=>?_
  · refine T.jp (λb=>b=(decide (1 < dg (s.b.drop f.toNat)) && decide (hd (s.b.drop f.toNat)=48))) (λJ3 h4=>T.br (λh5=>?_) λh5=>h4 _ ?_) λb hb=>h _ (by rw [h3,hb];rfl)
    · have h5:=zOT h5
      exact T.get (by omega) (by omega) λy hy=>h4 _ (by rw [zDT (show 1 < dg (s.b.drop f.toNat) by omega),hyf (by omega) y hy];rfl)
    · have h5:=zOF h5
      rw [zDF (show ¬ 1 < dg (s.b.drop f.toNat) by omega)];rfl
  refine T.jp (λb=>b=(b2 || (decide (y1=45) && decide (hd (s.b.drop f.toNat)=48)))) (λJ h=>T.br (λh3=>h _ (by rw [h3];rfl)) λh3=>?_) λb3 hb3=>?_
  · have hge:1 <= k - f:=by
      have e1:=(Bool.or_eq_false_iff.1 (hb2.symm.trans h3)).1
      have:=zOF (Bool.or_eq_false_iff.1 (hb1.symm.trans e1)).1
      omega
    refine T.jp (λb=>b=(decide (y1=45) && decide (hd (s.b.drop f.toNat)=48))) (λJ3 h4=>T.br (λh5=>?_) λh5=>h4 _ (by rw [h5];rfl)) λb hb=>h _ (by rw [h3,hb];rfl)
    exact T.get (by omega) (by omega) λy hy=>h4 _ (by rw [h5,hyf hge y hy];rfl)
  have hat:zgx s k=some (hd ((s.b.drop f.toNat).drop (dg (s.b.drop f.toNat)))):=by
    rw [zmU s k (by omega),List.drop_drop,hdn]
    congr 3;omega
  refine T.jp (λb=>b=(b3 || zaU (hd ((s.b.drop f.toNat).drop (dg (s.b.drop f.toNat)))))) (λJ h=>T.br (λh3=>h _ (by rw [h3];rfl)) λh3=>T.eq hat (T.eq (zmP _) (h _ (by rw [h3];rfl)))) λb4 hb4=>?_
  have hv:b4=false->v=uval ((s.b.drop f.toNat).take (dg (s.b.drop f.toNat))):=λh=>by
    have e3:=(Bool.or_eq_false_iff.1 (hb4.symm.trans h)).1
    have e2:=(Bool.or_eq_false_iff.1 (hb3.symm.trans e3)).1
    have e1:=(Bool.or_eq_false_iff.1 (hb2.symm.trans e2)).1
    have:=zOF (Bool.or_eq_false_iff.1 (hb1.symm.trans e1)).2
    rw [hdn];exact hq4 (by omega)
  refine T.jp (λb=>b=(b4 || decide (9223372036854775808 < uval ((s.b.drop f.toNat).take (dg (s.b.drop f.toNat)))))) (λJ h=>T.br (λh3=>h _ (by rw [h3];rfl)) λh3=>h _ (by rw [h3,hv h3];rfl)) λb5 hb5=>?_
  refine T.jp (λb=>b=(b5 || (!decide (y1=45) && decide (uval ((s.b.drop f.toNat).take (dg (s.b.drop f.toNat)))=9223372036854775808)))) (λJ h=>T.br (λh3=>h _ (by rw [h3];rfl)) λh3=>?_) λb6 hb6=>?_
  · have e4:=(Bool.or_eq_false_iff.1 (hb5.symm.trans h3)).1
    refine T.jp (λb=>b=(!decide (y1=45) && decide (uval ((s.b.drop f.toNat).take (dg (s.b.drop f.toNat)))=9223372036854775808))) (λJ3 h4=>T.br (λh5=>h4 _ (by rw [h5,hv e4];rfl)) λh5=>h4 _ (by rw [h5];rfl)) λb hb=>h _ (by rw [h3,hb];rfl)
  have hall:b6=numBad (decide (y1=45)) (s.b.drop f.toNat):=by
    rw [hb6,hb5,hb4,hb3,hb2,hb1];rfl
  rw [<- hall]
  exact T.br (λh3=>T.some (by rw [h3];rfl)) λh3=>T.some (by rw [h3];rfl)

/-! ### Hexes -/
def isHex (c:UInt8):Bool:=isDigit c || (decide (65 <= c) && decide (c <= 70))
def hx:List UInt8->Nat
 | []=>0
 | c :: r=>bif isHex c then hx r + 1 else 0
theorem zpg (c:UInt8) (r:List UInt8):hx (c :: r)=bif isHex c then hx r + 1 else 0:=rfl
theorem zvL:∀ b:List UInt8,hx b <= b.length
 | []=>zNl _
 | c :: r=>by
  have:=zvL r
  rw [zpg]
  cases isHex c <;> simp <;> omega
def hexBad (r:List UInt8):Bool:=!decide (hx r % 2=0) || !decide (hd (r.drop (hx r))=39) || !decide (hd (r.drop (hx r + 1))=72)
theorem zqf {b:List UInt8} {n:Nat} (h:hd (b.drop n) ≠ 0):n < b.length:=by
 rcases Nat.lt_or_ge n b.length with h2 | h2
 ·exact h2
 ·rw [zDn h2] at h;exact absurd rfl h
theorem zv2 (s:Str) (i:Int) (h0:0 <= i) (h1:i < s.b.length) (hl:s.b.length <= 1000000) :
    zlV s i=some (bif hexBad (s.b.drop (i.toNat + 1)) then (-1,⟨[]⟩) else (i + 1 + (hx (s.b.drop (i.toNat + 1)):Int) + 2,⟨(s.b.drop (i.toNat + 1)).take (hx (s.b.drop (i.toNat + 1)))⟩)):=by
  refine tx ?_
  unfold zlV
  have e0:(i + 1).toNat=i.toNat + 1:=by omega
  refine T.ck (by omega) (T.lp (λ(k:Int)=>i + 1 <= k/\k <= (s.b.length:Int)/\(hx (s.b.drop (i.toNat + 1)):Int)=k - (i + 1) + hx (s.b.drop k.toNat)) (λ(k:Int)=>((s.b.length:Int) - k).toNat) ⟨zIl _,by omega,by rw [e0];omega⟩ (by omega) λL k ⟨k1,k2,k3⟩ hL=>?_)
  refine T.jp (λb=>(b=true->k < s.b.length/\(hx (s.b.drop (i.toNat + 1)):Int)=k + 1 - (i + 1) + hx (s.b.drop (k + 1).toNat))/\(b=false->(hx (s.b.drop (i.toNat + 1)):Int)=k - (i + 1))) (λJ h=>T.br (λh2=>?_) λh2=>h _ ⟨(λh=>by cases h),λ_=>?_⟩) λb hb=>?_
  · have h2:=zOT h2
    refine T.get (by omega) h2 λy hy=>T.eq (zkr y) ?_
    have ek:(k + 1).toNat=k.toNat + 1:=by omega
    refine T.jp (λq=>q=isHex y) (λJ2 h3=>T.br (λh4=>h3 _ (by unfold isHex;rw [h4];rfl)) λh4=>T.get (by omega) h2 λy' hy'=>?_) λq hq=>h _ ?_
    · rw [hy] at hy';cases hy'
      refine T.jp (λq=>q=(decide (65 <= y) && decide (y <= 70))) (λJ4 h5=>T.br (λh6=>T.get (by omega) h2 λy' hy'=>h5 _ (by rw [hy] at hy';cases hy';rw [h6];rfl)) λh6=>h5 _ (by rw [h6];rfl)) λq hq=>h3 _ (by unfold isHex;rw [h4,hq];rfl)
    · subst hq
      rw [dropc hy,zpg] at k3
      rw [ek]
      refine ⟨λhd=>⟨h2,?_⟩,λhd=>?_⟩
      · rw [hd,zCt] at k3;omega
      · rw [hd,zCf] at k3;omega
  · have h2:=zOF h2
    rw [zDn (as:=s.b) (i:=k.toNat) (by omega)] at k3
    simpa [hx] using k3
  refine T.br (λh2=>T.ck (by have:=hb.1 h2;omega) (hL _ ⟨by have:=hb.1 h2;omega,by have:=hb.1 h2;omega,(hb.1 h2).2⟩ (by have:=hb.1 h2;omega))) λh2=>?_
  have hn:=hb.2 h2
  have hdk:(s.b.drop (i.toNat + 1)).drop (hx (s.b.drop (i.toNat + 1)))=s.b.drop k.toNat:=by rw [List.drop_drop];congr 1;omega
  have hdk1:(s.b.drop (i.toNat + 1)).drop (hx (s.b.drop (i.toNat + 1)) + 1)=s.b.drop (k + 1).toNat:=by rw [List.drop_drop];congr 1;omega
  refine T.ck (by omega) (T.asr rfl ?_)
  have hmod:decide ((k - (i + 1)).tmod 2=0)=decide (hx (s.b.drop (i.toNat + 1)) % 2=0):=by
    rw [decide_eq_decide,Int.tmod_eq_emod_of_nonneg (by omega)]
    omega
  refine T.jp (λb=>b=(!decide (hx (s.b.drop (i.toNat + 1)) % 2=0) || !decide (hd (s.b.drop k.toNat)=39))) (λJ h=>T.br (λh3=>h _ (by rw [<- hmod,h3];rfl)) λh3=>T.eq (zmU s k (by omega)) (h _ (by rw [<- hmod,h3];rfl))) λb1 hb1=>?_
  refine T.jp (λb=>b=hexBad (s.b.drop (i.toNat + 1))) (λJ h=>T.br (λh3=>h _ ?_) λh3=>T.ck (by omega) (T.eq (zmU s (k + 1) (by omega)) (h _ ?_))) λb2 hb2=>?_
  · unfold hexBad;rw [hdk,<- hb1,h3];rfl
  · unfold hexBad;rw [hdk,hdk1,<- hb1,h3];rfl
  rw [<- hb2]
  refine T.br (λh3=>T.some (by rw [h3];rfl)) λh3=>?_
  have hlt:k + 1 < s.b.length:=by
    rw [h3] at hb2
    unfold hexBad at hb2
    have:=(Bool.or_eq_false_iff.1 hb2.symm).2
    have h72:hd (s.b.drop (k + 1).toNat)=72:=by rw [hdk1] at this;simpa using this
    have:=zqf (b:=s.b) (n:=(k + 1).toNat) (by rw [h72];decide)
    omega
  refine T.ck (by omega) (T.asd (by omega) (T.some ?_))
  rw [h3,zCf,seg,e0]
  have e5:k.toNat - (i.toNat + 1)=hx (s.b.drop (i.toNat + 1)):=by omega
  rw [e5,hn]
  have e6:i + 1 + (k - (i + 1)) + 2=k + 2:=by omega
  rw [e6]

/-! ### Strings -/
def qd:Bool->List UInt8->List UInt8->Option (List UInt8 × List UInt8)
 | _,[],_=>none
 | true,_ :: r,acc=>qd false r (acc ++ [34])
 | false,c :: r,acc=>bif decide (c=34) then bif decide (hd r=34) then qd true r acc else bif Lib.validD acc then some (acc,r) else none else qd false r (acc ++ [c])
theorem zsP (s:Str) (i:Int) (h0:0 <= i) (h1:i < s.b.length) (hl:s.b.length <= 1000000) :
    zh1 s i=some (match qd false (s.b.drop (i.toNat + 1)) [] with
      | none=>(-1,⟨[]⟩)
      | some (t,r)=>((s.b.length:Int) - (r.length:Int),⟨t⟩)):=by
  refine tx ?_
  unfold zh1
  have e0:(i + 1).toNat=i.toNat + 1:=by omega
  refine T.ck (by omega) (T.lp (ι:=Int × Str) (λq=>i + 1 <= q.1/\q.1 <= s.b.length + 1/\(q.2.b.length:Int) < q.1/\qd false (s.b.drop (i.toNat + 1)) []=qd false (s.b.drop q.1.toNat) q.2.b) (λq=>(s.b.length + 1 - q.1).toNat) ⟨zIl _,by dsimp only;omega,by dsimp only;simp only [zLn];omega,by dsimp only;rw [e0]⟩ (by dsimp only;omega) λL q hq hL=>?_)
  obtain ⟨k,o⟩:=q
  obtain ⟨hq1,hq2,hq3,hq4⟩:=hq
  simp only at hq1 hq2 hq3 hq4 ⊢
  rw [hq4] at hL ⊢
  refine T.br (λh2=>?_) λh2=>T.some ?_
  rotate_left
  · have h2:=zOF h2
    rw [zDn (by omega)];simp only [qd]
  have h2:=zOT h2
  have ek:(k + 1).toNat=k.toNat + 1:=by omega
  refine T.jp (λ(q:Int × Str)=>k <= q.1/\q.1 < (s.b.length:Int)/\(q.2.b.length:Int) < q.1 + 1/\qd false (s.b.drop k.toNat) o.b=qd false (s.b.drop (q.1 + 1).toNat) q.2.b) (λJ h=>?_) λq hq=>?_
  · refine T.get (by omega) h2 λy hy=>T.br (λh3=>?_) λh3=>?_
    · have h34:decide (y=34)=false:=by simpa using h3
      have ey:(s.b.take (k + 1).toNat).drop k.toNat=[y]:=by
        rw [seg,ek,dropc hy,show k.toNat + 1 - k.toNat=1 by omega];rfl
      refine T.ck (by omega) (T.asd (by omega) (T.abl ?_ (h _ ⟨zIl _,h2,?_,?_⟩)))
      · simp only [zLd,zLt];omega
      · simp only [zLa,zLd,zLt];omega
      · dsimp only
        rw [ey,ek]
        conv=>lhs;rw [dropc hy]
        simp only [qd,h34,zCf]
    · have h34:decide (y=34)=true:=by simpa using h3
      refine T.ck (by omega) (T.eq (zmU s (k + 1) (by omega)) (T.br (λh4=>?_) λh4=>?_))
      · have hn:decide (hd (s.b.drop (k.toNat + 1))=34)=false:=by rw [ek] at h4;simpa using h4
        refine T.eq rfl (T.br (λh5=>T.some ?_) λh5=>T.ck (by omega) (T.some ?_))
        · have h5:Lib.validD o.b=false:=by simpa using h5
          conv=>rhs;rw [dropc hy]
          simp only [qd,h34,zCt,hn,zCf,h5]
        · have h5:Lib.validD o.b=true:=by simpa using h5
          conv=>rhs;rw [dropc hy]
          simp only [qd,h34,zCt,hn,zCf,h5,zLd]
          congr 1;omega
      · have hn:hd (s.b.drop (k.toNat + 1))=34:=by rw [ek] at h4;simpa using h4
        have hlt:=zqf (b:=s.b) (n:=k.toNat + 1) (by rw [hn];decide)
        obtain ⟨c,ec⟩:=skip1 hlt
        refine T.abl ?_ (T.ck (by omega) (h _ ⟨by dsimp only;omega,by dsimp only;omega,?_,?_⟩))
        · simp only [zLc,zLn];omega
        · simp only [zLa,zLc,zLn];omega
        · dsimp only
          rw [show (k + 1 + 1).toNat=k.toNat + 1 + 1 by omega]
          conv=>lhs;rw [dropc hy]
          simp only [qd,h34,zCt,zDT hn]
          rw [ec];simp only [qd]
  · exact T.ck (by omega) (hL _ ⟨by dsimp only;omega,by dsimp only;omega,hq.2.2.1,hq.2.2.2⟩ (by dsimp only;omega))
end Go.Proofs.Q


namespace Go.Proofs.Q
open Go.Sy
set_option linter.unusedVariables false

/-! ### Signs -/
def isPre:List UInt8->List UInt8->Bool
 | [],_=>true
 | _ :: _,[]=>false
 | p :: ps,c :: r=>bif decide (p=c) then isPre ps r else false
def sgF:List (List UInt8)->List UInt8->Nat
 | [],_=>0
 | p :: ps,b=>bif isPre p b then p.length else sgF ps b
def sgs:List (List UInt8):=[[58,58,61],[46,46,46],[46,46],[91,91],[93,93],[123],[125],[91],[93],[40],[41],[44],[58]]
def sg (b:List UInt8):Nat:=sgF sgs b
theorem zgZ:∀ (p b:List UInt8),isPre p b=true ↔ p.length <= b.length/\b.take p.length=p
 | [],b=>by simp [isPre]
 | _ :: _,[]=>by simp [isPre]
 | p :: ps,c :: r=>by
  have ih:=zgZ ps r
  unfold isPre
  by_cases h:p=c
  ·subst h;simp [ih]
  ·simp only [zDF h,zCf,zLc,List.take_succ_cons,List.cons.injEq]
   exact ⟨(λh=>by cases h),λh2=>absurd h2.2.1.symm h⟩
theorem zrN {k:Nat} {y:Str} (h:([(Str.mk [58,58,61]),(Str.mk [46,46,46]),(Str.mk [46,46]),(Str.mk [91,91]),(Str.mk [93,93]),(Str.mk [123]),(Str.mk [125]),(Str.mk [91]),(Str.mk [93]),(Str.mk [40]),(Str.mk [41]),(Str.mk [44]),(Str.mk [58])]:List Str)[k]?=some y):sgs.drop k=y.b :: sgs.drop (k + 1):=by
 have e:([(Str.mk [58,58,61]),(Str.mk [46,46,46]),(Str.mk [46,46]),(Str.mk [91,91]),(Str.mk [93,93]),(Str.mk [123]),(Str.mk [125]),(Str.mk [91]),(Str.mk [93]),(Str.mk [40]),(Str.mk [41]),(Str.mk [44]),(Str.mk [58])]:List Str)=sgs.map Str.mk:=rfl
 rw [e,List.getElem?_map] at h
 obtain ⟨z,h1,h2⟩:=Option.map_eq_some_iff.1 h
 subst h2
 obtain ⟨h3,h4⟩:=List.getElem?_eq_some_iff.1 h1
 rw [List.drop_eq_getElem_cons h3,h4]
theorem zvB (s:Str) (i:Int) (h0:0 <= i) (h1:i < s.b.length) (hl:s.b.length <= 1000000):zkc s i=some ((sg (s.b.drop i.toNat):Nat):Int):=by
 refine tx ?_
 unfold zkc
 refine T.asd (by omega) (T.lp (λ(k:Int)=>0 <= k/\k <= 13/\sgF (sgs.drop k.toNat) (s.b.drop i.toNat)=sg (s.b.drop i.toNat)) (λ(k:Int)=>(13 - k).toNat) ⟨zIl _,by omega,rfl⟩ (by omega) λL k ⟨k1,k2,k3⟩ hL=>?_)
 have er:(s.b.take ((s.b.length:Int)).toNat).drop i.toNat=s.b.drop i.toNat:=by rw [zTl (by omega)]
 refine T.br (λh2=>?_) λh2=>T.some ?_
 rotate_left
 ·have h2:¬ k < 13:=zOF h2
  have:k=13:=by omega
  subst this
  rw [<- k3];rfl
 have h2:=zOT h2
 refine T.get k1 h2 λy hy=>?_
 have hs:=zrN hy
 rw [hs] at k3
 unfold sgF at k3
 rw [er]
 refine T.jp (λb=>b=isPre y.b (s.b.drop i.toNat)) (λJ h=>T.br (λh3=>?_) λh3=>h _ ?_) λb hb=>?_
 ·have h3:=zOT h3
  refine T.asd ⟨zIl _,by omega,h3⟩ (T.get k1 h2 λy2 hy2=>h _ ?_)
  rw [hy] at hy2;cases hy2
  have h4:y.b.length <= (s.b.drop i.toNat).length:=by simp only [zLd] at h3 ⊢;omega
  rw [Bool.eq_iff_iff,decide_eq_true_eq,zgZ]
  constructor
  ·intro h5
   refine ⟨h4,?_⟩
   have:=congrArg Str.b h5
   simpa using this
  ·intro h5
   obtain ⟨yb⟩:=y
   simp only [Str.mk.injEq]
   simpa using h5.2
 ·have h3:=zOF h3
  symm
  rw [Bool.eq_false_iff]
  intro h5
  have:=(zgZ _ _).1 h5
  simp only [zLd] at h3 this
  omega
 ·rw [hb]
  refine T.br (λh3=>T.some ?_) λh3=>T.ck (by have h2:k < 13:=h2;omega) (hL _ ⟨by omega,by have h2:k < 13:=h2;omega,?_⟩ (by have h2:k < 13:=h2;omega))
  ·rw [h3,zCt] at k3;rw [<- k3]
  ·rw [h3,zCf] at k3
   have e:(k + 1).toNat=k.toNat + 1:=by omega
   rw [e,k3]

/-! ### Words -/
def wordsL:List Str:=[(Str.mk [68,69,70,73,78,73,84,73,79,78,83]),(Str.mk [69,88,80,76,73,67,73,84]),(Str.mk [73,77,80,76,73,67,73,84]),(Str.mk [65,85,84,79,77,65,84,73,67]),(Str.mk [84,65,71,83]),(Str.mk [66,69,71,73,78]),(Str.mk [69,78,68]),(Str.mk [66,79,79,76,69,65,78]),(Str.mk [73,78,84,69,71,69,82]),(Str.mk [69,78,85,77,69,82,65,84,69,68]),(Str.mk [78,85,76,76]),(Str.mk [79,67,84,69,84]),(Str.mk [83,84,82,73,78,71]),(Str.mk [85,84,70,56,83,116,114,105,110,103]),(Str.mk [83,69,81,85,69,78,67,69]),(Str.mk [83,69,84]),(Str.mk [67,72,79,73,67,69]),(Str.mk [79,70]),(Str.mk [79,80,84,73,79,78,65,76]),(Str.mk [68,69,70,65,85,76,84]),(Str.mk [83,73,90,69]),(Str.mk [77,73,78]),(Str.mk [77,65,88]),(Str.mk [84,82,85,69]),(Str.mk [70,65,76,83,69])]
def sameB:List UInt8->List UInt8->Bool
 | [],[]=>true
 | a :: r,b :: t=>bif decide (a=b) then sameB r t else false
 | _,_=>false
theorem zkt:∀ a b:List UInt8,sameB a b=true ↔ a=b
 | [],[]=>by simp [sameB]
 | [],_ :: _=>by simp [sameB]
 | _ :: _,[]=>by simp [sameB]
 | a :: r,b :: t=>by
  have ih:=zkt r t
  unfold sameB
  by_cases h:a=b
  ·subst h;simp [ih]
  ·simp [h]
def isWord (t:List UInt8):Bool:=wordsL.any λw=>sameB w.b t
theorem zuB (s:Str):zkb s=some (isWord s.b):=by
 refine tx ?_
 unfold zkb
 refine T.eq (y:=wordsL) rfl (T.cal (zoo wordsL s (by decide)) λy _ hy=>T.some ?_)
 rw [hy,Bool.eq_iff_iff,decide_eq_true_eq]
 unfold isWord
 rw [List.any_eq_true]
 constructor
 ·intro h;exact ⟨s,h,(zkt _ _).2 rfl⟩
 ·rintro ⟨w,h1,h2⟩
  have:=(zkt _ _).1 h2
  obtain ⟨wb⟩:=w;obtain ⟨sb⟩:=s
  simp only at this;subst this;exact h1

/-! ### One sign, all signs -/
/-- The kind and the text of what comes first, and what is left behind it. -/
def oneS (b:List UInt8):Option (Int × List UInt8 × List UInt8) :=
 let c:=hd b
 bif zaU c then bif nmBad b then none else some (bif isWord (b.take (nm b)) then 5 else bif decide (c <= 90) then 1 else 2,b.take (nm b),b.drop (nm b))
 else bif isDigit c || (decide (c=45) && isDigit (hd (b.drop 1))) then match numLen b with
  | none=>none
  | some n=>some (3,b.take n,b.drop n)
 else bif decide (c=39) then bif hexBad (b.drop 1) then none else some (4,(b.drop 1).take (hx (b.drop 1)),(b.drop 1).drop (hx (b.drop 1) + 2))
 else bif decide (c=34) then match qd false (b.drop 1) [] with
  | none=>none
  | some (t,r)=>some (7,t,r)
 else bif decide (0 < sg b) then some (6,b.take (sg b),b.drop (sg b)) else none
theorem zpP:∀ (b:List UInt8) (f:Bool) (acc t r:List UInt8),qd f b acc=some (t,r)->r.length < b.length
 | [],f,acc,t,r,h=>by cases f <;> simp [qd] at h
 | c :: b,true,acc,t,r,h=>by
  simp only [qd] at h
  have:=zpP b _ _ _ _ h
  simp;omega
 | c :: b,false,acc,t,r,h=>by
  simp only [qd] at h
  by_cases h1:c=34
  ·simp only [zDT h1,zCt] at h
   by_cases h2:hd b=34
   ·simp only [zDT h2,zCt] at h
    have:=zpP b _ _ _ _ h
    simp;omega
   ·simp only [zDF h2,zCf] at h
    cases hv:Lib.validD acc with
    | true=>rw [hv] at h;simp at h;rw [<- h.2];simp
    | false=>rw [hv] at h;cases h
  ·simp only [zDF h1,zCf] at h
   have:=zpP b _ _ _ _ h
   simp;omega
theorem zmN {b:List UInt8} {n:Nat} (h:numLen b=some n):0 < n/\n <= b.length:=by
 unfold numLen at h
 by_cases h1:hd b=45
 ·simp only [zDT h1,zCt] at h
  cases hb:numBad true (b.drop 1) with
  | true=>rw [hb] at h;cases h
  | false =>
   rw [hb] at h;simp only [zCf,Option.some.injEq] at h
   have:=zrW (b.drop 1)
   rw [zLd] at this
   have:b ≠ []:=λe=>by rw [e] at h1;cases h1
   have:=List.length_pos_iff.2 this
   omega
 ·simp only [zDF h1,zCf] at h
  cases hb:numBad false b with
  | true=>rw [hb] at h;cases h
  | false =>
   rw [hb] at h;simp at h
   have:=zrW b
   have:decide (dg b < 1)=false:=by
    unfold numBad at hb
    simp only [Bool.or_eq_false_iff] at hb
    exact hb.1.1.1.1.1.1
   have:=zOF this
   omega
theorem ztd {b:List UInt8} (h:zaU (hd b)=true):0 < nm b:=by
 cases b with
 | nil=>simp [hd,zaU] at h
 | cons c r =>
  rw [zr4]
  simp only [hd] at h
  unfold inName
  rw [h];simp
theorem zrR:∀ (l:List (List UInt8)) (b:List UInt8),sgF l b <= b.length
 | [],b=>zNz _
 | p :: ps,b=>by
  unfold sgF
  cases h:isPre p b with
  | true=>exact ((zgZ _ _).1 h).1
  | false=>exact zrR ps b
theorem zjX {b t r:List UInt8} {k:Int} (h:oneS b=some (k,t,r)):r.length < b.length:=by
 unfold oneS at h
 simp only at h
 cases h1:zaU (hd b) with
 | true =>
  rw [h1,zCt] at h
  cases h2:nmBad b with
  | true=>rw [h2] at h;cases h
  | false =>
   rw [h2] at h
   simp only [zCf,Option.some.injEq,Prod.mk.injEq] at h
   rw [<- h.2.2,zLd]
   have:=ztd h1
   have:=zoW b
   omega
 | false =>
  rw [h1,zCf] at h
  cases h2:isDigit (hd b) || (decide (hd b=45) && isDigit (hd (b.drop 1))) with
  | true =>
   rw [h2,zCt] at h
   cases h3:numLen b with
   | none=>rw [h3] at h;cases h
   | some n =>
    rw [h3] at h
    simp only [Option.some.injEq,Prod.mk.injEq] at h
    have:=zmN h3
    rw [<- h.2.2,zLd];omega
  | false =>
   rw [h2,zCf] at h
   by_cases h3:hd b=39
   ·rw [zDT h3,zCt] at h
    cases h4:hexBad (b.drop 1) with
    | true=>rw [h4] at h;cases h
    | false =>
     rw [h4] at h
     simp only [zCf,Option.some.injEq,Prod.mk.injEq] at h
     have:b ≠ []:=λe=>by rw [e] at h3;cases h3
     have:=List.length_pos_iff.2 this
     rw [<- h.2.2,zLd,zLd];omega
   ·rw [zDF h3,zCf] at h
    by_cases h4:hd b=34
    ·rw [zDT h4,zCt] at h
     cases h5:qd false (b.drop 1) [] with
     | none=>rw [h5] at h;cases h
     | some q =>
      rw [h5] at h
      obtain ⟨t',r'⟩:=q
      simp only [Option.some.injEq,Prod.mk.injEq] at h
      have:=zpP _ _ _ _ _ h5
      rw [zLd] at this
      rw [<- h.2.2];omega
    ·rw [zDF h4,zCf] at h
     by_cases h5:0 < sg b
     ·rw [zDT h5,zCt] at h
      simp only [Option.some.injEq,Prod.mk.injEq] at h
      have:=zrR sgs b
      have e:sgF sgs b=sg b:=rfl
      rw [<- h.2.2,zLd];omega
     ·rw [zDF h5] at h;cases h
theorem zvZ (s:Str) (i:Int) (h0:0 <= i) (h1:i < s.b.length) (hl:s.b.length <= 1000000) :
    T (λ(q:GTok × Int)=>match oneS (s.b.drop i.toNat) with
      | none=>q.2 < 0
      | some (k,t,r)=>q=(⟨k,⟨t⟩,i⟩,(s.b.length:Int) - (r.length:Int))) (zlZ s i):=by
  unfold zlZ
  refine T.get h0 h1 λy hy=>?_
  have ed:=dropc hy
  have hy0:hd (s.b.drop i.toNat)=y:=by rw [ed];rfl
  have ed1:(s.b.drop i.toNat).drop 1=s.b.drop (i.toNat + 1):=by rw [List.drop_drop]
  have elen:(s.b.drop i.toNat).length=s.b.length - i.toNat:=zLd
  have etake:∀ (n:Nat),(s.b.take (i + (n:Int)).toNat).drop i.toNat=(s.b.drop i.toNat).take n:=λn=>by
    rw [seg];congr 1;omega
  have erest:∀ (n:Nat),n <= (s.b.drop i.toNat).length->i + (n:Int)=(s.b.length:Int) - (((s.b.drop i.toNat).drop n).length:Int):=λn hn=>by
    rw [zLd,elen];rw [elen] at hn;omega
  refine T.jp (ι:=Int × GTok) (λ(q:Int × GTok)=>match oneS (s.b.drop i.toNat) with
      | none=>q.1 < 0
      | some (k,t,r)=>(q.2,q.1)=(⟨k,⟨t⟩,i⟩,(s.b.length:Int) - (r.length:Int))) (λJ h=>?_) λq hq=>T.some hq
  unfold oneS at h ⊢
  simp only [hy0] at h ⊢
  refine T.eq (zmP y) (T.br (λhle=>?_) λhle=>T.eq (zkr y) ?_)
  · rw [hle,zCt] at h ⊢
    have hcl:zaU (hd (s.b.drop i.toNat))=true:=by rw [hy0];exact hle
    refine T.eq (zu6 s i h0 h1 hl hcl) ?_
    cases hb:nmBad (s.b.drop i.toNat) with
    | true =>
      rw [hb,zCt] at h
      simp only [zCt] at h ⊢
      exact T.br (λ_=>T.some (by dsimp only;omega)) λhn=>by have:=zOF hn;omega
    | false =>
      rw [hb,zCf] at h
      simp only [zCf] at h ⊢
      have hnl:=zoW (s.b.drop i.toNat)
      rw [elen] at hnl
      refine T.br (λhn=>by have:=zOT hn;omega) λ_=>T.asd (by omega) ?_
      rw [etake]
      refine T.jp (ι:=GTok) (λt=>t=⟨bif decide (y <= 90) then 1 else 2,⟨(s.b.drop i.toNat).take (nm (s.b.drop i.toNat))⟩,i⟩) (λJ2 h2=>T.br (λh3=>h2 _ (by rw [h3];rfl)) λh3=>h2 _ (by rw [h3];rfl)) λt ht=>?_
      subst ht
      refine T.eq (zuB _) (T.br (λh3=>h _ ?_) λh3=>h _ ?_)
      · dsimp only at h3 ⊢;rw [h3,<- erest _ (zoW _)];rfl
      · dsimp only at h3 ⊢;rw [h3,<- erest _ (zoW _)];rfl
  · rw [hle, zCf] at h ⊢
    refine T.jp (λb=>b=(isDigit y || (decide (y=45) && isDigit (hd ((s.b.drop i.toNat).drop 1))))) (λJ2 h2=>T.br (λh3=>h2 _ (by rw [h3];rfl)) λh3=>?_) λb hb=>?_
    · refine T.jp (λb=>b=(decide (y=45) && isDigit (hd ((s.b.drop i.toNat).drop 1)))) (λJ3 h4=>T.br (λh5=>T.ck (by omega) (T.eq (zmU s (i + 1) (by omega)) (T.eq (zkr _) (h4 _ ?_)))) λh5=>h4 _ (by rw [h5];rfl)) λb hb=>h2 _ (by rw [h3,hb];rfl)
      rw [h5,ed1,show (i + 1).toNat=i.toNat + 1 by omega];rfl
    rw [<- hb] at h ⊢
    refine T.br (λh3=>T.eq (ztc s i h0 h1 hl) ?_) λh3=>?_
    · rw [h3,zCt] at h ⊢
      cases hn:numLen (s.b.drop i.toNat) with
      | none =>
        simp only [hn] at h ⊢
        exact T.br (λ_=>T.some (by dsimp only;omega)) λhn=>by have:=zOF hn;omega
      | some n =>
        simp only [hn] at h ⊢
        have hbd:=zmN hn
        have hbd2:=hbd.2
        rw [elen] at hbd2
        refine T.br (λhn=>by have:=zOT hn;omega) λ_=>T.asd (by omega) (h _ ?_)
        rw [etake,<- erest n hbd.2]
    · rw [h3,zCf] at h ⊢
      refine T.br (λh4=>T.eq (zv2 s i h0 h1 hl) (h _ ?_)) λh4=>?_
      · rw [h4,zCt,ed1]
        cases hb:hexBad (s.b.drop (i.toNat + 1)) with
        | true=>simp only [zCt];omega
        | false =>
          simp only [zCf]
          have h5:hx (s.b.drop (i.toNat + 1)) + 1 < (s.b.drop (i.toNat + 1)).length:=by
            unfold hexBad at hb
            have:=(Bool.or_eq_false_iff.1 hb).2
            have h72:hd ((s.b.drop (i.toNat + 1)).drop (hx (s.b.drop (i.toNat + 1)) + 1))=72:=by simpa using this
            exact zqf (by rw [h72];decide)
          rw [zLd] at h5
          rw [zLd,zLd]
          have e:i + 1 + (hx (s.b.drop (i.toNat + 1)):Int) + 2=(s.b.length:Int) - ((s.b.length - (i.toNat + 1) - (hx (s.b.drop (i.toNat + 1)) + 2):Nat):Int):=by omega
          rw [e]
      · rw [h4,zCf] at h ⊢
        refine T.br (λh5=>T.eq (zsP s i h0 h1 hl) (h _ ?_)) λh5=>?_
        · rw [h5,zCt,ed1]
          cases hq:qd false (s.b.drop (i.toNat + 1)) [] with
          | none=>simp only;omega
          | some q=>rfl
        · rw [h5,zCf] at h ⊢
          refine T.eq (zvB s i h0 h1 hl) (T.br (λh6=>?_) λh6=>h _ ?_)
          · have h6:=zOT h6
            have hsl:=zrR sgs (s.b.drop i.toNat)
            have esg:sgF sgs (s.b.drop i.toNat)=sg (s.b.drop i.toNat):=rfl
            have hpos:0 < sg (s.b.drop i.toNat):=by omega
            have hsl2:=hsl
            rw [elen] at hsl2
            refine T.ck (by omega) (T.asd (by omega) (T.ck (by omega) (h _ ?_)))
            rw [zDT hpos,zCt]
            dsimp only
            rw [etake,<- erest (sg (s.b.drop i.toNat)) hsl]
          · have h6:=zOF h6
            rw [zDF (show ¬ 0 < sg (s.b.drop i.toNat) by omega)]
            simp only [zCf];omega

def toksF (n:Nat):Nat->List UInt8->List GTok->List GTok × Int × Int
 | 0,_,_=>([],0,0)
 | f + 1,b,acc=>match wh .out b with
  | []=>(acc ++ [⟨0,⟨[]⟩,(n:Int)⟩],0,0)
  | c :: r=>match oneS (c :: r) with
   | none=>([],(n:Int) - ((c :: r).length:Int),6)
   | some (k,t,r')=>toksF n f r' (acc ++ [⟨k,⟨t⟩,(n:Int) - ((c :: r).length:Int)⟩])
theorem zgR (n f:Nat) (b:List UInt8) (acc:List GTok):toksF n (f + 1) b acc=match wh .out b with
    | []=>(acc ++ [⟨0,⟨[]⟩,(n:Int)⟩],0,0)
    | c :: r=>match oneS (c :: r) with
      | none=>([],(n:Int) - ((c :: r).length:Int),6)
      | some (k,t,r')=>toksF n f r' (acc ++ [⟨k,⟨t⟩,(n:Int) - ((c :: r).length:Int)⟩]):=rfl
def toks (b:List UInt8):List GTok × Int × Int:=bif decide (8000 < b.length) then ([],0,5) else toksF b.length (b.length + 1) b []
theorem zfg:∀ (b:List UInt8) (st:Wst),(wh st b).length <= b.length
 | [],st=>by cases st <;> simp [wh]
 | c :: r,.out=>by
  have h1:=zfg r .out
  have h2:=zfg r .start
  simp only [wh]
  cases isWh c <;> simp only [zCt,zCf]
  ·cases decide (c=45) && decide (hd r=45) <;> simp only [zCt,zCf,zLc] <;> omega
  ·simp only [zLc];omega
 | c :: r,.start=>by have:=zfg r .ins;simp only [wh,zLc];omega
 | c :: r,.ins=>by
  have h1:=zfg r .out
  have h2:=zfg r .fin
  have h3:=zfg r .ins
  simp only [wh,zLc]
  cases decide (c=10) <;> simp only [zCt,zCf]
  ·cases decide (c=45) && decide (hd r=45) <;> simp only [zCt,zCf] <;> omega
  ·omega
 | c :: r,.fin=>by have:=zfg r .out;simp only [wh,zLc];omega
theorem zin:∀ (b:List UInt8) (st:Wst),∃ n,wh st b=b.drop n
 | [],st=>⟨0,by cases st <;> simp [wh]⟩
 | c :: r,.out=>by
  obtain ⟨n1,h1⟩:=zin r .out
  obtain ⟨n2,h2⟩:=zin r .start
  simp only [wh]
  cases isWh c <;> simp only [zCt,zCf]
  ·cases decide (c=45) && decide (hd r=45) <;> simp only [zCt,zCf]
   ·exact ⟨0,rfl⟩
   ·exact ⟨n2 + 1,h2⟩
  ·exact ⟨n1 + 1,h1⟩
 | c :: r,.start=>by obtain ⟨n,h⟩:=zin r .ins;exact ⟨n + 1,h⟩
 | c :: r,.ins=>by
  obtain ⟨n1,h1⟩:=zin r .out
  obtain ⟨n2,h2⟩:=zin r .fin
  obtain ⟨n3,h3⟩:=zin r .ins
  simp only [wh]
  cases decide (c=10) <;> simp only [zCt,zCf]
  ·cases decide (c=45) && decide (hd r=45) <;> simp only [zCt,zCf]
   ·exact ⟨n3 + 1,h3⟩
   ·exact ⟨n2 + 1,h2⟩
  ·exact ⟨n1 + 1,h1⟩
 | c :: r,.fin=>by obtain ⟨n,h⟩:=zin r .out;exact ⟨n + 1,h⟩
theorem zpQ:∀ (b:List UInt8) (f:Bool) (acc t r:List UInt8),qd f b acc=some (t,r)->∃ n,r=b.drop n
 | [],f,acc,t,r,h=>by cases f <;> simp [qd] at h
 | c :: b,true,acc,t,r,h=>by
  simp only [qd] at h
  obtain ⟨n,e⟩:=zpQ b _ _ _ _ h
  exact ⟨n + 1,e⟩
 | c :: b,false,acc,t,r,h=>by
  simp only [qd] at h
  by_cases h1:c=34
  ·simp only [zDT h1,zCt] at h
   by_cases h2:hd b=34
   ·simp only [zDT h2,zCt] at h
    obtain ⟨n,e⟩:=zpQ b _ _ _ _ h
    exact ⟨n + 1,e⟩
   ·simp only [zDF h2,zCf] at h
    cases hv:Lib.validD acc with
    | true=>rw [hv] at h;simp at h;exact ⟨1,h.2.symm⟩
    | false=>rw [hv] at h;cases h
  ·simp only [zDF h1,zCf] at h
   obtain ⟨n,e⟩:=zpQ b _ _ _ _ h
   exact ⟨n + 1,e⟩
theorem zqx {b t r:List UInt8} {k:Int} (h:oneS b=some (k,t,r)):∃ n,r=b.drop n:=by
 unfold oneS at h
 simp only at h
 cases h1:zaU (hd b) with
 | true =>
  rw [h1,zCt] at h
  cases h2:nmBad b with
  | true=>rw [h2] at h;cases h
  | false =>
   rw [h2] at h
   simp only [zCf,Option.some.injEq,Prod.mk.injEq] at h
   exact ⟨_,h.2.2.symm⟩
 | false =>
  rw [h1,zCf] at h
  cases h2:isDigit (hd b) || (decide (hd b=45) && isDigit (hd (b.drop 1))) with
  | true =>
   rw [h2,zCt] at h
   cases h3:numLen b with
   | none=>rw [h3] at h;cases h
   | some n =>
    rw [h3] at h
    simp only [Option.some.injEq,Prod.mk.injEq] at h
    exact ⟨_,h.2.2.symm⟩
  | false =>
   rw [h2,zCf] at h
   by_cases h3:hd b=39
   ·rw [zDT h3,zCt] at h
    cases h4:hexBad (b.drop 1) with
    | true=>rw [h4] at h;cases h
    | false =>
     rw [h4] at h
     simp only [zCf,Option.some.injEq,Prod.mk.injEq,List.drop_drop] at h
     exact ⟨_,h.2.2.symm⟩
   ·rw [zDF h3,zCf] at h
    by_cases h4:hd b=34
    ·rw [zDT h4,zCt] at h
     cases h5:qd false (b.drop 1) [] with
     | none=>rw [h5] at h;cases h
     | some q =>
      rw [h5] at h
      obtain ⟨t',r'⟩:=q
      simp only [Option.some.injEq,Prod.mk.injEq] at h
      obtain ⟨n,e⟩:=zpQ _ _ _ _ _ h5
      rw [List.drop_drop] at e
      exact ⟨_,h.2.2.symm.trans e⟩
    ·rw [zDF h4,zCf] at h
     by_cases h5:0 < sg b
     ·rw [zDT h5,zCt] at h
      simp only [Option.some.injEq,Prod.mk.injEq] at h
      exact ⟨_,h.2.2.symm⟩
     ·rw [zDF h5] at h;cases h
theorem zj4 {b r:List UInt8} {n:Nat} (h:r=b.drop n):b.drop (b.length - r.length)=r:=by
 subst h
 rw [zLd]
 rcases Nat.lt_or_ge b.length n with h2 | h2
 ·rw [zDn (show b.length <= n by omega),zDn (by omega)]
 ·congr 1;omega

theorem zsK (s:Str):zg0 s=some (toks s.b):=by
 refine tx ?_
 unfold zg0 toks
 refine T.br (λh=>T.some ?_) λh=>?_
 ·have h:=zOT h
  rw [zDT (show 8000 < s.b.length by omega)];rfl
 have hl:=zOF h
 rw [zDF (show ¬ 8000 < s.b.length by omega),zCf]
 refine T.lp (ι:=List GTok × Int) (λ(q:List GTok × Int)=>0 <= q.2/\q.2 <= (s.b.length:Int)/\(q.1.length:Int) <= q.2/\∃ f,(s.b.drop q.2.toNat).length < f/\toksF s.b.length (s.b.length + 1) s.b []=toksF s.b.length f (s.b.drop q.2.toNat) q.1) (λ(q:List GTok × Int)=>((s.b.length:Int) - q.2).toNat) ⟨zIl _,by dsimp only;omega,by simp,s.b.length + 1,by simp,rfl⟩ (by dsimp only;omega) λL q hq hL=>?_
 obtain ⟨l,k⟩:=q
 obtain ⟨h1,h2,h3,f,h4,h5⟩:=hq
 simp only at h1 h2 h3 h4 h5 ⊢
 rw [h5] at hL ⊢
 cases f with
 | zero=>omega
 | succ f =>
  have hwl:=zfg (s.b.drop k.toNat) .out
  rw [zLd] at hwl h4
  obtain ⟨nw,hw⟩:=zin (s.b.drop k.toNat) .out
  rw [List.drop_drop] at hw
  have hsw:=zj4 hw
  refine T.eq (zt0 s k h1 h2 (by omega)) ?_
  rw [zgR] at hL ⊢
  cases hwh:wh .out (s.b.drop k.toNat) with
  | nil =>
   simp only [hwh] at hL ⊢
   refine T.br (λ_=>T.abl (by simp only [zLc,zLn];omega) (T.some rfl)) λh6=>?_
   have:=zOF h6
   simp at this
  | cons c r =>
   simp only [hwh] at hL ⊢ 
   rw [hwh] at hwl hsw
   have hcl:0 < (c :: r).length:=by simp
   refine T.br (λh6=>by have:=zOT h6;omega) λ_=>?_
   have hi:((s.b.length:Int) - ((c :: r).length:Int)).toNat=s.b.length - (c :: r).length:=by omega
   refine T.cal (zvZ s ((s.b.length:Int) - ((c :: r).length:Int)) (by omega) (by omega) (by omega)) λq _ hq=>?_
   rw [hi,hsw] at hq
   cases ho:oneS (c :: r) with
   | none =>
    rw [ho] at hq
    simp only [ho] at hL ⊢
    simp only at hq
    exact T.br (λ_=>T.some rfl) λh7=>by have:=zOF h7;omega
   | some p =>
    obtain ⟨kd,t,r'⟩:=p
    rw [ho] at hq
    simp only [ho] at hL ⊢
    simp only at hq
    subst hq
    have hol:=zjX ho
    obtain ⟨no,hso⟩:=zqx ho
    have hso2:r'=s.b.drop (s.b.length - (c :: r).length + no):=by rw [hso,<- List.drop_drop,hsw]
    have hsd:=zj4 hso2
    refine T.br (λh7=>by have:=zOT h7;dsimp only at this;omega) λ_=>T.abl (by simp only [zLc,zLn];omega) (hL _ ⟨by dsimp only;omega,by dsimp only;omega,?_,f,?_,?_⟩ (by dsimp only;omega))
    ·dsimp only;rw [zLa,zLs];omega
    ·dsimp only
     rw [show ((s.b.length:Int) - (r'.length:Int)).toNat=s.b.length - r'.length by omega,hsd]
     omega
    ·dsimp only
     rw [show ((s.b.length:Int) - (r'.length:Int)).toNat=s.b.length - r'.length by omega,hsd]
end Go.Proofs.Q


namespace Go.Proofs.Q
open Go.Sy
set_option linter.unusedVariables false

inductive KT:List UInt8->List (Int × List UInt8)->Prop
 | fin {b:List UInt8}:wh .out b=[]->KT b []
 | tok {b r r' t:List UInt8} {c:UInt8} {k:Int} {ks:List (Int × List UInt8)}:wh .out b=c :: r->oneS (c :: r)=some (k,t,r')->KT r' ks->KT b ((k,t) :: ks)
def kt (t:GTok):Int × List UInt8:=(t.kind,t.text.b)
theorem ztJ {n:Nat} {b:List UInt8} {ks:List (Int × List UInt8)} (h:KT b ks):∀ f acc,b.length < f->∃ l,toksF n f b acc=(acc ++ l,0,0)/\l.map kt=ks ++ [(0,[])]:=by
 induction h with
 | @fin b h =>
  intro f acc hf
  obtain ⟨f,rfl⟩:∃ g,f=g + 1:=⟨f - 1,by omega⟩
  rw [zgR,h]
  exact ⟨_,rfl,rfl⟩
 | @tok b r r' t c k ks h1 h2 _ ih =>
  intro f acc hf
  obtain ⟨f,rfl⟩:∃ g,f=g + 1:=⟨f - 1,by omega⟩
  have h3:=zjX h2
  have h4:=zfg b .out
  rw [h1] at h4
  obtain ⟨l,e1,e2⟩:=ih f (acc ++ [⟨k,⟨t⟩,(n:Int) - ((c :: r).length:Int)⟩]) (by omega)
  rw [zgR,h1]
  simp only [h2]
  rw [e1]
  exact ⟨⟨k,⟨t⟩,(n:Int) - ((c :: r).length:Int)⟩ :: l,by rw [zLA];rfl,by rw [List.map_cons,e2];rfl⟩
theorem zuL {b:List UInt8} {ks:List (Int × List UInt8)} (h:KT b ks) (hl:b.length <= 8000):∃ l,toks b=(l,0,0)/\l.map kt=ks ++ [(0,[])]:=by
 unfold toks
 rw [zDF (show ¬ 8000 < b.length by omega),zCf]
 obtain ⟨l,e1,e2⟩:=ztJ (n:=b.length) h (b.length + 1) [] (by omega)
 exact ⟨l,by rw [e1,List.nil_append],e2⟩

/-! ### White -/
theorem KT.sp {b:List UInt8} {ks:List (Int × List UInt8)} (h:KT b ks):KT (32 :: b) ks:=by
 cases h with
 | fin h=>exact .fin h
 | tok h1 h2 h3=>exact .tok h1 h2 h3
theorem zoi {c:UInt8} {r:List UInt8} (h1:isWh c=false) (h2:c ≠ 45 \/ hd r ≠ 45):wh .out (c :: r)=c :: r:=by
 have e:(decide (c=45) && decide (hd r=45))=false:=by
  rcases h2 with h | h
  ·rw [zDF h];rfl
  ·rw [zDF h,Bool.and_false]
 show (bif isWh c then wh .out r else bif decide (c=45) && decide (hd r=45) then wh .start r else c :: r)=_
 rw [h1,e];rfl
theorem zv7 {w x:List UInt8}:hd (w ++ x)=hd (w ++ [hd x]):=by
 cases w with
 | nil=>rfl
 | cons c w=>rfl

/-! ### Names -/
def nmAll:List UInt8->UInt8->Bool
 | [],_=>true
 | c :: w,d=>inName c (w ++ [d]) && nmAll w d
def stopN:List UInt8->Bool
 | []=>true
 | d :: r=>!inName d r
theorem zo7 {c:UInt8} {r s:List UInt8} (h:hd r=hd s):inName c r=inName c s:=by unfold inName;rw [h]
theorem zt3 {x:List UInt8} (hs:stopN x=true):∀ {w:List UInt8},nmAll w (hd x)=true->nm (w ++ x)=w.length
 | [],_=>by
  cases x with
  | nil=>rfl
  | cons d r =>
   have:inName d r=false:=by
    have hs2:(!inName d r)=true:=hs
    cases h:inName d r with
    | true=>rw [h] at hs2;cases hs2
    | false=>rfl
   show (bif inName d r then nm r + 1 else 0)=0
   rw [this];rfl
 | c :: w,h=>by
  unfold nmAll at h
  rw [zBa] at h
  show (bif inName c (w ++ x) then nm (w ++ x) + 1 else 0)=w.length + 1
  rw [zo7 zv7,h.1,zt3 hs h.2];rfl
def kindN (w:List UInt8):Int:=bif isWord w then 5 else bif decide (hd w <= 90) then 1 else 2
theorem zjm {w x:List UInt8} (h:w ≠ []):hd (w ++ x)=hd w:=by
 cases w with
 | nil=>exact absurd rfl h
 | cons c w=>rfl
theorem zpt {w:List UInt8} (h:zaU (hd w)=true):w ≠ []:=λe=>by subst e;cases h
theorem ztE {w x:List UInt8} (h0:zaU (hd w)=true) (h1:nmAll w (hd x)=true) (h2:stopN x=true) (h3:w.getLast? ≠ some 45) (h4:w.length <= 60):oneS (w ++ x)=some (kindN w,w,x):=by
 have hn:=zt3 h2 h1
 have hb:nmBad (w ++ x)=false:=by
  unfold nmBad
  rw [hn,List.take_left,zDF h3,zDF (by omega)];rfl
 unfold oneS
 simp only
 rw [zjm (zpt h0),h0,hb,hn,List.take_left,List.drop_left]
 rfl
theorem zsQ {c:UInt8} (h:zaU c=true):isWh c=false/\c ≠ 45:=by
 unfold zaU at h
 unfold isWh
 simp only [Bool.or_eq_true,zBa,decide_eq_true_eq,UInt8.le_iff_toNat_le] at h
 have e:∀ n:UInt8,n.toNat <= 45->c ≠ n:=λn hn e=>by
  subst e
  have e1:(97:UInt8).toNat=97:=rfl
  have e2:(65:UInt8).toNat=65:=rfl
  omega
 rw [zDF (e 32 (by decide)),zDF (e 9 (by decide)),zDF (e 10 (by decide)),zDF (e 13 (by decide))]
 exact ⟨rfl,e 45 (by decide)⟩
theorem KT.name {w x:List UInt8} {ks:List (Int × List UInt8)} (h0:zaU (hd w)=true) (h1:nmAll w (hd x)=true) (h2:stopN x=true) (h3:w.getLast? ≠ some 45) (h4:w.length <= 60) (h:KT x ks):KT (w ++ x) ((kindN w,w) :: ks):=by
 cases hw:w with
 | nil=>rw [hw] at h0;cases h0
 | cons c r =>
  have hc:zaU c=true:=by rw [hw] at h0;exact h0
  obtain ⟨e1,e2⟩:=zsQ hc
  have:=ztE h0 h1 h2 h3 h4
  rw [hw] at this
  exact .tok (zoi e1 (.inl e2)) this h

/-! ### Numbers -/
def digs2 (d:List UInt8):Bool:=d.all isDigit
theorem zpu {x:List UInt8} (hs:isDigit (hd x)=false):∀ {d:List UInt8},digs2 d=true->dg (d ++ x)=d.length
 | [],_=>by
  cases x with
  | nil=>rfl
  | cons c r =>
   show (bif isDigit c then dg r + 1 else 0)=0
   have:isDigit c=false:=hs
   rw [this];rfl
 | c :: d,h=>by
  unfold digs2 at h
  rw [List.all_cons,zBa] at h
  show (bif isDigit c then dg (d ++ x) + 1 else 0)=d.length + 1
  rw [h.1,zpu hs h.2];rfl
def numOk (m:Bool) (d:List UInt8):Bool:=digs2 d && decide (1 <= d.length) && decide (d.length <= 19) && (decide (d.length <= 1) || !decide (hd d=48)) && (!m || !decide (hd d=48)) && decide ((uval d).toNat <= (if m then 9223372036854775808 else 9223372036854775807))
theorem znN {m:Bool} {d x:List UInt8} (h:numOk m d=true) (h1:isDigit (hd x)=false) (h2:zaU (hd x)=false):numBad m (d ++ x)=false:=by
 unfold numOk at h
 simp only [zBa,decide_eq_true_eq] at h
 obtain ⟨⟨⟨⟨⟨h3,h4⟩,h5⟩,h6⟩,h7⟩,h8⟩:=h
 have hne:d ≠ []:=λe=>by subst e;simp at h4
 have hn:=zpu h1 h3
 unfold numBad
 rw [hn,zjm hne,List.drop_left,List.take_left,h2,zDF (show ¬ d.length < 1 by omega),zDF (show ¬ 19 < d.length by omega)]
 have e1:(decide (1 < d.length) && decide (hd d=48))=false:=by
  rw [Bool.or_eq_true] at h6
  rcases h6 with h | h
  ·rw [zDF (by have:=zOT h;omega)];rfl
  ·have:decide (hd d=48)=false:=by simpa using h
   rw [this,Bool.and_false]
 have e2:(m && decide (hd d=48))=false:=by
  rw [Bool.or_eq_true] at h7
  rcases h7 with h | h
  ·have:m=false:=by simpa using h
   rw [this];rfl
  ·have:decide (hd d=48)=false:=by simpa using h
   rw [this,Bool.and_false]
 have e3:decide ((9223372036854775808:UInt64) < uval d)=false:=by
  refine zDF λh=>?_
  have h:=UInt64.lt_iff_toNat_lt.1 h
  have e:(9223372036854775808:UInt64).toNat=9223372036854775808:=rfl
  cases m with
  | true=>rw [if_pos rfl] at h8;omega
  | false=>rw [if_neg (by decide)] at h8;omega
 have e4:(!m && decide (uval d=9223372036854775808))=false:=by
  cases m with
  | true=>rfl
  | false =>
   rw [if_neg (by decide)] at h8
   have:¬ uval d=9223372036854775808:=λe=>by
    rw [e] at h8
    have e:(9223372036854775808:UInt64).toNat=9223372036854775808:=rfl
    omega
   rw [zDF this];rfl
 rw [e1,e2,e3,e4];rfl
theorem zmS {c:UInt8} (h:isDigit c=true):zaU c=false/\isWh c=false/\c ≠ 45:=by
 unfold isDigit at h
 simp only [zBa,decide_eq_true_eq,UInt8.le_iff_toNat_le] at h
 have a1:(48:UInt8).toNat=48:=rfl
 have a2:(57:UInt8).toNat=57:=rfl
 have e:∀ n:UInt8,n.toNat <= 45->c ≠ n:=λn hn e=>by subst e;omega
 refine ⟨?_,?_,e 45 (by decide)⟩
 ·unfold zaU
  have b1:(97:UInt8).toNat=97:=rfl
  have b2:(65:UInt8).toNat=65:=rfl
  rw [zDF (show ¬ (97:UInt8) <= c from λh=>by have:=UInt8.le_iff_toNat_le.1 h;omega),zDF (show ¬ (65:UInt8) <= c from λh=>by have:=UInt8.le_iff_toNat_le.1 h;omega)];rfl
 ·unfold isWh
  rw [zDF (e 32 (by decide)),zDF (e 9 (by decide)),zDF (e 10 (by decide)),zDF (e 13 (by decide))];rfl
theorem zi1 {m:Bool} {d:List UInt8} (h:numOk m d=true):d ≠ []:=λe=>by subst e;cases m <;> cases h
theorem zlJ {m:Bool} {d:List UInt8} (h:numOk m d=true):isDigit (hd d)=true:=by
 cases d with
 | nil=>exact absurd rfl (zi1 h)
 | cons c r =>
  unfold numOk digs2 at h
  simp only [zBa,List.all_cons] at h
  exact h.1.1.1.1.1.1
theorem zvx {d x:List UInt8} (h:numOk false d=true) (h1:isDigit (hd x)=false) (h2:zaU (hd x)=false):oneS (d ++ x)=some (3,d,x):=by
 have hc:=zlJ h
 obtain ⟨e1,e2,e3⟩:=zmS hc
 have hn:numLen (d ++ x)=some d.length:=by
  unfold numLen
  have hd2:digs2 d=true:=by
   unfold numOk at h
   simp only [zBa] at h
   exact h.1.1.1.1.1
  rw [zjm (zi1 h),zDF e3,zCf,znN h h1 h2,zCf,zpu h1 hd2]
 unfold oneS
 simp only
 rw [zjm (zi1 h),e1,hc,Bool.true_or,zCt,zCf,hn]
 simp only [List.take_left,List.drop_left]
theorem zuR {d x:List UInt8} (h:numOk true d=true) (h1:isDigit (hd x)=false) (h2:zaU (hd x)=false):oneS (45 :: (d ++ x))=some (3,45 :: d,x):=by
 have hc:=zlJ h
 have hn:numLen (45 :: (d ++ x))=some (d.length + 1):=by
  unfold numLen
  have hd2:digs2 d=true:=by
   unfold numOk at h
   simp only [zBa] at h
   exact h.1.1.1.1.1
  show (bif numBad true (d ++ x) then none else some (dg (d ++ x) + 1))=_
  rw [znN h h1 h2,zCf,zpu h1 hd2]
 unfold oneS
 have e:isDigit (hd ((45 :: (d ++ x)).drop 1))=true:=by
  show isDigit (hd (d ++ x))=true
  rw [zjm (zi1 h)];exact hc
 simp only
 rw [show zaU (hd (45 :: (d ++ x)))=false from rfl,show isDigit (hd (45 :: (d ++ x)))=false from rfl,show decide (hd (45 :: (d ++ x))=45)=true from rfl,e,hn]
 show some (3,(45 :: (d ++ x)).take (d.length + 1),(45 :: (d ++ x)).drop (d.length + 1))=_
 rw [List.take_succ_cons,List.drop_succ_cons,List.take_left,List.drop_left]
theorem KT.num {d x:List UInt8} {ks:List (Int × List UInt8)} (h:numOk false d=true) (h1:isDigit (hd x)=false) (h2:zaU (hd x)=false) (hk:KT x ks):KT (d ++ x) ((3,d) :: ks):=by
 have:=zvx h h1 h2
 have hc:=zlJ h
 cases hw:d with
 | nil=>exact absurd hw (zi1 h)
 | cons c r =>
  rw [hw] at this hc
  obtain ⟨_,e2,e3⟩:=zmS hc
  exact .tok (zoi e2 (.inl e3)) this hk
theorem KT.neg {d x:List UInt8} {ks:List (Int × List UInt8)} (h:numOk true d=true) (h1:isDigit (hd x)=false) (h2:zaU (hd x)=false) (hk:KT x ks):KT (45 :: (d ++ x)) ((3,45 :: d) :: ks):=by
 have hc:=zlJ h
 refine .tok (zoi rfl (.inr ?_)) (zuR h h1 h2) hk
 rw [zjm (zi1 h)]
 exact (zmS hc).2.2

/-! ### Signs -/
/-- May that stand behind a sign? -/
def sgN (s:List UInt8) (d:UInt8):Bool:=!(decide (s=[91]) && decide (d=91)) && !(decide (s=[93]) && decide (d=93)) && !(decide (s=[46,46]) && decide (d=46)) && !(decide (s=[58]) && decide (d=58))
theorem zv1 {s:List UInt8} (hs:s ∈ sgs) {x:List UInt8} (h:sgN s (hd x)=true):sg (s ++ x)=s.length:=by
 have n1:∀ (p c:UInt8) (r:List UInt8),hd r ≠ c->isPre [p,c] (p :: r)=false:=λp c r h=>by
  cases r with
  | nil=>show (bif decide (p=p) then false else false)=false;cases decide (p=p) <;> rfl
  | cons d r =>
   have:¬ c=d:=λe=>h e.symm
   show (bif decide (p=p) then (bif decide (c=d) then true else false) else false)=false
   rw [zDF this];cases decide (p=p) <;> rfl
 have n2:∀ (p q c:UInt8) (r:List UInt8),hd r ≠ c->isPre [p,q,c] (p :: q :: r)=false:=λp q c r h=>by
  cases r with
  | nil=>show (bif decide (p=p) then (bif decide (q=q) then false else false) else false)=false;cases decide (p=p) <;> cases decide (q=q) <;> rfl
  | cons d r =>
   have:¬ c=d:=λe=>h e.symm
   show (bif decide (p=p) then (bif decide (q=q) then (bif decide (c=d) then true else false) else false) else false)=false
   rw [zDF this];cases decide (p=p) <;> cases decide (q=q) <;> rfl
 have n3:∀ (p q c:UInt8) (r:List UInt8),hd r ≠ q->isPre [p,q,c] (p :: r)=false:=λp q c r h=>by
  cases r with
  | nil=>show (bif decide (p=p) then false else false)=false;cases decide (p=p) <;> rfl
  | cons d r =>
   have:¬ q=d:=λe=>h e.symm
   show (bif decide (p=p) then (bif decide (q=d) then isPre [c] r else false) else false)=false
   rw [zDF this];cases decide (p=p) <;> rfl
 unfold sgN at h
 simp only [zBa] at h
 obtain ⟨⟨⟨h1,h2⟩,h3⟩,h4⟩:=h
 have sp:∀ {s':List UInt8} {d:UInt8},s=s'->(!(decide (s=s') && decide (hd x=d)))=true->hd x ≠ d:=λ{s' d} e h hd=>by
  rw [zDT e,zDT hd] at h;cases h
 simp only [sgs,List.mem_cons,List.not_mem_nil,or_false] at hs
 rcases hs with e | e | e | e | e | e | e | e | e | e | e | e | e
 ·subst e;rfl
 ·subst e;rfl
 ·have:=sp e h3
  subst e
  show (bif isPre [46,46,46] (46 :: 46 :: x) then 3 else 2)=2
  rw [n2 _ _ _ _ this];rfl
 ·subst e;rfl
 ·subst e;rfl
 ·subst e;rfl
 ·subst e;rfl
 ·have:=sp e h1
  subst e
  show (bif isPre [91,91] (91 :: x) then 2 else 1)=1
  rw [n1 _ _ _ this];rfl
 ·have:=sp e h2
  subst e
  show (bif isPre [93,93] (93 :: x) then 2 else 1)=1
  rw [n1 _ _ _ this];rfl
 ·subst e;rfl
 ·subst e;rfl
 ·subst e;rfl
 ·have:=sp e h4
  subst e
  show (bif isPre [58,58,61] (58 :: x) then 3 else 1)=1
  rw [n3 _ _ _ _ this];rfl
theorem zuu {s:List UInt8} (hs:s ∈ sgs) {x:List UInt8} (h:sgN s (hd x)=true):oneS (s ++ x)=some (6,s,x)/\wh .out (s ++ x)=s ++ x:=by
 have hg:=zv1 hs h
 have hl:0 < s.length:=by
  simp only [sgs,List.mem_cons,List.not_mem_nil,or_false] at hs
  rcases hs with e | e | e | e | e | e | e | e | e | e | e | e | e <;> subst e <;> decide
 have key:(bif decide (0 < sg (s ++ x)) then some ((6:Int),(s ++ x).take (sg (s ++ x)),(s ++ x).drop (sg (s ++ x))) else none)=some (6,s,x):=by
  rw [hg,zDT hl,zCt,List.take_left,List.drop_left]
 simp only [sgs,List.mem_cons,List.not_mem_nil,or_false] at hs
 rcases hs with e | e | e | e | e | e | e | e | e | e | e | e | e <;> subst e <;> exact ⟨key,rfl⟩
theorem KT.sign {s:List UInt8} (hs:s ∈ sgs) {x:List UInt8} {ks:List (Int × List UInt8)} (h:sgN s (hd x)=true) (hk:KT x ks):KT (s ++ x) ((6,s) :: ks):=by
 obtain ⟨h1,h2⟩:=zuu hs h
 cases hw:s ++ x with
 | nil=>rw [hw] at h1;cases h1
 | cons c r =>
  rw [hw] at h1 h2
  exact .tok h2 h1 hk

/-! ### Hexes and strings -/
theorem zup {x:List UInt8} (hs:isHex (hd x)=false):∀ {d:List UInt8},d.all isHex=true->hx (d ++ x)=d.length
 | [],_=>by
  cases x with
  | nil=>rfl
  | cons c r =>
   show (bif isHex c then hx r + 1 else 0)=0
   have:isHex c=false:=hs
   rw [this];rfl
 | c :: d,h=>by
  rw [List.all_cons,zBa] at h
  show (bif isHex c then hx (d ++ x) + 1 else 0)=d.length + 1
  rw [h.1,zup hs h.2];rfl
theorem zvb {t x:List UInt8} (h:t.all isHex=true) (h2:t.length % 2=0):oneS (39 :: (t ++ 39 :: 72 :: x))=some (4,t,x):=by
 have hn:=zup (x:=39 :: 72 :: x) rfl h
 have hb:hexBad (t ++ 39 :: 72 :: x)=false:=by
  unfold hexBad
  rw [hn,zDT h2,List.drop_left,<- List.drop_drop,List.drop_left];rfl
 show (bif hexBad (t ++ 39 :: 72 :: x) then none else some ((4:Int),(t ++ 39 :: 72 :: x).take (hx (t ++ 39 :: 72 :: x)),(t ++ 39 :: 72 :: x).drop (hx (t ++ 39 :: 72 :: x) + 2)))=_
 rw [hb,hn,<- List.drop_drop,List.take_left,List.drop_left];rfl
theorem KT.hex {t x:List UInt8} {ks:List (Int × List UInt8)} (h:t.all isHex=true) (h2:t.length % 2=0) (hk:KT x ks):KT (39 :: (t ++ 39 :: 72 :: x)) ((4,t) :: ks) :=
 .tok (zoi rfl (.inl (by decide))) (zvb h h2) hk
def esc:List UInt8->List UInt8
 | []=>[]
 | c :: s=>if c=34 then 34 :: 34 :: esc s else c :: esc s
theorem zqX {x:List UInt8} (hx:hd x ≠ 34):∀ (s acc:List UInt8),qd false (esc s ++ 34 :: x) acc=bif Lib.validD (acc ++ s) then some (acc ++ s,x) else none
 | [],acc=>by
  show (bif decide ((34:UInt8)=34) then bif decide (hd x=34) then qd true x acc else bif Lib.validD acc then some (acc,x) else none else _)=_
  rw [zDF hx,List.append_nil];rfl
 | c :: s,acc=>by
  by_cases hc:c=34
  ·subst hc
   have:=zqX hx s (acc ++ [34])
   rw [zLA] at this
   exact this
  ·have:=zqX hx s (acc ++ [c])
   rw [zLA] at this
   unfold esc
   rw [if_neg hc]
   show (bif decide (c=34) then _ else qd false (esc s ++ 34 :: x) (acc ++ [c]))=_
   rw [zDF hc]
   exact this
theorem zvr {s x:List UInt8} (hx:hd x ≠ 34) (hv:Lib.validD s=true):oneS (34 :: (esc s ++ 34 :: x))=some (7,s,x):=by
 have:=zqX hx s []
 rw [List.nil_append,hv,zCt] at this
 show (match qd false (esc s ++ 34 :: x) [] with
  | none=>none
  | some (t,r)=>some ((7:Int),t,r))=_
 rw [this]
theorem KT.str {s x:List UInt8} {ks:List (Int × List UInt8)} (hx:hd x ≠ 34) (hv:Lib.validD s=true) (hk:KT x ks):KT (34 :: (esc s ++ 34 :: x)) ((7,s) :: ks) :=
 .tok (zoi rfl (.inl (by decide))) (zvr hx hv) hk
end Go.Proofs.Q


namespace Go.Proofs.Q
open Go.Sy
set_option linter.unusedVariables false

/-! ### Leaves -/
theorem ztr (p:GNpr) (l:List Str) (hl:l.length <= 1000) (hb:p.b.length + (l.map λs=>s.b.length).sum <= 68000000000):zaG p l=some ⟨p.t,p.b ++ (l.map λs=>s.b).flatten⟩:=by
 refine T.eqs ?_
 unfold zaG
 refine T.lp (ι:=Int × GNpr) (λq=>0 <= q.1/\q.1 <= (l.length:Int)/\q.2.t=p.t/\q.2.b ++ ((l.drop q.1.toNat).map λs=>s.b).flatten=p.b ++ (l.map λs=>s.b).flatten/\q.2.b.length + ((l.drop q.1.toNat).map λs=>s.b.length).sum <= 68000000000) (λq=>((l.length:Int) - q.1).toNat) ⟨zIl _,by dsimp only;omega,rfl,rfl,hb⟩ (by dsimp only;omega) λJ q ⟨q0,q1,q2,q3,q4⟩ hJ=>?_
 obtain ⟨k,g⟩:=q
 dsimp only at q0 q1 q2 q3 q4 hJ ⊢
 refine T.br (λhk=>?_) λhk=>T.some ?_
 ·have hk:=zOT hk
  refine T.get q0 hk λy hy=>?_
  have hd:l.drop k.toNat=y :: l.drop (k.toNat + 1):=by
   obtain ⟨h1,h2⟩:=List.getElem?_eq_some_iff.1 hy
   rw [List.drop_eq_getElem_cons h1,h2]
  rw [hd] at q3 q4
  rw [List.map_cons,List.sum_cons] at q4
  rw [List.map_cons,List.flatten_cons] at q3
  have ek:(k + 1).toNat=k.toNat + 1:=by omega
  refine T.abl (by omega) (T.ck (by omega) (hJ _ ⟨by dsimp only;omega,by dsimp only;omega,q2,?_,?_⟩ (by dsimp only;omega)))
  ·dsimp only;rw [ek,zLA];exact q3
  ·dsimp only;rw [ek,zLa];omega
 ·have hk:=zOF hk
  rw [zDn (by omega)] at q3
  simp only [List.map_nil,List.flatten_nil,List.append_nil] at q3
  obtain ⟨gt,gb⟩:=g
  dsimp only at q2 q3
  rw [q2,q3]
theorem put1 (p:GNpr) (s:Str) (h:p.b.length + s.b.length <= 68000000000):zaG p [s]=some ⟨p.t,p.b ++ s.b⟩:=by
 rw [ztr p [s] (by simp) (by simpa using h)];simp
theorem put2 (p:GNpr) (s u:Str) (h:p.b.length + s.b.length + u.b.length <= 68000000000):zaG p [s,u]=some ⟨p.t,p.b ++ (s.b ++ u.b)⟩:=by
 rw [ztr p [s,u] (by simp) (by simp only [List.map_cons,List.map_nil,List.sum_cons,List.sum_nil];omega)];simp
def hiD (c:UInt8):UInt8:=([48,49,50,51,52,53,54,55,56,57,65,66,67,68,69,70]:List UInt8).getD (c.toNat / 16) 0
def loD (c:UInt8):UInt8:=([48,49,50,51,52,53,54,55,56,57,65,66,67,68,69,70]:List UInt8).getD (c.toNat % 16) 0
def hexE (b:List UInt8):List UInt8:=(b.map λc=>[hiD c,loD c]).flatten
theorem ztP:∀ X:Fin 256,getI ([48,49,50,51,52,53,54,55,56,57,65,66,67,68,69,70]:List UInt8) ((shr8 (UInt8.ofNat X.val) (4:UInt64).toNat).toNat:Int)=some (hiD (UInt8.ofNat X.val))/\getI ([48,49,50,51,52,53,54,55,56,57,65,66,67,68,69,70]:List UInt8) ((UInt8.ofNat X.val &&& (15:UInt8)).toNat:Int)=some (loD (UInt8.ofNat X.val)):=by decide +kernel
theorem hexD (c:UInt8):getI ([48,49,50,51,52,53,54,55,56,57,65,66,67,68,69,70]:List UInt8) ((shr8 c (4:UInt64).toNat).toNat:Int)=some (hiD c)/\getI ([48,49,50,51,52,53,54,55,56,57,65,66,67,68,69,70]:List UInt8) ((c &&& (15:UInt8)).toNat:Int)=some (loD c):=by
 have:=ztP ⟨c.toNat,c.toNat_lt⟩
 simp only [UInt8.ofNat_toNat] at this
 exact this
theorem ztt (b:List UInt8):(hexE b).length=2 * b.length:=by
 unfold hexE
 induction b with
 | nil=>rfl
 | cons c b ih=>rw [List.map_cons,List.flatten_cons,zLa,ih,zLc];simp;omega
theorem zsI (c:UInt8) (b:List UInt8):hexE (c :: b)=hiD c :: loD c :: hexE b:=rfl
theorem zuP (b:List UInt8) (hb:b.length <= 1000000):ziE b=some ⟨39 :: (hexE b ++ [39,72])⟩:=by
 refine T.eqs ?_
 unfold ziE
 refine T.lp (ι:=List UInt8 × Int) (λq=>0 <= q.2/\q.2 <= (b.length:Int)/\q.1.length <= 1 + 2 * q.2.toNat/\q.1 ++ hexE (b.drop q.2.toNat)=39 :: hexE b) (λq=>((b.length:Int) - q.2).toNat) ⟨zIl _,by dsimp only;omega,zNl _,rfl⟩ (by dsimp only;omega) λJ q ⟨q0,q1,q2,q3⟩ hJ=>?_
 obtain ⟨acc,k⟩:=q
 dsimp only at q0 q1 q2 q3 hJ ⊢
 refine T.br (λhk=>?_) λhk=>?_
 ·have hk:=zOT hk
  refine T.get q0 hk λy hy=>?_
  have hd:b.drop k.toNat=y :: b.drop (k.toNat + 1):=by
   obtain ⟨h1,h2⟩:=List.getElem?_eq_some_iff.1 hy
   rw [List.drop_eq_getElem_cons h1,h2]
  have ek:(k + 1).toNat=k.toNat + 1:=by omega
  refine T.asr rfl (T.eq (hexD y).1 (T.eq (hexD y).2 (T.abl (by simp only [zLc,zLn];omega) (T.ck (by omega) (hJ _ ⟨by dsimp only;omega,by dsimp only;omega,?_,?_⟩ (by dsimp only;omega))))))
  ·simp only [zLa,zLc,zLn];omega
  ·dsimp only
   rw [ek,<- q3,hd,zsI,zLA];rfl
 ·have hk:=zOF hk
  rw [zDn (by omega)] at q3
  have q3:acc=39 :: hexE b:=by simpa [hexE] using q3
  refine T.abl (by simp only [zLc,zLn];omega) (T.some ?_)
  rw [q3];rfl
theorem zkv:∀ (k u:Nat),u < 10 ^ (k + 1)->(Lib.decDigits u).length <= k + 1
 | 0,u,h=>by rw [Lib.decDigits_one (by simpa using h)];exact zNl _
 | k + 1,u,h=>by
  by_cases h1:u < 10
  ·rw [Lib.decDigits_one h1];simp
  ·rw [Lib.decDigits,dif_neg h1,zLa,zLs]
   rw [Nat.pow_succ] at h
   have:=zkv k (u / 10) (by omega)
   omega
theorem zjZ {n:Int} (h0:-9223372036854775808 <= n) (h1:n <= 9223372036854775807):(Lib.itoa n).length <= 20:=by
 unfold Lib.itoa
 split
 ·have:=zkv 18 n.natAbs (by have h9:(10:Nat) ^ (18 + 1)=10000000000000000000:=(by decide);omega)
  rw [zLc];omega
 ·have:=zkv 18 n.toNat (by have h9:(10:Nat) ^ (18 + 1)=10000000000000000000:=(by decide);omega)
  omega
theorem zvX {n:Int} (h0:-9223372036854775808 <= n) (h1:n <= 9223372036854775807):zeh n 10=some ⟨Lib.itoa n⟩:=by
 unfold zeh
 rw [zDT rfl,Nat.ble_eq_true_of_le (Nat.le_trans (zjZ h0 h1) (by decide))];rfl
theorem zrF (s:List UInt8):Lib.index (34 :: s) [34]=0:=by
 unfold Lib.index
 rw [if_pos]
 simp [List.isPrefixOf]
theorem zqo {c:UInt8} (hc:c ≠ 34) (s:List UInt8):Lib.index (c :: s) [34]=if Lib.index s [34] == -1 then -1 else Lib.index s [34] + 1:=by
 show (if List.isPrefixOf [34] (c :: s) then 0 else _)=_
 rw [if_neg]
 have:((34:UInt8) == c)=false:=by simpa using λe=>hc e.symm
 simp [List.isPrefixOf,this]
theorem zsm {c:UInt8} (hc:c ≠ 34) (nw:List UInt8):∀ (k:Nat) (s:List UInt8),Lib.replaceK [34] nw k (c :: s)=c :: Lib.replaceK [34] nw k s
 | 0,s=>rfl
 | k + 1,s=>by
  rw [Lib.replaceK,Lib.replaceK,zqo hc]
  have hge:=Lib.index_ge s [34]
  by_cases h:Lib.index s [34]=-1
  ·rw [h];rfl
  ·have h1:(Lib.index s [34] == -1)=false:=by simpa using h
   have h2:(Lib.index s [34] + 1 == -1)=false:=by
    have:Lib.index s [34] + 1 ≠ -1:=by omega
    simpa using this
   rw [h1]
   simp only [Bool.false_eq_true,if_false]
   rw [h2]
   simp only [Bool.false_eq_true,if_false]
   have e:(Lib.index s [34] + 1).toNat=(Lib.index s [34]).toNat + 1:=by omega
   rw [e,List.take_succ_cons,show (Lib.index s [34]).toNat + 1 + [(34:UInt8)].length=((Lib.index s [34]).toNat + [(34:UInt8)].length) + 1 from rfl,List.drop_succ_cons]
   rfl
theorem zsy {c:UInt8} (hc:c ≠ 34):∀ (f:Nat) (s:List UInt8),Lib.countFrom [34] f (c :: s)=Lib.countFrom [34] f s
 | 0,s=>rfl
 | f + 1,s=>by
  rw [Lib.countFrom,Lib.countFrom,zqo hc]
  have hge:=Lib.index_ge s [34]
  by_cases h:Lib.index s [34]=-1
  ·rw [h];rfl
  ·have h1:(Lib.index s [34] == -1)=false:=by simpa using h
   have h2:(Lib.index s [34] + 1 == -1)=false:=by
    have:Lib.index s [34] + 1 ≠ -1:=by omega
    simpa using this
   rw [h1]
   simp only [Bool.false_eq_true,if_false]
   rw [h2]
   simp only [Bool.false_eq_true,if_false]
   have e:(Lib.index s [34] + 1).toNat=(Lib.index s [34]).toNat + 1:=by omega
   rw [e,show (Lib.index s [34]).toNat + 1 + [(34:UInt8)].length=((Lib.index s [34]).toNat + [(34:UInt8)].length) + 1 from rfl,List.drop_succ_cons]
theorem zpH:∀ (s:List UInt8) (f:Nat),s.length < f->Lib.replaceK [34] [34,34] (Lib.countFrom [34] f s) s=esc s/\Lib.countFrom [34] f s <= s.length
 | [],f,hf=>by
  obtain ⟨f,rfl⟩:∃ g,f=g + 1:=⟨f - 1,by omega⟩
  exact ⟨rfl,zNl _⟩
 | c :: s,f,hf=>by
  obtain ⟨f,rfl⟩:∃ g,f=g + 1:=⟨f - 1,by omega⟩
  rw [zLc] at hf ⊢
  by_cases hc:c=34
  ·subst hc
   obtain ⟨h1,h2⟩:=zpH s f (by omega)
   have e:Lib.countFrom [34] (f + 1) (34 :: s)=Lib.countFrom [34] f s + 1:=by
    rw [Lib.countFrom,zrF]
    show 1 + Lib.countFrom [34] f s=_
    omega
   rw [e]
   refine ⟨?_,by omega⟩
   rw [Lib.replaceK,zrF]
   show [] ++ [34,34] ++ Lib.replaceK [34] [34,34] (Lib.countFrom [34] f s) s=esc (34 :: s)
   rw [h1];rfl
  ·obtain ⟨h1,h2⟩:=zpH s (f + 1) (by omega)
   rw [zsy hc,zsm hc,h1]
   exact ⟨by show _=if c=34 then _ else _;rw [if_neg hc],by omega⟩
theorem zl6:∀ a:List UInt8,(esc a).length <= 2 * a.length
 | []=>zNl _
 | c :: s=>by
  have:=zl6 s
  show (if c=34 then 34 :: 34 :: esc s else c :: esc s).length <= _
  split <;> simp only [zLc] <;> omega
theorem zu1 (b:List UInt8) (hb:b.length <= 1000000):strings_ReplaceAll ⟨b⟩ ⟨[34]⟩ ⟨[34,34]⟩=some ⟨esc b⟩:=by
 obtain ⟨h1,h2⟩:=zpH b (b.length + 1) (by omega)
 have e:Lib.replaceAll b [34] [34,34]=esc b:=by
  unfold Lib.replaceAll Lib.replace
  rw [if_neg (by decide)]
  unfold Lib.replaceNum
  rw [if_pos (.inl (by decide))]
  exact h1
 have hl:=zl6 b
 unfold strings_ReplaceAll
 have hc:Lib.count b [34] <= b.length:=h2
 rw [e,Nat.ble_eq_true_of_le hb,Nat.ble_eq_true_of_le (show (1:Nat) <= ([34]:List UInt8).length from zNl _),Nat.ble_eq_true_of_le (show b.length + Lib.count b [34] * ([34,34]:List UInt8).length <= 140737488355328 by simp only [zLc,zLn];omega),Nat.ble_eq_true_of_le (show (esc b).length <= 4294967296 by omega)]
 rfl
def leafT (v:Val):List UInt8 :=
 if v.kind=1 then (if v.n=0 then [70,65,76,83,69] else [84,82,85,69])
 else if v.kind=4 then [78,85,76,76]
 else if v.kind=2 then Lib.itoa v.n
 else if v.kind=5 then 39 :: (hexE v.b ++ [39,72])
 else if v.kind=6 then 34 :: (esc v.b ++ [34])
 else []
theorem zj5 {v:Val} (h0:-9223372036854775808 <= v.n) (h1:v.n <= 9223372036854775807) (hb:v.b.length <= 70000):(leafT v).length + 200 <= 150000:=by
 have:=zjZ h0 h1
 have:=ztt v.b
 have:=zl6 v.b
 unfold leafT
 split
 ·split <;> decide
 ·split
  ·decide
  ·split
   ·omega
   ·split
    ·rw [zLc,zLa];simp only [zLc,zLn];omega
    ·split
     ·rw [zLc,zLa];simp only [zLc,zLn];omega
     ·decide
theorem zuW {v:Val} (h0:-9223372036854775808 <= v.n) (h1:v.n <= 9223372036854775807) (hb:v.b.length <= 70000) (hk:v.kind ≠ 3):zga v=some ⟨leafT v⟩:=by
 have hel:=zl6 v.b
 refine T.eqs ?_
 unfold zga leafT
 refine T.br (λh=>?_) λh=>?_
 ·rw [if_pos (zOT h)]
  refine T.br (λh=>?_) λh=>?_
  ·rw [if_neg (show ¬ v.n=0 by simpa using h)];exact T.some rfl
  ·rw [if_pos (show v.n=0 by simpa using h)];exact T.some rfl
 rw [if_neg (zOF h)]
 refine T.br (λh=>?_) λh=>?_
 ·rw [if_pos (zOT h)];exact T.some rfl
 rw [if_neg (zOF h)]
 refine T.br (λh=>?_) λh=>?_
 ·rw [if_pos (zOT h)];exact T.eq (zvX h0 h1) (T.some rfl)
 rw [if_neg (zOF h)]
 refine T.br (λh=>absurd (zOT h) hk) λ_=>T.br (λh=>?_) λh=>?_
 ·rw [if_pos (zOT h)];exact T.eq (zuP v.b (by omega)) (T.some rfl)
 rw [if_neg (zOF h)]
 refine T.br (λh=>?_) λh=>?_
 ·rw [if_pos (zOT h)]
  refine T.eq (zu1 v.b (by omega)) (T.abl ?_ (T.abl ?_ (T.some rfl)))
  ·simp only [zLc,zLn];omega
  ·simp only [zLa,zLc,zLn];omega
 rw [if_neg (zOF h)]
 exact T.some rfl
end Go.Proofs.Q


namespace Go.Proofs.Q
open Go.Sy
set_option linter.unusedVariables false

def joinC:List (List UInt8)->List UInt8
 | []=>[]
 | [p]=>p
 | p :: q :: r=>p ++ 44 :: 32 :: joinC (q :: r)
theorem znW:∀ (ps:List (List UInt8)) (p:List UInt8),joinC (ps ++ [p])=if ps=[] then p else joinC ps ++ 44 :: 32 :: p
 | [],p=>rfl
 | [q],p=>rfl
 | q :: r :: s,p=>by
  rw [if_neg (by simp)]
  have:=znW (r :: s) p
  rw [if_neg (by simp)] at this
  show q ++ 44 :: 32 :: joinC (r :: s ++ [p])=(q ++ 44 :: 32 :: joinC (r :: s)) ++ 44 :: 32 :: p
  rw [this,zLA];rfl
theorem zmy:∀ ps:List (List UInt8),(joinC ps).length <= (ps.map λp=>p.length + 2).sum
 | []=>zNl _
 | [p]=>by simp [joinC]
 | p :: q :: r=>by
  have:=zmy (q :: r)
  show (p ++ 44 :: 32 :: joinC (q :: r)).length <= _
  rw [zLa,zLc,zLc,List.map_cons,List.sum_cons];omega
def brc (ps:List (List UInt8)):List UInt8:=if ps=[] then [123,125] else 123 :: 32 :: (joinC ps ++ [32,125])
theorem zpi (ps:List (List UInt8)):(brc ps).length <= (ps.map λp=>p.length + 2).sum + 4:=by
 have:=zmy ps
 unfold brc
 split
 ·simp only [zLc,zLn];omega
 ·simp only [zLc,zLa,zLn];omega
def itemN (x:GTyp) (n:Int):List UInt8:=match x.items.find? (λit=>decide (it.number=n)) with
 | some it=>it.name.b
 | none=>[]
def parts (f:Int->Val->List UInt8):List GFld->List Val->List (List UInt8)
 | y :: fs,w :: ws=>if w.kind=0 then parts f fs ws else (y.name.b ++ 32 :: f y.ty w) :: parts f fs ws
 | _,_=>[]
theorem zn8 (f:Int->Val->List UInt8) (y:GFld) (w:Val):∀ (fs:List GFld) (ws:List Val),fs.length=ws.length->parts f (fs ++ [y]) (ws ++ [w])=if w.kind=0 then parts f fs ws else parts f fs ws ++ [y.name.b ++ 32 :: f y.ty w]
 | [],[],_=>by
  show (if w.kind=0 then _ else _)=_
  rfl
 | z :: fs,[],h=>by simp at h
 | [],z :: ws,h=>by simp at h
 | z :: fs,u :: ws,h=>by
  have:=zn8 f y w fs ws (by simpa using h)
  show (if u.kind=0 then parts f (fs ++ [y]) (ws ++ [w]) else _ :: parts f (fs ++ [y]) (ws ++ [w]))=if w.kind=0 then (if u.kind=0 then parts f fs ws else _ :: parts f fs ws) else _
  rw [this]
  by_cases hu:u.kind=0
  ·rw [if_pos hu,if_pos hu]
   show _=if w.kind=0 then _ else (if u.kind=0 then parts f fs ws else _) ++ _
   rw [if_pos hu]
  ·rw [if_neg hu,if_neg hu]
   show _=if w.kind=0 then _ else (if u.kind=0 then parts f fs ws else _) ++ _
   rw [if_neg hu]
   split <;> rfl
def txtK (f:Int->Val->List UInt8) (x:GTyp) (v:Val):List UInt8 :=
 if x.kind=3 then itemN x v.n
 else if x.kind=10 then brc (v.l.map (f x.of))
 else if x.kind=9 then (match x.fields[v.n.toNat]?,v.l with
  | some y,w :: _=>y.name.b ++ 32 :: 58 :: 32 :: f y.ty w
  | _,_=>[])
 else if x.kind=7 \/ x.kind=8 then brc (parts f x.fields v.l)
 else leafT v
def txt:Nat->List GTyp->Int->Val->List UInt8
 | 0,_,_,_=>[]
 | h + 1,l,i,v=>match l[i.toNat]? with
  | none=>[]
  | some x=>txtK (txt h l) x v
theorem zug {h:Nat} {l:List GTyp} {i:Int} {x:GTyp} (hx:l[i.toNat]?=some x) (v:Val):txt (h + 1) l i v=txtK (txt h l) x v:=by
 show (match l[i.toNat]? with | none=>_ | some x=>_)=_
 rw [hx]
structure NmB (l:List GTyp):Prop where
 len:l.length <= 1000
 fl:∀ x ∈ l,x.fields.length <= 1000
 il:∀ x ∈ l,x.items.length <= 100000
 fn:∀ x ∈ l,∀ f ∈ x.fields,f.name.b.length <= 90
 inm:∀ x ∈ l,∀ it ∈ x.items,it.name.b.length <= 90
inductive I64V:Val->Prop
 | mk {v:Val}:-9223372036854775808 <= v.n->v.n <= 9223372036854775807->(∀ w ∈ v.l,I64V w)->I64V v
theorem I64V.lo {v:Val} (h:I64V v):-9223372036854775808 <= v.n:=by cases h;assumption
theorem I64V.hi {v:Val} (h:I64V v):v.n <= 9223372036854775807:=by cases h;assumption
theorem I64V.kid {v:Val} (h:I64V v):∀ w ∈ v.l,I64V w:=by cases h;assumption
theorem ziK {v:Val} (h:bare v=true):v.kind ≠ 12/\v.more=[]/\∀ w ∈ v.l,bare w=true:=by
 rw [zkI,zBa] at h
 obtain ⟨h1,h2⟩:=h
 have h1:(decide (v.kind=12) || decide (0 < v.more.length))=false:=by simpa using h1
 rw [Bool.or_eq_false_iff] at h1
 refine ⟨zOF h1.1,?_,λw hw=>?_⟩
 ·have:=zOF h1.2
  exact List.length_eq_zero_iff.1 (by omega)
 ·exact List.all_eq_true.1 h2 _ (List.mem_map.2 ⟨w,hw,rfl⟩)
theorem zoL {v:Val} {n l m:Bool} (h:pln v n false l m=true):v.b=[]:=by
 unfold pln at h
 simp only [zBa] at h
 have h:=h.1.1.2
 rw [Bool.false_or] at h
 have:=zOT h
 exact List.length_eq_zero_iff.1 (by omega)
theorem zoX {x:GTyp} {n:Int} (h:∃ it ∈ x.items,it.number=n):∃ it,x.items.find? (λit=>decide (it.number=n))=some it/\it ∈ x.items/\it.number=n:=by
 obtain ⟨it,h1,h2⟩:=h
 cases hf:x.items.find? (λit=>decide (it.number=n)) with
 | none =>
  have:=List.find?_eq_none.1 hf it h1
  exact absurd (zDT h2) this
 | some y =>
  have h3:=List.find?_some hf
  exact ⟨y,rfl,List.mem_of_find?_eq_some hf,zOT h3⟩
theorem zrM {n:Int} {it:GItem}:∀ {l:List GItem} {k:Nat},l[k]?=some it->it.number=n->(∀ j y,j < k->l[j]?=some y->y.number ≠ n)->l.find? (λit=>decide (it.number=n))=some it
 | [],k,h,_,_=>by simp at h
 | y :: l,0,h,hn,_=>by
  simp at h;subst h
  rw [List.find?_cons,zDT hn]
 | y :: l,k + 1,h,hn,hj=>by
  have h0:=hj 0 y (Nat.succ_pos _) rfl
  rw [List.find?_cons,zDF h0]
  dsimp only
  exact zrM (k:=k) (by simpa using h) hn λj z hjk hz=>hj (j + 1) z (by omega) (by simpa using hz)
theorem zt2 (x:GTyp) (n:Int) (hl:x.items.length <= 1000000) (hi:∃ it ∈ x.items,it.number=n):T (λr=>∃ it,getI x.items r=some it/\x.items.find? (λit=>decide (it.number=n))=some it) (zd1 x n):=by
 obtain ⟨it,h1,h2,h3⟩:=zoX hi
 unfold zd1
 refine T.cal (Q:=λr=>∃ it,getI x.items r=some it/\x.items.find? (λit=>decide (it.number=n))=some it) ?_ λy _ hy=>T.some hy
 unfold za5
 refine T.lp (ι:=Int) (λq=>0 <= q/\q <= (x.items.length:Int)/\∀ (j:Nat) y,(j:Int) < q->x.items[j]?=some y->y.number ≠ n) (λq=>((x.items.length:Int) - q).toNat) ⟨zIl _,by omega,λj y h=>by omega⟩ (by omega) λJ q ⟨q0,q1,q2⟩ hJ=>T.br (λhb=>?_) λhb=>?_
 ·have hb:=zOT hb
  refine T.get q0 hb λy hy=>T.eq (y:=decide (y.number=n)) ?_ (T.br (λh=>T.some ?_) λh=>T.ck (by omega) (hJ _ ⟨by omega,by omega,λj z hj hz=>?_⟩ (by omega)))
  ·unfold zfJ
   rfl
  ·refine ⟨y,by rw [zcQ q0 hb];exact congrArg some (List.getElem?_eq_some_iff.1 hy).2,zrM hy (zOT h) λj z hj hz=>q2 j z (by omega) hz⟩
  ·rcases Int.lt_or_le (j:Int) q with h5 | h5
   ·exact q2 j z h5 hz
   ·have:j=q.toNat:=by omega
    subst this
    rw [hy] at hz;cases hz
    exact zOF h
 ·have hb:=zOF hb
  obtain ⟨k,hk,e⟩:=List.mem_iff_getElem.1 h2
  exact absurd h3 (q2 k it (by omega) (by rw [List.getElem?_eq_getElem hk,e]))

/-! ### How long it is -/
theorem zrm {α:Type} {f g:α->Nat}:∀ {l:List α},(∀ x ∈ l,f x <= g x)->(l.map f).sum <= (l.map g).sum
 | [],_=>zNl _
 | x :: l,h=>by
  have:=zrm (f:=f) (g:=g) (l:=l) λy hy=>h y (zMm _ hy)
  have:=h x zMs
  simp only [List.map_cons,List.sum_cons];omega
theorem zps {α:Type} {f:α->Nat} {c:Nat}:∀ {l:List α},(l.map λx=>c * f x).sum=c * (l.map f).sum
 | []=>by simp
 | x :: l=>by
  have:=zps (f:=f) (c:=c) (l:=l)
  simp only [List.map_cons,List.sum_cons]
  rw [this,Nat.mul_add]
theorem zmD {f:Int->Val->List UInt8}:∀ {fs:List GFld} {ws:List Val},(∀ y ∈ fs,y.name.b.length <= 90)->fs.length=ws.length->(∀ (k:Nat) y w,fs[k]?=some y->ws[k]?=some w->w.kind ≠ 0->(f y.ty w).length + 200 <= 150000 * cnt w)->((parts f fs ws).map λp=>p.length + 2).sum <= 150000 * (ws.map cnt).sum
 | [],[],_,_,_=>zNz _
 | z :: fs,[],_,h,_=>by simp at h
 | [],z :: ws,_,h,_=>by simp at h
 | z :: fs,u :: ws,hn,h,hk=>by
  have ih:=zmD (f:=f) (fs:=fs) (ws:=ws) (λy hy=>hn y (zMm _ hy)) (by simpa using h) λk y w h1 h2=>hk (k + 1) y w (by simpa using h1) (by simpa using h2)
  rw [List.map_cons,List.sum_cons,Nat.mul_add]
  show ((if u.kind=0 then parts f fs ws else (z.name.b ++ 32 :: f z.ty u) :: parts f fs ws).map λp=>p.length + 2).sum <= _
  split
  ·omega
  ·rename_i hu
   have:=hk 0 z u rfl rfl hu
   have:=hn z zMs
   rw [List.map_cons,List.sum_cons]
   simp only [zLa,zLc]
   omega
theorem znb {t:GTab} (hB:NmB t.types):∀ {h:Nat} {i:Int} {v:Val},Fit t h i v->bare v=true->I64V v->(txt h t.types i v).length + 200 <= 150000 * cnt v:=by
 intro h
 induction h with
 | zero=>intro i v hf;exact hf.elim
 | succ h ih =>
  intro i v hf hb hI
  obtain ⟨i0,x,hx,hfk⟩:=hf
  obtain ⟨k12,hm,hkb⟩:=ziK hb
  obtain ⟨hkk,hfk⟩:=hfk.resolve_left k12
  have hxm:=List.mem_of_getElem? hx
  have hcp:=zfz v
  have hcq:=zhm v
  rw [zug hx]
  unfold txtK
  rcases hfk with ⟨k,h1,h2⟩ | ⟨k,h1,h2⟩ | ⟨k,h1,h2⟩ | ⟨k,h1⟩ | ⟨k,h1,h2,h3,h4⟩ | ⟨k,h1,h2,h3⟩ | ⟨k,h1,h2,f,w,h3,h4,h5⟩ | ⟨k,h1,h2,h3,h4,h5⟩
  ·rw [if_neg (by omega),if_neg (by omega),if_neg (by omega),if_neg (by omega)]
   have:=zj5 hI.lo hI.hi (by rw [zoL h1];decide)
   omega
  ·rw [if_neg (by omega),if_neg (by omega),if_neg (by omega),if_neg (by omega)]
   have:=zj5 hI.lo hI.hi (by rw [zoL h1];decide)
   omega
  ·rw [if_pos k]
   obtain ⟨it,e1,e2,e3⟩:=zoX h2
   unfold itemN
   rw [e1]
   have:=hB.inm x hxm it e2
   dsimp only
   omega
  ·rw [if_neg (by omega),if_neg (by omega),if_neg (by omega),if_neg (by omega)]
   have:=zj5 hI.lo hI.hi (by rw [zoL h1];decide)
   omega
  ·rw [if_neg (by omega),if_neg (by omega),if_neg (by omega),if_neg (by omega)]
   have:=zj5 hI.lo hI.hi (by omega)
   omega
  ·rw [if_neg (by omega),if_pos k]
   have h6:=zpi (v.l.map (txt h t.types x.of))
   have h7:((v.l.map (txt h t.types x.of)).map λp=>p.length + 2).sum <= (v.l.map λw=>150000 * cnt w).sum:=by
    rw [List.map_map]
    exact zrm λw hw=>by
     have:=ih (h3 w hw) (hkb w hw) (hI.kid w hw)
     show (txt h t.types x.of w).length + 2 <= _
     omega
   rw [zps] at h7
   rw [hcq,Nat.mul_add];omega
  ·rw [if_neg (by omega),if_neg (by omega),if_pos k,h3,h4]
   dsimp only
   have hw:w ∈ v.l:=by rw [h4];exact zMo.2 rfl
   have:=ih h5 (hkb w hw) (hI.kid w hw)
   have:=hB.fn x hxm f (List.mem_of_getElem? h3)
   have hc:cnt w + 1 <= cnt v:=zeq hw
   simp only [zLa,zLc]
   omega
  ·rw [if_neg (by omega),if_neg (by omega),if_neg (by omega),if_pos k]
   have h6:=zpi (parts (txt h t.types) x.fields v.l)
   have h7:=zmD (f:=txt h t.types) (hB.fn x hxm) h3.symm λj y w h8 h9 h10=>by
    rcases h4 j y w h8 h9 with ⟨z,_⟩ | ⟨_,z,_⟩
    ·exact absurd z h10
    ·exact ih z (hkb w (List.mem_of_getElem? h9)) (hI.kid w (List.mem_of_getElem? h9))
   rw [hcq,Nat.mul_add];omega

/-! ### The code prints it -/
theorem zoz (n:Nat):zbB (n + 1)=zdx (zce n) (zbB n) (zcA n) (zbG n) (zcd n):=rfl
theorem zrg (n:Nat):zce (n + 1)=zcP (zce n) (zbB n) (zcA n) (zbG n) (zcd n):=rfl
theorem znG (n:Nat):zcd (n + 1)=zcg (zce n) (zbB n) (zcA n) (zbG n) (zcd n):=rfl
theorem zsq (n:Nat):zcA (n + 1)=zde (zce n) (zbB n) (zcA n) (zbG n) (zcd n):=rfl
theorem zq3 (n:Nat):zbG (n + 1)=zcO (zce n) (zbB n) (zcA n) (zbG n) (zcd n):=rfl
def zdq (ps:List (List UInt8)):List UInt8:=if ps=[] then [] else 123 :: 32 :: joinC ps
theorem zoY (ps:List (List UInt8)) (p:List UInt8):zdq (ps ++ [p])=(if ps=[] then [123,32] else zdq ps ++ [44,32]) ++ p:=by
 unfold zdq
 rw [if_neg (by simp),znW]
 by_cases h:ps=[]
 ·rw [if_pos h,if_pos h];rfl
 ·rw [if_neg h,if_neg h,if_neg h]
  show 123 :: 32 :: (joinC ps ++ 44 :: 32 :: p)=(123 :: 32 :: joinC ps ++ [44,32]) ++ p
  simp
theorem zqF (ps:List (List UInt8)):brc ps=if ps=[] then [123,125] else zdq ps ++ [32,125]:=by
 unfold brc zdq
 split
 ·rfl
 ·simp
theorem zqu (ps:List (List UInt8)):(zdq ps).length <= (ps.map λp=>p.length + 2).sum + 2:=by
 have:=zmy ps
 unfold zdq
 split
 ·exact zNz _
 ·simp only [zLc];omega
theorem prP {t:GTab} (hB:NmB t.types):∀ {h n:Nat} {i:Int} {v:Val} {b:List UInt8},3 * h + 3 <= n->Fit t h i v->bare v=true->I64V v->Fine v->cnt v <= 100000->b.length + 150000 * cnt v <= 60000000000->zbB n ⟨t,b⟩ i v=some ⟨t,b ++ txt h t.types i v⟩:=by
 intro h
 induction h with
 | zero=>intro n i v b _ hf;exact hf.elim
 | succ h ih =>
  intro n i v b hn hf hb hI hF hC hL
  have hlen:=znb hB hf hb hI
  obtain ⟨n,rfl⟩:∃ n',n=n' + 3:=⟨n - 3,by omega⟩
  obtain ⟨i0,x,hx,hfk⟩:=hf
  obtain ⟨k12,hm,hkb⟩:=ziK hb
  obtain ⟨hkk,hfk⟩:=hfk.resolve_left k12
  have hxm:=List.mem_of_getElem? hx
  have hlt:=(List.getElem?_eq_some_iff.1 hx).1
  have hfl:=hB.fl x hxm
  have hil:=hB.il x hxm
  have hvl:=hF.l
  have hcl:=zu3 v
  have eg:getI t.types i=some x:=by rw [zcQ i0 (by omega)];exact congrArg some (List.getElem?_eq_some_iff.1 hx).2
  rw [zug hx] at hlen ⊢
  refine T.eqs ?_
  rw [zoz]
  unfold zdx
  refine T.eq eg ?_
  unfold txtK at hlen ⊢
  have leaf:(x.kind=1 \/ x.kind=2 \/ x.kind=4 \/ x.kind=5 \/ x.kind=6)->v.b.length <= 70000->T (λr=>r=⟨t,b ++ leafT v⟩) (jp (ι:=Bool) (λJ20=>br (decide (x.kind=(7:Int))) (J20 ((decide (x.kind=(7:Int))))) (J20 ((decide (x.kind=(8:Int)))))) (λq19=>br q19 (cal (zbG (n + 2) ⟨t,b⟩ (v.l.length:Int) v x) λy21=>some (y21)) (cal (zga v) λy23=>cal (zaG ⟨t,b⟩ ([y23]:(List Str))) λy25=>some (y25)))):=λhk hbl=>by
   have hll:=zj5 hI.lo hI.hi hbl
   refine T.jp (λq=>q=false) (λJ k=>T.br (λh=>absurd (zOT h) (by omega)) λ_=>k _ (zDF (by omega))) λq hq=>?_
   subst hq
   refine T.br (λh=>by cases h) λ_=>T.eq (zuW hI.lo hI.hi hbl (by omega)) (T.eq (put1 _ _ ?_) (T.some rfl))
   have:=zfz v
   dsimp only
   omega
  rcases hfk with ⟨k,h1,h2⟩ | ⟨k,h1,h2⟩ | ⟨k,h1,h2⟩ | ⟨k,h1⟩ | ⟨k,h1,h2,h3,h4⟩ | ⟨k,h1,h2,h3⟩ | ⟨k,h1,h2,f,w,h3,h4,h5⟩ | ⟨k,h1,h2,h3,h4,h5⟩
  ·rw [if_neg (by omega),if_neg (by omega),if_neg (by omega),if_neg (by omega)]
   exact T.br (λh=>absurd (zOT h) (by omega)) λ_=>T.br (λh=>absurd (zOT h) (by omega)) λ_=>T.br (λh=>absurd (zOT h) (by omega)) λ_=>leaf (.inl k) (by rw [zoL h1];decide)
  ·rw [if_neg (by omega),if_neg (by omega),if_neg (by omega),if_neg (by omega)]
   exact T.br (λh=>absurd (zOT h) (by omega)) λ_=>T.br (λh=>absurd (zOT h) (by omega)) λ_=>T.br (λh=>absurd (zOT h) (by omega)) λ_=>leaf (.inr (.inl k)) (by rw [zoL h1];decide)
  ·rw [if_pos k]
   rw [if_pos k] at hlen
   refine T.br (λ_=>T.cal (zt2 x v.n (by omega) h2) λr _ ⟨it,z1,z2⟩=>T.eq z1 (T.eq (put1 _ _ ?_) (T.some ?_))) λh=>absurd k (zOF h)
   ·unfold itemN at hlen
    rw [z2] at hlen
    dsimp only at hlen ⊢
    omega
   ·unfold itemN;rw [z2]
  ·rw [if_neg (by omega),if_neg (by omega),if_neg (by omega),if_neg (by omega)]
   exact T.br (λh=>absurd (zOT h) (by omega)) λ_=>T.br (λh=>absurd (zOT h) (by omega)) λ_=>T.br (λh=>absurd (zOT h) (by omega)) λ_=>leaf (.inr (.inr (.inl k))) (by rw [zoL h1];decide)
  ·rw [if_neg (by omega),if_neg (by omega),if_neg (by omega),if_neg (by omega)]
   exact T.br (λh=>absurd (zOT h) (by omega)) λ_=>T.br (λh=>absurd (zOT h) (by omega)) λ_=>T.br (λh=>absurd (zOT h) (by omega)) λ_=>leaf (by omega) (by omega)
  ·rw [if_neg (by omega),if_pos k]
   rw [if_neg (by omega),if_pos k] at hlen
   refine T.br (λh=>absurd (zOT h) (by omega)) λ_=>T.br (λ_=>?_) λh=>absurd k (zOF h)
   refine T.eq (y:=⟨t,b ++ brc (v.l.map (txt h t.types x.of))⟩) ?_ (T.some rfl)
   refine T.eqs ?_
   rw [zsq]
   unfold zde
   have hsum:∀ j:Nat,(((v.l.take j).map (txt h t.types x.of)).map λp=>p.length + 2).sum <= 150000 * ((v.l.take j).map cnt).sum:=λj=>by
    rw [<- zps,List.map_map]
    exact zrm λw hw=>by
     have hw:=List.mem_of_mem_take hw
     have:=znb hB (h3 w hw) (hkb w hw) (hI.kid w hw)
     show (txt h t.types x.of w).length + 2 <= _
     omega
   have hcv:=zhm v
   have htake:∀ j:Nat,((v.l.take j).map cnt).sum <= (v.l.map cnt).sum:=λj=>by
    have:=congrArg (λl=>(l.map cnt).sum) (List.take_append_drop j v.l)
    simp only [List.map_append,List.sum_append] at this
    omega
   refine T.lp (ι:=Bool × Int × GNpr) (λq=>∃ j:Int,0 <= j/\j <= (v.l.length:Int)/\q=(decide ((v.l.take j.toNat)=[]),j,⟨t,b ++ zdq ((v.l.take j.toNat).map (txt h t.types x.of))⟩)) (λq=>((v.l.length:Int) - q.2.1).toNat) ⟨0,zIl _,by omega,by simp [zdq]⟩ (by dsimp only;omega) λJ q ⟨j,q0,q1,eq⟩ hJ=>?_
   subst eq
   dsimp only at hJ ⊢
   have hol:=zqu ((v.l.take j.toNat).map (txt h t.types x.of))
   have hs:=hsum j.toNat
   have ht:=htake j.toNat
   rw [hcv,Nat.mul_add] at hL
   refine T.br (λhj=>?_) λhj=>?_
   ·have hj:=zOT hj
    obtain ⟨w,hw⟩:∃ w,v.l[j.toNat]?=some w:=⟨_,List.getElem?_eq_getElem (by omega)⟩
    have hwm:=List.mem_of_getElem? hw
    have hwc:cnt w <= (v.l.map cnt).sum:=zm7 (f:=cnt) hwm
    have egw:getI v.l j=some w:=by rw [zcQ q0 hj];exact congrArg some (List.getElem?_eq_some_iff.1 hw).2
    have etk:v.l.take (j + 1).toNat=v.l.take j.toNat ++ [w]:=by
     rw [show (j + 1).toNat=j.toNat + 1 by omega,List.take_add_one,hw];rfl
    have hcs:((v.l.take j.toNat).map cnt).sum + cnt w <= (v.l.map cnt).sum:=by
     have:=htake (j + 1).toNat
     rw [etk] at this
     simpa using this
    refine T.jp (λq=>q=(false,⟨t,b ++ zdq ((v.l.take (j + 1).toNat).map (txt h t.types x.of))⟩)) (λJ19 k19=>?_) λq hq=>?_
    ·refine T.jp (λg=>g=(⟨t,(b ++ (if v.l.take j.toNat=[] then [123,32] else zdq ((v.l.take j.toNat).map (txt h t.types x.of)) ++ [44,32]))⟩:GNpr)) (λJ21 k21=>T.br (λhe=>?_) λhe=>?_) λg hg=>?_
     ·have he:=zOT he
      refine T.eq (put1 _ _ (by dsimp only;rw [zLa];simp only [zLc,zLn];omega)) (k21 _ ?_)
      rw [if_pos he,he]
      simp [zdq]
     ·have he:=zOF he
      refine T.eq (put1 _ _ (by dsimp only;rw [zLa];simp only [zLc,zLn];omega)) (k21 _ ?_)
      rw [if_neg he]
      simp
     ·subst hg
      refine T.eq (y:=(true,⟨t,b ++ zdq ((v.l.take (j + 1).toNat).map (txt h t.types x.of))⟩)) ?_ (T.br (λ_=>k19 _ rfl) λh=>by cases h)
      refine T.eqs ?_
      rw [zrg]
      unfold zcP
      have hpre:(if v.l.take j.toNat=[] then ([123,32]:List UInt8) else zdq ((v.l.take j.toNat).map (txt h t.types x.of)) ++ [44,32]).length <= (zdq ((v.l.take j.toNat).map (txt h t.types x.of))).length + 2:=by
       split
       ·simp
       ·simp
      refine T.eq egw (T.eq (ih (by omega) (h3 w hwm) (hkb w hwm) (hI.kid w hwm) (hF.kid w hwm) (by have:=zeq hwm;omega) (by rw [zLa];omega)) (T.some ?_))
      have hif:(if (v.l.take j.toNat).map (txt h t.types x.of)=[] then ([123,32]:List UInt8) else zdq ((v.l.take j.toNat).map (txt h t.types x.of)) ++ [44,32])=if v.l.take j.toNat=[] then [123,32] else zdq ((v.l.take j.toNat).map (txt h t.types x.of)) ++ [44,32]:=by
       by_cases he:v.l.take j.toNat=[]
       ·rw [if_pos he,if_pos (by rw [he];rfl)]
       ·rw [if_neg he,if_neg (by simpa using he)]
      rw [etk,List.map_append,List.map_singleton,zoY,hif,zLA]
    ·subst hq
     refine T.ck (by omega) (hJ _ ⟨j + 1,by omega,by omega,?_⟩ (by dsimp only;omega))
     rw [zDF (show ¬ v.l.take (j + 1).toNat=[] by rw [etk];simp)]
   ·have hj:=zOF hj
    have et:v.l.take j.toNat=v.l:=zTl (by omega)
    rw [et] at hol hs ⊢
    rw [zqF]
    refine T.br (λhe=>?_) λhe=>?_
    ·have he:=zOT he
     rw [he]
     refine T.eq (put1 _ _ (by simp [zdq];omega)) (T.some ?_)
     simp [zdq]
    ·have he:=zOF he
     rw [if_neg (by simpa using he)]
     refine T.eq (put1 _ _ (by dsimp only;rw [zLa];simp only [zLc,zLn];omega)) (T.some ?_)
     rw [zLA]
  ·rw [if_neg (by omega),if_neg (by omega),if_pos k,h3,h4]
   dsimp only
   have hw:w ∈ v.l:=by rw [h4];exact zMo.2 rfl
   have hwl:=znb hB h5 (hkb w hw) (hI.kid w hw)
   have hnm:=hB.fn x hxm f (List.mem_of_getElem? h3)
   have hc:cnt w + 1 <= cnt v:=zeq hw
   have hlt2:=(List.getElem?_eq_some_iff.1 h3).1
   refine T.br (λh=>absurd (zOT h) (by omega)) λ_=>T.br (λh=>absurd (zOT h) (by omega)) λ_=>T.br (λ_=>?_) λh=>absurd k (zOF h)
   refine T.eq (y:=f) (by rw [zcQ h2 (by omega)];exact congrArg some (List.getElem?_eq_some_iff.1 h3).2) (T.eq (put2 _ _ _ (by simp only [zLc,zLn];omega)) (T.eq (y:=w) (by first | rfl | (rw [h4];rfl)) ?_))
   refine T.eq (ih (by omega) h5 (hkb w hw) (hI.kid w hw) (hF.kid w hw) (by omega) (by dsimp only;simp only [zLa,zLc,zLn];omega)) (T.some ?_)
   simp
  ·rw [if_neg (by omega),if_neg (by omega),if_neg (by omega),if_pos k]
   rw [if_neg (by omega),if_neg (by omega),if_neg (by omega),if_pos k] at hlen
   refine T.br (λh=>absurd (zOT h) (by omega)) λ_=>T.br (λh=>absurd (zOT h) (by omega)) λ_=>T.br (λh=>absurd (zOT h) (by omega)) λ_=>?_
   refine T.jp (λb=>b=true) (λJ2 k2=>T.br (λh=>k2 _ h) λh=>k2 _ (zDT (k.resolve_left (zOF h)))) λb78 hb78=>?_
   subst hb78
   refine T.br (λ_=>?_) λh=>by cases h
   refine T.eq (y:=⟨t,b ++ brc (parts (txt h t.types) x.fields v.l)⟩) ?_ (T.some rfl)
   refine T.eqs ?_
   rw [zq3]
   unfold zcO
   have hcv:=zhm v
   have htake:∀ j:Nat,((v.l.take j).map cnt).sum <= (v.l.map cnt).sum:=λj=>by
    have:=congrArg (λl=>(l.map cnt).sum) (List.take_append_drop j v.l)
    simp only [List.map_append,List.sum_append] at this
    omega
   have hpart:∀ j:Nat,((parts (txt h t.types) (x.fields.take j) (v.l.take j)).map λp=>p.length + 2).sum <= 150000 * ((v.l.take j).map cnt).sum:=λj =>
    zmD (f:=txt h t.types) (λy hy=>hB.fn x hxm y (List.mem_of_mem_take hy)) (by rw [zLt,zLt,h3]) λm y w h8 h9 h10=>by
     have e8:x.fields[m]?=some y:=by
      rw [List.getElem?_take] at h8
      split at h8
      ·exact h8
      ·cases h8
     have e9:v.l[m]?=some w:=by
      rw [List.getElem?_take] at h9
      split at h9
      ·exact h9
      ·cases h9
     rcases h4 m y w e8 e9 with ⟨z,_⟩ | ⟨_,z,_⟩
     ·exact absurd z h10
     ·exact znb hB z (hkb w (List.mem_of_getElem? e9)) (hI.kid w (List.mem_of_getElem? e9))
   refine T.lp (ι:=Bool × Int × GNpr) (λq=>∃ j:Int,0 <= j/\j <= (v.l.length:Int)/\q=(decide (parts (txt h t.types) (x.fields.take j.toNat) (v.l.take j.toNat)=[]),j,⟨t,b ++ zdq (parts (txt h t.types) (x.fields.take j.toNat) (v.l.take j.toNat))⟩)) (λq=>((v.l.length:Int) - q.2.1).toNat) ⟨0,zIl _,by omega,by simp [zdq,parts]⟩ (by dsimp only;omega) λJ q ⟨j,q0,q1,eq⟩ hJ=>?_
   subst eq
   dsimp only at hJ ⊢
   have hol:=zqu (parts (txt h t.types) (x.fields.take j.toNat) (v.l.take j.toNat))
   have hs:=hpart j.toNat
   have htj:=htake j.toNat
   rw [hcv,Nat.mul_add] at hL
   refine T.br (λhj=>?_) λhj=>?_
   ·have hj:=zOT hj
    obtain ⟨w,hw⟩:∃ w,v.l[j.toNat]?=some w:=⟨_,List.getElem?_eq_getElem (by omega)⟩
    obtain ⟨y,hy⟩:∃ y,x.fields[j.toNat]?=some y:=⟨_,List.getElem?_eq_getElem (by omega)⟩
    have hwm:=List.mem_of_getElem? hw
    have hwc:cnt w <= (v.l.map cnt).sum:=zm7 (f:=cnt) hwm
    have egw:getI v.l j=some w:=by rw [zcQ q0 hj];exact congrArg some (List.getElem?_eq_some_iff.1 hw).2
    have egy:getI x.fields j=some y:=by rw [zcQ q0 (by omega)];exact congrArg some (List.getElem?_eq_some_iff.1 hy).2
    have hyn:=hB.fn x hxm y (List.mem_of_getElem? hy)
    have ej:(j + 1).toNat=j.toNat + 1:=by omega
    have etk:v.l.take (j + 1).toNat=v.l.take j.toNat ++ [w]:=by rw [ej,List.take_add_one,hw];rfl
    have etf:x.fields.take (j + 1).toNat=x.fields.take j.toNat ++ [y]:=by rw [ej,List.take_add_one,hy];rfl
    have hcs:((v.l.take j.toNat).map cnt).sum + cnt w <= (v.l.map cnt).sum:=by
     have:=htake (j + 1).toNat
     rw [etk] at this
     simpa using this
    have hsn:=zn8 (txt h t.types) y w (x.fields.take j.toNat) (v.l.take j.toNat) (by rw [zLt,zLt,h3])
    rw [<- etk,<- etf] at hsn
    generalize parts (txt h t.types) (x.fields.take j.toNat) (v.l.take j.toNat)=ps at hsn hol hs ⊢
    refine T.jp (λq=>q=(decide (parts (txt h t.types) (x.fields.take (j + 1).toNat) (v.l.take (j + 1).toNat)=[]),⟨t,b ++ zdq (parts (txt h t.types) (x.fields.take (j + 1).toNat) (v.l.take (j + 1).toNat))⟩)) (λJ19 k19=>?_) λq hq=>?_
    ·refine T.jp (λg=>g=(⟨t,(b ++ (if ps=[] then [123,32] else zdq ps ++ [44,32]))⟩:GNpr)) (λJ21 k21=>T.br (λhe=>?_) λhe=>?_) λg hg=>?_
     ·have he:=zOT he
      refine T.eq (put1 _ _ (by dsimp only;rw [zLa];simp only [zLc,zLn];omega)) (k21 _ ?_)
      rw [if_pos he,he]
      simp [zdq]
     ·have he:=zOF he
      refine T.eq (put1 _ _ (by dsimp only;rw [zLa];simp only [zLc,zLn];omega)) (k21 _ ?_)
      rw [if_neg he]
      simp
     ·subst hg
      have hpre:(if ps=[] then ([123,32]:List UInt8) else zdq ps ++ [44,32]).length <= (zdq ps).length + 2:=by
       split
       ·simp
       ·simp
      rcases h4 j.toNat y w hy hw with ⟨z1,z2,_⟩ | ⟨z1,z2,_⟩
      ·rw [if_pos z1] at hsn
       refine T.eq (y:=(false,(⟨t,(b ++ (if ps=[] then [123,32] else zdq ps ++ [44,32]))⟩:GNpr))) ?_ (T.br (λh=>by cases h) λ_=>T.asd ?_ (k19 _ ?_))
       ·refine T.eqs ?_
        rw [znG]
        unfold zcg
        refine T.eq egw (T.eq (zhC w) (T.br (λ_=>T.some rfl) λh=>?_))
        rw [zl9.2 z2] at h
        cases h
       ·dsimp only
        simp only [zLa]
        have:(zdq ps).length <= (if ps=[] then ([123,32]:List UInt8) else zdq ps ++ [44,32]).length:=by
         split
         ·rename_i he;rw [he];simp [zdq]
         ·simp
        omega
       ·rw [hsn]
        congr 2
        rw [Int.toNat_natCast,zLa]
        by_cases he:ps=[]
        ·rw [if_pos he,he]
         simp [zdq]
        ·rw [if_neg he,<- zLA]
         show List.take (b.length + (zdq ps).length) (b ++ zdq ps ++ [44,32])=_
         rw [<- zLa,List.take_left]
      ·rw [if_neg z1] at hsn
       refine T.eq (y:=(true,⟨t,b ++ zdq (parts (txt h t.types) (x.fields.take (j + 1).toNat) (v.l.take (j + 1).toNat))⟩)) ?_ (T.br (λ_=>k19 _ ?_) λh=>by cases h)
       ·refine T.eqs ?_
        rw [znG]
        unfold zcg
        refine T.eq egw (T.eq (zhC w) (T.br (λh=>?_) λ_=>?_))
        ·rw [zDF z1] at h;cases h
        refine T.eq egy (T.eq (put2 _ _ _ (by dsimp only;simp only [zLa,zLc,zLn];omega)) (T.eq egy (T.eq egw (T.eq (ih (by omega) z2 (hkb w hwm) (hI.kid w hwm) (hF.kid w hwm) (by have:=zeq hwm;omega) (by dsimp only;simp only [zLa,zLc,zLn];omega)) (T.some ?_)))))
        rw [hsn,zoY]
        congr 2
        simp only [zLA]
        rfl
       ·rw [hsn,zDF (by simp)]
    ·subst hq
     exact T.ck (by omega) (hJ _ ⟨j + 1,by omega,by omega,rfl⟩ (by dsimp only;omega))
   ·have hj:=zOF hj
    have et:v.l.take j.toNat=v.l:=zTl (by omega)
    have et2:x.fields.take j.toNat=x.fields:=zTl (by omega)
    rw [et,et2] at hol
    rw [et] at hs
    rw [et2] at hs
    rw [et,et2,zqF]
    refine T.br (λhe=>?_) λhe=>?_
    ·have he:=zOT he
     rw [he]
     refine T.eq (put1 _ _ (by simp [zdq];omega)) (T.some ?_)
     simp [zdq]
    ·have he:=zOF he
     rw [if_neg he]
     refine T.eq (put1 _ _ (by dsimp only;rw [zLa];simp only [zLc,zLn];omega)) (T.some ?_)
     rw [zLA]
end Go.Proofs.Q


namespace Go.Proofs.Q
open Go.Sy
set_option linter.unusedVariables false

theorem zgr {a b m:UInt64} (h:(a ||| b) &&& m=0):a &&& m=0/\b &&& m=0:=by
 have h1:=congrArg UInt64.toNat h
 rw [UInt64.toNat_and,UInt64.toNat_or] at h1
 have h2:=(Lib.or_mask a.toNat b.toNat m.toNat).1 h1
 refine ⟨UInt64.toNat_inj.1 ?_,UInt64.toNat_inj.1 ?_⟩
 ·rw [UInt64.toNat_and];exact h2.1
 ·rw [UInt64.toNat_and];exact h2.2
theorem byte0:∀ X:Fin 256,((UInt8.ofNat X.val).toUInt64 &&& 9259542123273814144)=0->X.val < 128:=by decide +kernel
theorem byteK:∀ k ∈ [8,16,24,32,40,48,56],∀ X:Fin 256,(shl64 (UInt8.ofNat X.val).toUInt64 k &&& 9259542123273814144)=0->X.val < 128:=by decide +kernel
theorem byte0' {y:UInt8} (h:(y.toUInt64 &&& 9259542123273814144)=0):y.toNat < 128:=by
 have:=byte0 ⟨y.toNat,y.toNat_lt⟩
 rw [UInt8.ofNat_toNat] at this
 exact this h
theorem byteK' {y:UInt8} {k:Nat} (hk:k ∈ [8,16,24,32,40,48,56]) (h:(shl64 y.toUInt64 k &&& 9259542123273814144)=0):y.toNat < 128:=by
 have:=byteK k hk ⟨y.toNat,y.toNat_lt⟩
 rw [UInt8.ofNat_toNat] at this
 exact this h
def Asc8 (l:List UInt8) (k:Nat):Prop:=∀ b ∈ l.take k,b.toNat < 128
theorem Asc8.add {l:List UInt8} {a c:Nat} (h1:Asc8 l a) (h2:Asc8 (l.drop a) c):Asc8 l (a + c):=λb hb=>by
 rw [List.take_add] at hb
 rcases List.mem_append.1 hb with hb | hb
 ·exact h1 b hb
 ·exact h2 b hb
theorem zlp (l:List UInt8) (h:8 <= l.length):T (λ(w:UInt64)=>w &&& 9259542123273814144=0->Asc8 l 8) (zbr l):=by
 unfold zbr
 refine T.get (by omega) (by omega) λy1 h1=>T.get (by omega) (by omega) λy2 h2=>T.abl (by decide) (T.get (by omega) (by omega) λy3 h3=>T.abl (by decide) (T.get (by omega) (by omega) λy4 h4=>T.abl (by decide) (T.get (by omega) (by omega) λy5 h5=>T.abl (by decide) (T.get (by omega) (by omega) λy6 h6=>T.abl (by decide) (T.get (by omega) (by omega) λy7 h7=>T.abl (by decide) (T.get (by omega) (by omega) λy8 h8=>T.abl (by decide) (T.some ?_)))))))
 intro hm b hb
 obtain ⟨hm,k8⟩:=zgr hm
 obtain ⟨hm,k7⟩:=zgr hm
 obtain ⟨hm,k6⟩:=zgr hm
 obtain ⟨hm,k5⟩:=zgr hm
 obtain ⟨hm,k4⟩:=zgr hm
 obtain ⟨hm,k3⟩:=zgr hm
 obtain ⟨k1,k2⟩:=zgr hm
 have z1:=byte0' k1
 have z2:=byteK' (k:=8) (by decide) k2
 have z3:=byteK' (k:=16) (by decide) k3
 have z4:=byteK' (k:=24) (by decide) k4
 have z5:=byteK' (k:=32) (by decide) k5
 have z6:=byteK' (k:=40) (by decide) k6
 have z7:=byteK' (k:=48) (by decide) k7
 have z8:=byteK' (k:=56) (by decide) k8
 obtain ⟨i,hi⟩:=List.mem_iff_getElem?.1 hb
 rw [List.getElem?_take] at hi
 have g:∀ y:UInt8,l[i]?=some y->y.toNat < 128->i < 8->b.toNat < 128:=λy e h9 hi8=>by
  rw [if_pos hi8,e] at hi;cases hi;exact h9
 match i,hi,g with
 | 0,hi,g=>exact g _ h1 z1 (by omega)
 | 1,hi,g=>exact g _ h2 z2 (by omega)
 | 2,hi,g=>exact g _ h3 z3 (by omega)
 | 3,hi,g=>exact g _ h4 z4 (by omega)
 | 4,hi,g=>exact g _ h5 z5 (by omega)
 | 5,hi,g=>exact g _ h6 z6 (by omega)
 | 6,hi,g=>exact g _ h7 z7 (by omega)
 | 7,hi,g=>exact g _ h8 z8 (by omega)
 | n + 8,hi,g=>rw [if_neg (by omega)] at hi;cases hi

theorem vstage {β:Type} {R':β->Prop} {q:List UInt8} {i:Int} {Pp:Prop} {R:Nat->Prop} {c:Bool} (hc:c=true ↔ Pp) (hi:0 <= i) (hn:¬ Pp->i < q.length) {K:Bool->Option β} {f:UInt8->Bool}
    (hf:∀ y:UInt8,f y=true ↔ R y.toNat) (k:∀ c':Bool,(c'=true ↔ Pp \/ R (q.getD i.toNat 0).toNat)->T R' (K c')):T R' (jp (ι:=Bool) (λJ=>br c (J true) (cal (getI q i) λy=>J (f y))) K):=by
  refine T.jp0 ?_
  refine T.br (λh=>k _ ⟨λ_=>.inl (hc.1 h),λ_=>rfl⟩) λh=>?_
  have hp:¬ Pp:=λe=>by rw [hc.2 e] at h;cases h
  refine T.get hi (hn hp) λy hy=>k _ ?_
  have e:q.getD i.toNat 0=y:=by rw [List.getD_eq_getElem?_getD,hy];rfl
  rw [e,hf]
  exact ⟨.inr,λh=>h.resolve_left hp⟩
theorem takeL (l:List UInt8):l.take ((l.length:Int)).toNat=l:=by rw [Int.toNat_natCast,List.take_length]
theorem f7 (y:UInt8):((tab1 y) &&& (7:UInt8)).toNat=Lib.firstT y.toNat % 8:=by
 rw [UInt8.toNat_and,zoa];exact Nat.and_two_pow_sub_one_eq_mod _ 3
theorem f16 (y:UInt8):(shr8 (tab1 y) (4:UInt64).toNat).toNat=Lib.firstT y.toNat / 16:=by
 have h:∀ X:Fin 256,(shr8 (UInt8.ofNat X.val) (4:UInt64).toNat).toNat=X.val / 16:=by decide +kernel
 have:=h ⟨(tab1 y).toNat,(tab1 y).toNat_lt⟩
 rw [UInt8.ofNat_toNat] at this
 rw [this];show (tab1 y).toNat / 16=_;rw [zoa]
theorem zn1:∀ X:Fin 256,Lib.firstT X.val / 16 < 16/\Lib.accLo (Lib.firstT X.val / 16) < 256/\Lib.accHi (Lib.firstT X.val / 16) < 256:=by decide +kernel
theorem zwz (y:UInt8):(tab2 (shr8 (tab1 y) (4:UInt64).toNat)).lo.toNat=Lib.accLo (Lib.firstT y.toNat / 16):=by
 unfold tab2
 rw [f16]
 have:=(zn1 ⟨y.toNat,y.toNat_lt⟩).2.1
 rw [UInt8.toNat_ofNat'];exact Nat.mod_eq_of_lt this
theorem zwo (y:UInt8):(tab2 (shr8 (tab1 y) (4:UInt64).toNat)).hi.toNat=Lib.accHi (Lib.firstT y.toNat / 16):=by
 unfold tab2
 rw [f16]
 have:=(zn1 ⟨y.toNat,y.toNat_lt⟩).2.2
 rw [UInt8.toNat_ofNat'];exact Nat.mod_eq_of_lt this

theorem zow (b : List UInt8) (hl : b.length <= 1000000) : zdo b=some (Lib.validD b):=by
  refine tx ?_
  unfold zdo
  refine T.asd ⟨by omega,by omega⟩ (T.lp (λ(q:List UInt8)=>q.length <= 1000000/\Lib.validD q=Lib.validD b) (λq=>q.length) ⟨by rw [takeL];exact hl,by rw [takeL]⟩ (by rw [takeL];omega) λL q ⟨q1,q2⟩ hL=>?_)
  simp only [takeL]
  refine T.br (λh0=>?_) λh0=>T.some ?_
  rotate_left
  · have h0:=zOF h0
    have:q=[]:=List.length_eq_zero_iff.1 (by omega)
    rw [<- q2,this];rfl
  have h0:=zOT h0
  refine T.get (by omega) h0 λy hy=>T.br (λha=>?_) λha=>?_
  · have ha : y.toNat < 128 := UInt8.lt_iff_toNat_lt.1 (zOT ha)
    have hq:q=y :: q.drop 1:=dropc (b:=q) (n:=0) hy
    have v1 : Lib.validD (q.drop 1) = Lib.validD b := by rw [<- q2];conv=>rhs;rw [hq]
                                                         rw [Lib.validD_cons _ _ ha]
    have l1:(q.drop 1).length=q.length - 1:=zLd
    refine T.asd ⟨by omega,by omega,by omega⟩ ?_
    show T _ (Sy.jp (λJ102=>br (decide ((8:Int) < ((q.drop 1).length:Int))) _ _) _)
    generalize hP:q.drop 1=P at *
    have hP':q.drop (1:Int).toNat=P:=hP
    simp only [hP']
    refine T.jp (λc=>c=true->8 < P.length/\Asc8 P 8) (λJ k=>T.br (λh8=>?_) λ_=>k _ (λe=>by cases e)) λc hc=>?_
    · have h8:=zOT h8
      exact T.cal (zlp P (by omega)) λw _ hw=>k _ λe=>⟨by omega,hw (zOT e)⟩
    refine T.jp (λ(r:List UInt8)=>r.length < q.length/\Lib.validD r=Lib.validD b) (λJ k=>T.br (λh=>?_) λh=>k _ ⟨by omega,v1⟩) λr hr=>hL r ⟨by omega,hr.2⟩ hr.1
    obtain ⟨h8,a8⟩:=hc h
    refine T.asd ⟨by omega,by omega,by omega⟩ ?_
    have v9:Lib.validD (P.drop 8)=Lib.validD b:=by rw [<- v1];exact (Lib.validD_ascii 8 P a8).symm
    have l9:(P.drop 8).length=P.length - 8:=zLd
    generalize hM:P.drop 8=M at *
    have hM':P.drop (8:Int).toNat=M:=hM
    simp only [hM']
    refine T.jp (λc=>c=true->16 < M.length/\Asc8 M 16) (λJ k=>T.br (λh8=>?_) λ_=>k _ (λe=>by cases e)) λc hc=>?_
    · have h8:=zOT h8
      refine T.asd ⟨by omega,by omega,by omega⟩ (T.cal (zlp M (by omega)) λw1 _ hw1=>T.cal (zlp (M.drop (8:Int).toNat) (by rw [zLd];simp only [Int.reduceToNat];omega)) λw2 _ hw2=>k _ λe=>⟨by omega,?_⟩)
      obtain ⟨e1,e2⟩:=zgr (zOT e)
      exact (hw1 e1).add (c:=8) (hw2 e2)
    refine T.br (λh=>?_) λh=>k _ ⟨by omega,v9⟩
    obtain ⟨h16,a16⟩:=hc h
    have v25:Lib.validD (M.drop 16)=Lib.validD b:=by rw [<- v9];exact (Lib.validD_ascii 16 M a16).symm
    have l25:(M.drop 16).length=M.length - 16:=zLd
    refine T.asd ⟨by omega,by omega,by omega⟩ (T.lp (λ(u:List UInt8)=>u.length < M.length/\Lib.validD u=Lib.validD b) (λu=>u.length) ⟨by show (M.drop 16).length < _;omega,v25⟩ (by show (M.drop 16).length < _;omega) λL2 u ⟨u1,u2⟩ hL2=>?_)
    refine T.jp (λc=>c=true->32 < u.length/\Asc8 u 32) (λJ k=>T.br (λh8=>?_) λ_=>k _ (λe=>by cases e)) λc hc=>?_
    · have h8:=zOT h8
      refine T.asd ⟨by omega,by omega,by omega⟩ (T.asd ⟨by omega,by omega,by omega⟩ (T.asd ⟨by omega,by omega,by omega⟩ ?_))
      refine T.cal (zlp u (by omega)) λw1 _ hw1=>T.cal (zlp (u.drop (8:Int).toNat) (by rw [zLd];simp only [Int.reduceToNat];omega)) λw2 _ hw2=>T.cal (zlp (u.drop (16:Int).toNat) (by rw [zLd];simp only [Int.reduceToNat];omega)) λw3 _ hw3=>T.cal (zlp (u.drop (24:Int).toNat) (by rw [zLd];simp only [Int.reduceToNat];omega)) λw4 _ hw4=>k _ λe=>⟨by omega,?_⟩
      obtain ⟨e12,e34⟩:=zgr (zOT e)
      obtain ⟨e1,e2⟩:=zgr e12
      obtain ⟨e3,e4⟩:=zgr e34
      exact (((hw1 e1).add (c:=8) (hw2 e2)).add (c:=8) (hw3 e3)).add (c:=8) (hw4 e4)
    refine T.br (λh=>?_) λh=>k _ ⟨by omega,u2⟩
    obtain ⟨h32,a32⟩:=hc h
    have v57:Lib.validD (u.drop 32)=Lib.validD b:=by rw [<- u2];exact (Lib.validD_ascii 32 u a32).symm
    have l57:(u.drop 32).length=u.length - 32:=zLd
    exact T.asd ⟨by omega,by omega,by omega⟩ (hL2 _ ⟨by show (u.drop 32).length < _;omega,v57⟩ (by show (u.drop 32).length < _;omega))
  · have hge:128 <= y.toNat:=by
      have:=zOF ha
      rw [UInt8.lt_iff_toNat_lt] at this
      have e:(128:UInt8).toNat=128:=rfl
      omega
    have hy0:q.getD 0 0=y:=by rw [List.getD_eq_getElem?_getD,show q[0]?=some y from hy];rfl
    have hlead:=Lib.validD_lead q (λe=>by subst e;simp at h0) (by rw [hy0];exact hge)
    rw [hy0,q2] at hlead
    have e16:=f16 y
    have l16:=(zn1 ⟨y.toNat,y.toNat_lt⟩).1
    have eL:=zwz y
    have eH:=zwo y
    rw [f7]
    generalize hA:tab2 (shr8 (tab1 y) (4:UInt64).toNat)=A at *
    rw [<- eL,<- eH] at hlead
    have hlo:∀ z:UInt8,decide (z < A.lo)=true ↔ z.toNat < A.lo.toNat:=λz=>by rw [decide_eq_true_eq,UInt8.lt_iff_toNat_lt]
    have hhi:∀ z:UInt8,decide (A.hi < z)=true ↔ A.hi.toNat < z.toNat:=λz=>by rw [decide_eq_true_eq,UInt8.lt_iff_toNat_lt]
    have h128:∀ z:UInt8,decide (z < (128:UInt8))=true ↔ z.toNat < 128:=λz=>by rw [decide_eq_true_eq,UInt8.lt_iff_toNat_lt];rfl
    have h191:∀ z:UInt8,decide ((191:UInt8) < z)=true ↔ 191 < z.toNat:=λz=>by rw [decide_eq_true_eq,UInt8.lt_iff_toNat_lt];rfl
    refine T.abl (by decide) (T.asr (by rw [e16,Nat.blt_eq];omega) ?_)
    refine T.br (λs2=>?_) λs2=>T.br (λs3=>?_) λs3=>T.br (λs4=>?_) λs4=>T.some ?_
    · have s2:Lib.firstT y.toNat % 8=2:=by have:=zOT s2;omega
      rw [s2] at hlead
      refine vstage (Pp:=q.length < 2) (R:=λn=>n < A.lo.toNat) (by rw [decide_eq_true_eq];omega) (by omega) (λh=>by omega) hlo λc1 h1=>?_
      refine vstage (R:=λn=>A.hi.toNat < n) h1 (by omega) (λh=>by omega) hhi λc2 h2=>?_
      refine T.br (λh=>T.some ?_) λh=>?_
      · have:=h2.1 h
        rw [hlead]
        unfold Lib.checkN
        rw [if_pos rfl,if_pos (by simpa [or_assoc] using this)]
      · have:¬ _:=λe=>by rw [h2.2 e] at h;cases h
        have h3:¬ (q.length < 2 \/ (q.getD 1 0).toNat < A.lo.toNat \/ A.hi.toNat < (q.getD 1 0).toNat):=λe=>this (by simpa [or_assoc] using e)
        unfold Lib.checkN at hlead
        rw [if_pos rfl,if_neg h3] at hlead
        have hd:(q.drop 2).length=q.length - 2:=zLd
        exact T.asd ⟨by omega,by omega,by omega⟩ (hL _ ⟨by show (q.drop 2).length <= _;omega,hlead.symm⟩ (by show (q.drop 2).length < _;omega))
    · have s3:Lib.firstT y.toNat % 8=3:=by have:=zOT s3;omega
      rw [s3] at hlead
      refine vstage (Pp:=q.length < 3) (R:=λn=>n < A.lo.toNat) (by rw [decide_eq_true_eq];omega) (by omega) (λh=>by omega) hlo λc1 h1=>?_
      refine vstage (R:=λn=>A.hi.toNat < n) h1 (by omega) (λh=>by omega) hhi λc2 h2=>?_
      refine vstage (R:=λn=>n < 128) h2 (by omega) (λh=>by omega) h128 λc3 h3=>?_
      refine vstage (R:=λn=>191 < n) h3 (by omega) (λh=>by omega) h191 λc4 h4=>?_
      refine T.br (λh=>T.some ?_) λh=>?_
      · have:=h4.1 h
        rw [hlead]
        unfold Lib.checkN
        rw [if_neg (by decide),if_pos rfl,if_pos (by simpa [or_assoc] using this)]
      · have:¬ _:=λe=>by rw [h4.2 e] at h;cases h
        have h5:¬ (q.length < 3 \/ (q.getD 1 0).toNat < A.lo.toNat \/ A.hi.toNat < (q.getD 1 0).toNat \/ (q.getD 2 0).toNat < 128 \/ 191 < (q.getD 2 0).toNat):=λe=>this (by simpa [or_assoc] using e)
        unfold Lib.checkN at hlead
        rw [if_neg (by decide),if_pos rfl,if_neg h5] at hlead
        have hd:(q.drop 3).length=q.length - 3:=zLd
        exact T.asd ⟨by omega,by omega,by omega⟩ (hL _ ⟨by show (q.drop 3).length <= _;omega,hlead.symm⟩ (by show (q.drop 3).length < _;omega))
    · have s4:Lib.firstT y.toNat % 8=4:=by have:=zOT s4;omega
      rw [s4] at hlead
      refine vstage (Pp:=q.length < 4) (R:=λn=>n < A.lo.toNat) (by rw [decide_eq_true_eq];omega) (by omega) (λh=>by omega) hlo λc1 h1=>?_
      refine vstage (R:=λn=>A.hi.toNat < n) h1 (by omega) (λh=>by omega) hhi λc2 h2=>?_
      refine vstage (R:=λn=>n < 128) h2 (by omega) (λh=>by omega) h128 λc3 h3=>?_
      refine vstage (R:=λn=>191 < n) h3 (by omega) (λh=>by omega) h191 λc4 h4=>?_
      refine vstage (R:=λn=>n < 128) h4 (by omega) (λh=>by omega) h128 λc5 h5=>?_
      refine vstage (R:=λn=>191 < n) h5 (by omega) (λh=>by omega) h191 λc6 h6=>?_
      refine T.br (λh=>T.some ?_) λh=>?_
      · have:=h6.1 h
        rw [hlead]
        unfold Lib.checkN
        rw [if_neg (by decide),if_neg (by decide),if_pos rfl,if_pos (by simpa [or_assoc] using this)]
      · have:¬ _:=λe=>by rw [h6.2 e] at h;cases h
        have h7:¬ (q.length < 4 \/ (q.getD 1 0).toNat < A.lo.toNat \/ A.hi.toNat < (q.getD 1 0).toNat \/ (q.getD 2 0).toNat < 128 \/ 191 < (q.getD 2 0).toNat \/ (q.getD 3 0).toNat < 128 \/ 191 < (q.getD 3 0).toNat):=λe=>this (by simpa [or_assoc] using e)
        unfold Lib.checkN at hlead
        rw [if_neg (by decide),if_neg (by decide),if_pos rfl,if_neg h7] at hlead
        have hd:(q.drop 4).length=q.length - 4:=zLd
        exact T.asd ⟨by omega,by omega,by omega⟩ (hL _ ⟨by show (q.drop 4).length <= _;omega,hlead.symm⟩ (by show (q.drop 4).length < _;omega))
    · rw [hlead]
      unfold Lib.checkN
      have s2:=zOF s2
      have s3:=zOF s3
      have s4:=zOF s4
      rw [if_neg (by omega),if_neg (by omega),if_neg (by omega)]
end Go.Proofs.Q


namespace Go.Proofs.Q
open Go.Sy
set_option linter.unusedVariables false

theorem zjy (q:GLex) (k:Int) (h0:0 <= q.reader.at_ + k) (h1:q.reader.at_ + k <= 2000000) (hl:q.reader.s.b.length <= 1000000):zaq q k=some (hd (q.reader.s.b.drop (q.reader.at_ + k).toNat),q):=by
 refine tx ?_
 unfold zaq
 refine T.ck ⟨by omega,by omega⟩ (T.br (λh=>T.some ?_) λh=>T.ck ⟨by omega,by omega⟩ (T.get h0 (by have:=zOF h;omega) λy hy=>T.some ?_))
 ·have:=zOT h
  rw [zDn (by omega)];rfl
 ·rw [dropc hy];rfl
theorem hasPre (a p:Str):zbQ a p=some (isPre p.b a.b):=by
 refine tx ?_
 unfold zbQ
 refine T.jp (λb=>b=isPre p.b a.b) (λJ h=>T.br (λh3=>?_) λh3=>h _ ?_) λb hb=>T.some hb
 ·have h3:=zOT h3
  refine T.asd ⟨zIl _,by omega,h3⟩ (h _ ?_)
  rw [Bool.eq_iff_iff,decide_eq_true_eq,zgZ]
  constructor
  ·intro h5
   refine ⟨by omega,?_⟩
   have:=congrArg Str.b h5
   simpa using this
  ·intro h5
   obtain ⟨yb⟩:=p
   simp only [Str.mk.injEq]
   simpa using h5.2
 ·have h3:=zOF h3
  symm
  rw [Bool.eq_false_iff]
  intro h5
  have:=(zgZ _ _).1 h5
  omega
theorem znU (q:GLex) (t:Str) (h0:0 <= q.reader.at_) (h1:q.reader.at_ <= q.reader.s.b.length):zb9 q t=some (isPre t.b (q.reader.s.b.drop q.reader.at_.toNat),q):=by
 refine tx ?_
 unfold zb9 zfa
 refine T.asd ⟨h0,h1,zIl _⟩ (T.cal (Q:=λb=>b=isPre t.b (q.reader.s.b.drop q.reader.at_.toNat)) (T.eq (hasPre _ _) (T.some ?_)) λb _ hb=>T.some (by rw [hb]))
 rw [takeL]
theorem isPre2 (a c:UInt8) (d:List UInt8) (ha:a ≠ 0) (hc:c ≠ 0):isPre [a,c] d=(decide (hd d=a) && decide (hd (d.drop 1)=c)):=by
 match d with
 | []=>simp [isPre,hd,ha.symm]
 | [x]=>simp [isPre,hd,hc.symm]
 | x :: y :: r =>
  have e1:decide (x=a)=decide (a=x):=decide_eq_decide.2 eq_comm
  have e2:decide (y=c)=decide (c=y):=decide_eq_decide.2 eq_comm
  show (bif decide (a=x) then (bif decide (c=y) then true else false) else false)=(decide (x=a) && decide (y=c))
  rw [e1,e2]
  cases decide (a=x) <;> cases decide (c=y) <;> rfl
theorem clet (c:UInt8):zfU c=some (zaU c):=by
 refine tx ?_
 unfold zfU zaU
 refine T.jp (λq=>q=(decide (97 <= c) && decide (c <= 122))) (λJ h=>T.br (λh2=>h _ (by rw [h2];rfl)) λh2=>h _ (by rw [h2];rfl)) λq hq=>?_
 refine T.jp (λq'=>q'=(q || (decide (65 <= c) && decide (c <= 90)))) (λJ h=>T.br (λh2=>h _ (by rw [h2];rfl)) λh2=>?_) λq' hq'=>T.some (by rw [hq',hq])
 refine T.jp (λq'=>q'=(decide (65 <= c) && decide (c <= 90))) (λJ2 h3=>T.br (λh4=>h3 _ (by rw [h4];rfl)) λh4=>h3 _ (by rw [h4];rfl)) λq' hq'=>h _ (by rw [h2,hq'];rfl)
theorem cdig (c:UInt8):zfA c=some (isDigit c):=by
 refine tx ?_
 unfold zfA isDigit
 refine T.jp (λq=>q=(decide (48 <= c) && decide (c <= 57))) (λJ h=>T.br (λh2=>h _ (by rw [h2];rfl)) λh2=>h _ (by rw [h2];rfl)) λq hq=>T.some hq

/-! ### White -/
theorem zq6 (c:UInt8) (r:List UInt8) (h:c=10):wh .ins (c :: r)=wh .out (c :: r):=by
 subst h;simp [wh,isWh]
theorem zuG (x:GLex) (h0:0 <= x.reader.at_) (h1:x.reader.at_ <= x.reader.s.b.length) (hl:x.reader.s.b.length <= 1000000) :
    T (λr=>r.reader.s=x.reader.s/\r.reader.at_=(x.reader.s.b.length:Int) - ((wh .out (x.reader.s.b.drop x.reader.at_.toNat)).length:Int)) (zdN x):=by
  obtain ⟨⟨s,i⟩⟩:=x
  simp only at h0 h1 hl ⊢
  unfold zdN
  refine T.lp (ι:=GLex) (λq=>q.reader.s=s/\0 <= q.reader.at_/\q.reader.at_ <= s.b.length/\wh .out (s.b.drop q.reader.at_.toNat)=wh .out (s.b.drop i.toNat)) (λq=>(s.b.length - q.reader.at_).toNat) ⟨rfl,h0,h1,rfl⟩ (by dsimp only;omega) λL q hq hL=>?_
  obtain ⟨⟨s',k⟩⟩:=q
  obtain ⟨es,k1,k2,k3⟩:=hq
  simp only at es k1 k2 k3
  subst es
  rw [<- k3] at hL ⊢
  simp only at hL ⊢
  refine T.br (λhb=>?_) (λhb=>T.some ⟨rfl,?_⟩)
  rotate_left
  · have hb:=zOF hb
    show k=_
    rw [zDn (by omega)]
    simp only [wh,zLn];omega
  have hb:=zOT hb
  obtain ⟨y,hy⟩:∃ y,s'.b[k.toNat]?=some y:=⟨_,List.getElem?_eq_getElem (by omega)⟩
  have e:=dropc hy
  have e1:(k + 1).toNat=k.toNat + 1:=by omega
  have hpk:zaq (GLex.mk (GLrd.mk s' k)) 0=some (y,GLex.mk (GLrd.mk s' k)):=by
    rw [zjy _ _ (by show 0 <= k + 0;omega) (by show k + 0 <= _;omega) hl]
    show some (hd (s'.b.drop (k + 0).toNat),_)=_
    rw [Int.add_zero,e];rfl
  refine T.eq hpk ?_
  simp only
  refine T.jp (λq=>q=(decide (y=32) || decide (y=9))) (λJ h=>T.br (λh2=>h _ (by rw [h2];rfl)) λh2=>h _ (by rw [h2];rfl)) λq hq=>?_
  refine T.jp (λq'=>q'=(q || decide (y=10))) (λJ h=>T.br (λh2=>h _ (by rw [h2];rfl)) λh2=>h _ (by rw [h2];rfl)) λq' hq'=>?_
  refine T.jp (λq2=>q2=(q' || decide (y=13))) (λJ h=>T.br (λh2=>h _ (by rw [h2];rfl)) λh2=>h _ (by rw [h2];rfl)) λq2 hq2=>?_
  have hw:q2=isWh y:=by rw [hq2,hq',hq];rfl
  refine T.br (λh2=>T.ck (by omega) (hL _ ⟨rfl,by dsimp only;omega,by dsimp only;omega,?_⟩ (by dsimp only;omega))) λh2=>?_
  · dsimp only
    rw [e1,e];simp only [wh,<- hw,h2,zCt]
  have had:∀ j:Int,0 <= j->j <= s'.b.length->zb9 (GLex.mk (GLrd.mk s' j)) (Str.mk [45,45])=some (decide (hd (s'.b.drop j.toNat)=45) && decide (hd (s'.b.drop (j.toNat + 1))=45),GLex.mk (GLrd.mk s' j)):=λj j0 j1=>by
    rw [znU _ _ j0 j1]
    show some (isPre [45,45] (s'.b.drop j.toNat),_)=_
    rw [isPre2 45 45 _ (by decide) (by decide),List.drop_drop]
  refine T.eq (had k k1 k2) ?_
  have hdy:hd (s'.b.drop k.toNat)=y:=by rw [e];rfl
  simp only [hdy]
  generalize hq3:(decide (y=45) && decide (hd (s'.b.drop (k.toNat + 1))=45))=q3
  refine T.br (λh3=>T.ck (by omega) ?_) (λh3=>T.some ⟨rfl,?_⟩)
  rotate_left
  · show k=_
    rw [e];simp only [wh,<- hw,h2,zCf,hq3,h3,zLc,zLd];omega
  have h45:hd (s'.b.drop (k.toNat + 1))=45:=by rw [<- hq3] at h3;simpa using (Bool.and_eq_true_iff.1 h3).2
  have hlt:=zoR h45
  obtain ⟨c,ec⟩:=skip1 hlt
  have e2:(k + 2).toNat=k.toNat + 1 + 1:=by omega
  have hins:wh .out (s'.b.drop k.toNat)=wh .ins (s'.b.drop (k + 2).toNat):=by
    rw [e,e2];simp only [wh,<- hw,h2,zCf,hq3,h3,zCt];rw [ec];simp only [wh]
  refine T.lp (ι:=GLex) (λq=>q.reader.s=s'/\k + 2 <= q.reader.at_/\q.reader.at_ <= s'.b.length/\wh .out (s'.b.drop k.toNat)=wh .ins (s'.b.drop q.reader.at_.toNat)) (λq=>(s'.b.length - q.reader.at_).toNat) ⟨rfl,zIl _,by dsimp only;omega,hins⟩ (by dsimp only;omega) λL2 q hq hL2=>?_
  obtain ⟨⟨s2,j⟩⟩:=q
  obtain ⟨es,j1,j2,j3⟩:=hq
  simp only at es j1 j2 j3 hL2
  subst es
  have hpj:zaq (GLex.mk (GLrd.mk s2 j)) 0=some (hd (s2.b.drop j.toNat),GLex.mk (GLrd.mk s2 j)):=by
    rw [zjy _ _ (by show 0 <= j + 0;omega) (by show j + 0 <= _;omega) hl]
    show some (hd (s2.b.drop (j + 0).toNat),_)=_
    rw [Int.add_zero]
  refine T.jp (ι:=Bool × GLex) (λp=>p.2=GLex.mk (GLrd.mk s2 j)/\(p.1=true->j < s2.b.length/\hd (s2.b.drop j.toNat) ≠ 10/\(decide (hd (s2.b.drop j.toNat)=45) && decide (hd (s2.b.drop (j.toNat + 1))=45))=false)/\(p.1=false->s2.b.length <= j \/ hd (s2.b.drop j.toNat)=10 \/ (decide (hd (s2.b.drop j.toNat)=45) && decide (hd (s2.b.drop (j.toNat + 1))=45))=true)) (λJ h=>?_) λp hp=>?_
  · refine T.jp (ι:=Bool × GLex) (λp=>p.2=GLex.mk (GLrd.mk s2 j)/\(p.1=true->j < s2.b.length/\hd (s2.b.drop j.toNat) ≠ 10)/\(p.1=false->s2.b.length <= j \/ hd (s2.b.drop j.toNat)=10)) (λJ2 g=>T.br (λh4=>T.eq hpj (g _ ⟨rfl,λh5=>⟨zOT h4,by simpa using h5⟩,λh5=>.inr (by simpa using h5)⟩)) λh4=>g _ ⟨rfl,(λh5=>by cases h5),λ_=>.inl (by have:=zOF h4;dsimp only at this;omega)⟩) λp hp=>?_
    obtain ⟨pb,pl⟩:=p
    obtain ⟨p1,p2,p3⟩:=hp
    simp only at p1 p2 p3
    subst p1
    refine T.jp (ι:=Bool × GLex) (λp=>p.2=GLex.mk (GLrd.mk s2 j)/\(p.1=true->j < s2.b.length/\hd (s2.b.drop j.toNat) ≠ 10/\(decide (hd (s2.b.drop j.toNat)=45) && decide (hd (s2.b.drop (j.toNat + 1))=45))=false)/\(p.1=false->s2.b.length <= j \/ hd (s2.b.drop j.toNat)=10 \/ (decide (hd (s2.b.drop j.toNat)=45) && decide (hd (s2.b.drop (j.toNat + 1))=45))=true)) (λJ3 g=>T.br (λh4=>T.eq (had j (by omega) j2) (g _ ⟨rfl,λh5=>⟨(p2 h4).1,(p2 h4).2,(Bool.not_eq_true' _).mp h5⟩,λh5=>.inr (.inr ((Bool.not_eq_false' _).mp h5))⟩)) λh4=>g _ ⟨rfl,(λh5=>by cases h5),λ_=>(p3 h4).elim .inl λz=>.inr (.inl z)⟩) λp hp=>h _ hp
  obtain ⟨pb,pl⟩:=p
  obtain ⟨p1,p2,p3⟩:=hp
  simp only at p1 p2 p3
  subst p1
  have f1:(j + 1).toNat=j.toNat + 1:=by omega
  have f2:(j + 2).toNat=j.toNat + 1 + 1:=by omega
  refine T.br (λh5=>T.ck (by dsimp only;have:=p2 h5;omega) (hL2 _ ⟨rfl,by dsimp only;omega,by dsimp only;have:=p2 h5;omega,?_⟩ (by dsimp only;have:=p2 h5;omega))) λh5=>T.eq (had j (by omega) j2) ?_
  · obtain ⟨z1,z2,z3⟩:=p2 h5
    obtain ⟨y2,hy2⟩:∃ y,s2.b[j.toNat]?=some y:=⟨_,List.getElem?_eq_getElem (by omega)⟩
    have f:=dropc hy2
    have hdy2:hd (s2.b.drop j.toNat)=y2:=by rw [f];rfl
    rw [hdy2] at z2 z3
    dsimp only
    rw [j3,f,f1];simp only [wh,zDF z2,zCf,z3]
  refine T.br (λh6=>T.ck (by dsimp only;omega) (hL _ ⟨rfl,by dsimp only;omega,?_,?_⟩ ?_)) λh6=>hL _ ⟨rfl,by dsimp only;omega,j2,?_⟩ (by dsimp only;omega)
  · simp only at h6 ⊢
    have:=zoR (by simpa using (Bool.and_eq_true_iff.1 h6).2)
    omega
  · simp only at h6 ⊢
    have h46:hd (s2.b.drop (j.toNat + 1))=45:=by simpa using (Bool.and_eq_true_iff.1 h6).2
    have h40:hd (s2.b.drop j.toNat)=45:=by simpa using (Bool.and_eq_true_iff.1 h6).1
    have hlt2:=zoR h46
    obtain ⟨c2,ec2⟩:=skip1 hlt2
    obtain ⟨c3,ec3⟩:=skip1 (b:=s2.b) (n:=j.toNat) (by omega)
    have hc3:c3=45:=by rw [ec3] at h40;exact h40
    rw [j3,f2,ec3];subst hc3
    simp only [wh,h46,decide_true,Bool.and_self,zCt]
    rw [ec2];rfl
  · simp only at h6 ⊢
    have:=zoR (by simpa using (Bool.and_eq_true_iff.1 h6).2)
    omega
  · simp only at h6 ⊢
    rw [j3]
    rcases p3 h5 with z | z | z
    · rw [zDn (by omega)];rfl
    · rcases Nat.lt_or_ge j.toNat s2.b.length with z2 | z2
      · obtain ⟨c3,ec3⟩:=skip1 z2
        have hc3:c3=10:=by rw [ec3] at z;exact z
        rw [ec3,zq6 _ _ hc3]
      · rw [zDn z2];rfl
    · rw [h6] at z;cases z

/-! ### Words -/
def chainW {β:Type} (s:Str) (J:Bool->Option β):List Str->Option β
 | []=>J false
 | [w]=>J (decide (s=w))
 | w :: r=>br (decide (s=w)) (J (decide (s=w))) (chainW s J r)
theorem zqJ (s w:Str):decide (s=w)=sameB w.b s.b:=by
 rw [Bool.eq_iff_iff,decide_eq_true_eq,zkt]
 constructor
 ·intro h;rw [h]
 ·intro h;cases s;cases w;simp only at h;rw [h]
theorem zo3 {β:Type} (s:Str) (J:Bool->Option β):∀ l,chainW s J l=J (l.any λw=>sameB w.b s.b)
 | []=>rfl
 | [w]=>by simp only [chainW,List.any_cons,List.any_nil,Bool.or_false,zqJ]
 | w :: v :: r=>by
  have:=zo3 s J (v :: r)
  simp only [chainW,zqJ] at this ⊢
  rw [List.any_cons]
  cases h:sameB w.b s.b with
  | true=>rfl
  | false=>simp only [Bool.false_or];exact this
theorem cword (s:Str):zka s=some (isWord s.b):=by
 have h:zka s=jp (ι:=Bool) (λJ2=>chainW s J2 wordsL) (λq1=>br q1 (some (true)) (some (false))):=rfl
 rw [h]
 refine tx (T.jp (λq=>q=isWord s.b) (λJ k=>?_) λq hq=>?_)
 ·rw [zo3];exact k _ rfl
 ·rw [<- hq];cases q <;> exact T.some rfl

/-! ### Names -/
theorem zvt (b:List UInt8) (k:Nat):nm (b.drop k)=bif inName (hd (b.drop k)) (b.drop (k + 1)) then nm (b.drop (k + 1)) + 1 else 0:=by
 rcases Nat.lt_or_ge k b.length with h | h
 ·obtain ⟨c,e⟩:=skip1 h
  rw [e];rfl
 ·rw [zDn h]
  simp [hd,inName,zaU,isDigit,nm]
theorem zsA {b:List UInt8} {k:Nat} {r:List UInt8} (h:inName (hd (b.drop k)) r=true):k < b.length:=by
 rcases Nat.lt_or_ge k b.length with h2 | h2
 ·exact h2
 ·rw [zDn h2] at h
  simp [hd,inName,zaU,isDigit] at h
theorem cname (x:GLex) (h0:0 <= x.reader.at_) (h1:x.reader.at_ < x.reader.s.b.length) (hl:x.reader.s.b.length <= 1000000) (hc:zaU (hd (x.reader.s.b.drop x.reader.at_.toNat))=true) :
    T (λr=>bif nmBad (x.reader.s.b.drop x.reader.at_.toNat) then r.1=0 else r=((bif isWord ((x.reader.s.b.drop x.reader.at_.toNat).take (nm (x.reader.s.b.drop x.reader.at_.toNat))) then 5 else bif decide (hd (x.reader.s.b.drop x.reader.at_.toNat) <= 90) then 1 else 2:Int),Str.mk ((x.reader.s.b.drop x.reader.at_.toNat).take (nm (x.reader.s.b.drop x.reader.at_.toNat))),GLex.mk (GLrd.mk x.reader.s (x.reader.at_ + nm (x.reader.s.b.drop x.reader.at_.toNat))))) (zfs x):=by
  obtain ⟨⟨s,i⟩⟩:=x
  simp only at h0 h1 hl hc ⊢
  unfold zfs
  generalize hd0:s.b.drop i.toNat=d at hc ⊢
  have hi0:0 < nm d:=ztd hc
  have hpk:∀ k:Int,0 <= k->k <= s.b.length->zaq (GLex.mk (GLrd.mk s k)) 0=some (hd (s.b.drop k.toNat),GLex.mk (GLrd.mk s k)):=λk k0 k1=>by
    rw [zjy _ _ (by show 0 <= k + 0;omega) (by show k + 0 <= _;omega) hl]
    show some (hd (s.b.drop (k + 0).toNat),_)=_
    rw [Int.add_zero]
  have hpk1:∀ k:Int,0 <= k->k <= s.b.length->zaq (GLex.mk (GLrd.mk s k)) 1=some (hd (s.b.drop (k.toNat + 1)),GLex.mk (GLrd.mk s k)):=λk k0 k1=>by
    rw [zjy _ _ (by show 0 <= k + 1;omega) (by show k + 1 <= _;omega) hl]
    show some (hd (s.b.drop (k + 1).toNat),_)=_
    rw [show (k + 1).toNat=k.toNat + 1 by omega]
  refine T.eq (hpk i h0 (by omega)) ?_
  refine T.lp (ι:=UInt8 × GLex) (λq=>∃ k:Int,q=(hd (s.b.drop k.toNat),GLex.mk (GLrd.mk s k))/\i <= k/\k <= s.b.length/\(nm d:Int)=k - i + nm (s.b.drop k.toNat)) (λq=>(s.b.length - q.2.reader.at_).toNat) ⟨i,rfl,zIl _,by omega,by rw [hd0];omega⟩ (by dsimp only;omega) λL q hq hL=>?_
  obtain ⟨k,rfl,k1,k2,k3⟩:=hq
  simp only at hL ⊢
  have ek:(k + 1).toNat=k.toNat + 1:=by omega
  rw [zvt] at k3
  refine T.eq (clet _) (T.jp (λq=>q=(zaU (hd (s.b.drop k.toNat)) || isDigit (hd (s.b.drop k.toNat)))) (λJ2 h2=>T.br (λh3=>h2 _ (by rw [h3];rfl)) λh3=>T.eq (cdig _) (h2 _ (by rw [h3];rfl))) λq hq=>?_)
  refine T.jp (ι:=Bool × GLex) (λp=>p=(inName (hd (s.b.drop k.toNat)) (s.b.drop (k.toNat + 1)),GLex.mk (GLrd.mk s k))) (λJ2 h2=>T.br (λh3=>h2 _ (by unfold inName;rw [<- hq,h3];rfl)) λh3=>?_) λp hp=>?_
  · refine T.jp (ι:=Bool × GLex) (λp=>p=(decide (hd (s.b.drop k.toNat)=45) && !decide (hd (s.b.drop (k.toNat + 1))=45),GLex.mk (GLrd.mk s k))) (λJ3 h4=>T.br (λh5=>T.eq (hpk1 k (by omega) k2) (h4 _ (by rw [h5];rfl))) λh5=>h4 _ (by rw [h5];rfl)) λp hp=>h2 _ ?_
    subst hp
    unfold inName;rw [<- hq,h3];rfl
  subst hp
  simp only
  refine T.br (λh3=>?_) λh3=>?_
  · have hlt:=zsA h3
    rw [h3,zCt] at k3
    refine T.ck (by omega) (T.eq (hpk (k + 1) (by omega) (by omega)) (hL _ ⟨k + 1,rfl,by omega,by omega,by rw [ek];omega⟩ (by dsimp only;omega)))
  rw [h3,zCf] at k3
  have hn:nm d=k.toNat - i.toNat:=by omega
  have hseg:(s.b.take k.toNat).drop i.toNat=d.take (nm d):=by rw [seg,hd0,hn]
  have hdl:d.length=s.b.length - i.toNat:=by rw [<- hd0,zLd]
  have hlen:(d.take (nm d)).length=nm d:=by rw [zLt];omega
  refine T.asd ⟨h0,k1,k2⟩ ?_
  rw [hseg]
  refine T.jp (λb=>b=nmBad d) (λJ h=>T.br (λh4=>h _ ?_) λh4=>T.ck (by simp only [hlen];omega) (T.get (by simp only [hlen];omega) (by simp only [hlen];omega) λy hy=>h _ ?_)) λb hb=>?_
  · have:=zOT h4
    simp only [hlen] at this
    unfold nmBad
    rw [zDT (show 60 < nm d by omega),Bool.or_true]
  · have:=zOF h4
    simp only [hlen] at this hy
    unfold nmBad
    rw [zDF (show ¬ 60 < nm d by omega),Bool.or_false,List.getLast?_eq_getElem?,hlen,show nm d - 1=((nm d:Int) - 1).toNat by omega,hy]
    rw [decide_eq_decide];simp
  rw [<- hb]
  refine T.br (λh4=>T.some (by rw [h4];rfl)) λh4=>?_
  rw [h4]
  simp only [zCf]
  have hat:(GLex.mk (GLrd.mk s k))=GLex.mk (GLrd.mk s (i + nm d)):=by rw [show i + (nm d:Int)=k by omega]
  refine T.eq (cword _) (T.br (λh5=>T.some ?_) λh5=>T.get (zIl _) (by simp only [hlen];omega) λy hy=>?_)
  · simp only at h5;rw [h5,hat];rfl
  · simp only at h5 hy
    have hyd:hd d=y:=by
      rw [List.getElem?_take] at hy
      rw [if_pos (by omega)] at hy
      cases d with
      | nil=>cases hy
      | cons c r=>simpa [hd] using hy
    rw [h5,hyd,hat]
    exact T.br (λh6=>T.some (by rw [h6];rfl)) λh6=>T.some (by rw [h6];rfl)
end Go.Proofs.Q


namespace Go.Proofs.Q
open Go.Sy
set_option linter.unusedVariables false

def dfold (acc:Nat) (l:List UInt8):Nat:=l.foldl (λv d=>10 * v + (d.toNat - 48)) acc
theorem zof:∀ (l:List UInt8) (acc:Nat),acc * 10 ^ l.length <= dfold acc l
 | [],acc=>by simp [dfold]
 | d :: l,acc=>by
  have h:=zof l (10 * acc + (d.toNat - 48))
  refine Nat.le_trans ?_ h
  rw [zLc,Nat.pow_succ,Nat.mul_comm (10 ^ l.length) 10,<- Nat.mul_assoc,Nat.mul_comm acc 10]
  exact Nat.mul_le_mul_right _ (Nat.le_add_right _ _)
theorem zq0 (l:List UInt8) (acc:Nat):acc <= dfold acc l :=
 Nat.le_trans (Nat.le_mul_of_pos_right acc (Nat.pow_pos (by omega))) (zof l acc)
theorem parseM:∀ (l:List UInt8) (acc:Nat),digs l->acc <= 18446744073709551615->Lib.parseUintM 18446744073709551615 acc l=if dfold acc l <= 18446744073709551615 then .ok (dfold acc l) else .range
 | [],acc,_,h=>by
  rw [Lib.parseUintM,if_pos (show dfold acc [] <= _ from h)];rfl
 | d :: l,acc,hd,h=>by
  have hr:=zeH (hd d (zMs ..))
  have hm:=zq0 l (10 * acc + (d.toNat - 48))
  have e:dfold acc (d :: l)=dfold (10 * acc + (d.toNat - 48)) l:=rfl
  rw [Lib.parseUintM,if_pos hr,e]
  by_cases h1:1844674407370955162 <= acc
  ·rw [if_pos h1,if_neg (by omega)]
  ·rw [if_neg h1]
   by_cases h2:18446744073709551615 < acc * 10 + (d.toNat - 48)
   ·rw [if_pos h2,if_neg (by omega)]
   ·rw [if_neg h2,parseM l _ (λx hx=>hd x (zMm _ hx)) (by omega),Nat.mul_comm acc 10]
theorem parseU (D:List UInt8) (hD:digs D) (hne:D ≠ []):Lib.parseUintB 64 D=if dval D <= 18446744073709551615 then .ok (dval D) else .range:=by
 unfold Lib.parseUintB
 rw [if_neg hne]
 exact parseM D 0 hD (by omega)
def badV (m:Bool) (v:Nat):Bool:=!(decide (v < 9223372036854775808) || (m && decide (v=9223372036854775808)))
theorem cparse (m:Bool) (D:List UInt8) (hD:digs D) (hne:D ≠ []) (hl:D.length <= 1000000):T (λr=>r.2.bad=badV m (dval D)) (zbj (Str.mk (bif m then 45 :: D else D)) 10 64):=by
 obtain ⟨c,r,rfl⟩:=List.exists_cons_of_ne_nil hne
 have hr:=zeH (hD c (zMs ..))
 have hu:=parseU _ hD hne
 have hlen:Nat.ble (bif m then 45 :: c :: r else c :: r).length 281474976710656=true:=Nat.ble_eq_true_of_le (by cases m <;> simp only [zCt,zCf,zLc] at hl ⊢ <;> omega)
 unfold zbj
 rw [show (decide ((10:Int)=10) && decide ((64:Int)=64) && Nat.ble (Str.mk (bif m then 45 :: c :: r else c :: r)).b.length 281474976710656)=true by rw [hlen];rfl,zCt]
 cases m with
 | true =>
  simp only [zCt]
  unfold Lib.parseIntB
  simp only [show (45:UInt8).toNat=45 from rfl,or_true,if_true,hu]
  by_cases h1:dval (c :: r) <= 18446744073709551615
  ·simp only [if_pos h1]
   by_cases h2:9223372036854775808 < dval (c :: r)
   ·simp only [not_true,false_and,if_false,true_and,if_pos (show 2 ^ (64 - 1) < dval (c :: r) from h2)]
    refine T.some ?_
    show true=_
    unfold badV;simp;omega
   ·simp only [not_true,false_and,if_false,true_and,if_neg (show ¬ 2 ^ (64 - 1) < dval (c :: r) from h2)]
    refine T.some ?_
    show false=_
    unfold badV;simp;omega
  ·simp only [if_neg h1]
   refine T.some ?_
   show true=_
   unfold badV;simp;omega
 | false =>
  simp only [zCf]
  unfold Lib.parseIntB
  have n45:¬ c.toNat=45:=by omega
  have n43:¬ (c.toNat=43 \/ c.toNat=45):=by omega
  simp only [if_neg n43,hu]
  by_cases h1:dval (c :: r) <= 18446744073709551615
  ·simp only [if_pos h1]
   by_cases h2:9223372036854775808 <= dval (c :: r)
   ·simp only [n45,not_false_eq_true,true_and,if_pos (show 2 ^ (64 - 1) <= dval (c :: r) from h2)]
    refine T.some ?_
    show true=_
    unfold badV;simp;omega
   ·simp only [n45,not_false_eq_true,true_and,false_and,if_false,if_neg (show ¬ 2 ^ (64 - 1) <= dval (c :: r) from h2)]
    refine T.some ?_
    show false=_
    unfold badV;simp;omega
  ·simp only [if_neg h1]
   refine T.some ?_
   show true=_
   unfold badV;simp;omega
theorem zpc:∀ d:List UInt8,digs (d.take (dg d))
 | []=>λx hx=>by simp at hx
 | c :: r=>λx hx=>by
  have ih:=zpc r
  rw [zpA] at hx
  cases h:isDigit c with
  | false=>rw [h] at hx;simp at hx
  | true =>
   rw [h] at hx
   simp only [zCt,List.take_succ_cons,List.mem_cons] at hx
   rcases hx with rfl | hx
   ·exact h
   ·exact ih x hx
theorem zvd {d:UInt8} {l:List UInt8} (h:digs (d :: l)) (hd:d ≠ 48):10 ^ l.length <= dval (d :: l):=by
 have h1:=zeH (h d (zMs ..))
 have h2:d.toNat ≠ 48:=λe=>hd (UInt8.toNat_inj.1 e)
 have h3:=zof l (10 * 0 + (d.toNat - 48))
 refine Nat.le_trans ?_ h3
 exact Nat.le_mul_of_pos_left _ (by omega)
theorem pow19' {n:Nat} (h:19 <= n):10000000000000000000 <= 10 ^ n:=by
 have:=Nat.pow_le_pow_right (show 0 < 10 by omega) h
 simpa using this
theorem zqg {m:Bool} {d:List UInt8} (hn:1 <= dg d):(badV m (dval (d.take (dg d))) || (decide (hd d=48) && (decide (1 < dg d) || m)) || zaU (hd (d.drop (dg d))))=numBad m d:=by
 have hD:=zpc d
 have hlen:(d.take (dg d)).length=dg d:=by rw [zLt];have:=zrW d;omega
 unfold numBad
 rw [zDF (show ¬ dg d < 1 by omega),Bool.false_or]
 by_cases h19:dg d <= 19
 ·have hu:=zmC _ hD (by rw [hlen];exact h19)
  rw [zDF (show ¬ 19 < dg d by omega),Bool.false_or]
  have e1:decide (9223372036854775808 < uval (d.take (dg d)))=decide (9223372036854775808 < dval (d.take (dg d))):=decide_eq_decide.2 (by rw [UInt64.lt_iff_toNat_lt,hu];rfl)
  have e2:decide (uval (d.take (dg d))=9223372036854775808)=decide (dval (d.take (dg d))=9223372036854775808):=decide_eq_decide.2 (by rw [<- UInt64.toNat_inj,hu];rfl)
  rw [e1,e2]
  unfold badV
  generalize decide (hd d=48)=A
  generalize decide (1 < dg d)=B
  generalize zaU (hd (d.drop (dg d)))=C
  rcases Nat.lt_trichotomy (dval (d.take (dg d))) 9223372036854775808 with h | h | h
  ·rw [zDT h,zDF (show ¬ 9223372036854775808 < dval (d.take (dg d)) by omega),zDF (show ¬ dval (d.take (dg d))=9223372036854775808 by omega)]
   cases m <;> cases A <;> cases B <;> cases C <;> rfl
  ·rw [zDT h,zDF (show ¬ 9223372036854775808 < dval (d.take (dg d)) by omega),zDF (show ¬ dval (d.take (dg d)) < 9223372036854775808 by omega)]
   cases m <;> cases A <;> cases B <;> cases C <;> rfl
  ·rw [zDT h,zDF (show ¬ dval (d.take (dg d)) < 9223372036854775808 by omega),zDF (show ¬ dval (d.take (dg d))=9223372036854775808 by omega)]
   cases m <;> cases A <;> cases B <;> cases C <;> rfl
 ·rw [zDT (show 19 < dg d by omega),zDT (show 1 < dg d by omega)]
  simp only [Bool.true_or,Bool.and_true]
  by_cases h48:hd d=48
  ·rw [zDT h48];simp
  ·have hb:badV m (dval (d.take (dg d)))=true:=by
    have hne:d.take (dg d) ≠ []:=λe=>by rw [e] at hlen;simp at hlen;omega
    obtain ⟨c,r,e⟩:=List.exists_cons_of_ne_nil hne
    have hc:c ≠ 48:=by
     intro e48
     apply h48
     cases d with
     | nil=>simp at e
     | cons x y =>
      have:dg (x :: y)=(dg (x :: y) - 1) + 1:=by omega
      rw [this,List.take_succ_cons] at e
      injection e with e1 e2
      show x=48
      rw [e1,e48]
    rw [e] at hD hlen ⊢
    have:=zvd hD hc
    have h2:=pow19' (n:=r.length) (by rw [zLc] at hlen;omega)
    unfold badV;simp;omega
   rw [hb];rfl
theorem zrQ (b:List UInt8) (k:Nat):dg (b.drop k)=bif isDigit (hd (b.drop k)) then dg (b.drop (k + 1)) + 1 else 0:=by
 rcases Nat.lt_or_ge k b.length with h | h
 ·obtain ⟨c,e⟩:=skip1 h
  rw [e];rfl
 ·rw [zDn h];rfl
theorem ztg {b:List UInt8} {k:Nat} (h:isDigit (hd (b.drop k))=true):k < b.length:=by
 rcases Nat.lt_or_ge k b.length with h2 | h2
 ·exact h2
 ·rw [zDn h2] at h;cases h
theorem cnumber (s:Str) (i:Int) (h0:0 <= i) (h1:i < s.b.length) (hl:s.b.length <= 1000000) (hp:isDigit (hd (s.b.drop i.toNat))=true \/ (hd (s.b.drop i.toNat)=45/\isDigit (hd (s.b.drop (i.toNat + 1)))=true)) :
    T (λr=>match numLen (s.b.drop i.toNat) with
      | none=>r.1=0
      | some n=>r=((3:Int),Str.mk ((s.b.drop i.toNat).take n),GLex.mk (GLrd.mk s (i + n)))) (zeE (GLex.mk (GLrd.mk s i))):=by
  unfold zeE
  have hpk:∀ k:Int,0 <= k->k <= s.b.length->zaq (GLex.mk (GLrd.mk s k)) 0=some (hd (s.b.drop k.toNat),GLex.mk (GLrd.mk s k)):=λk k0 k1=>by
    rw [zjy _ _ (by show 0 <= k + 0;omega) (by show k + 0 <= _;omega) hl]
    show some (hd (s.b.drop (k + 0).toNat),_)=_
    rw [Int.add_zero]
  refine T.eq (hpk i h0 (by omega)) ?_
  simp only
  refine T.jp (ι:=GLex) (λq=>∃ f:Int,q=GLex.mk (GLrd.mk s f)/\i <= f/\f <= i + 1/\isDigit (hd (s.b.drop f.toNat))=true/\decide (i < f)=decide (hd (s.b.drop i.toNat)=45) /\
      numLen (s.b.drop i.toNat)=(bif numBad (decide (i < f)) (s.b.drop f.toNat) then none else some (dg (s.b.drop f.toNat) + (f - i).toNat))) (λJ h=>T.br (λhb=>T.ck (by omega) (h _ ⟨i + 1,rfl,by omega,by omega,?_,?_,?_⟩)) λhb=>h _ ⟨i,rfl,zIl _,by omega,?_,?_,?_⟩) λq hq=>?_
  · have e1:(i + 1).toNat=i.toNat + 1:=by omega
    rw [e1]
    rcases hp with hp | hp
    · have:=zOT hb
      rw [this] at hp;cases hp
    · exact hp.2
  · rw [hb,zDT (show i < i + 1 by omega)]
  · have e1:(i + 1).toNat=i.toNat + 1:=by omega
    have e2:(i + 1 - i).toNat=1:=by omega
    unfold numLen
    rw [hb,zCt,e1,e2,List.drop_drop,zDT (show i < i + 1 by omega)]
  · rcases hp with hp | hp
    · exact hp
    · exact absurd hp.1 (zOF hb)
  · rw [hb,zDF (show ¬ i < i by omega)]
  · have e2:(i - i).toNat=0:=by omega
    unfold numLen
    rw [hb,zCf,e2,Nat.add_zero,zDF (show ¬ i < i by omega)]
  obtain ⟨f,rfl,f1,f2,f3,f4,f5⟩:=hq
  have hflt:=ztg f3
  generalize hm:decide (i < f)=m at f4 f5
  generalize hdd:s.b.drop f.toNat=dd at f3 f5
  have hn1:1 <= dg dd:=by
    have:=zrQ s.b f.toNat
    rw [hdd,f3,zCt] at this
    omega
  refine T.lp (ι:=GLex) (λq=>∃ k:Int,q=GLex.mk (GLrd.mk s k)/\f <= k/\k <= s.b.length/\(dg dd:Int)=k - f + dg (s.b.drop k.toNat)) (λq=>(s.b.length - q.reader.at_).toNat) ⟨f,rfl,zIl _,by omega,by rw [hdd];omega⟩ (by dsimp only;omega) λL q hq hL=>?_
  obtain ⟨k,rfl,k1,k2,k3⟩:=hq
  have ek:(k + 1).toNat=k.toNat + 1:=by omega
  rw [zrQ] at k3
  refine T.eq (hpk k (by omega) k2) (T.eq (cdig _) (T.br (λh3=>?_) λh3=>?_))
  · simp only at h3
    have:=ztg h3
    rw [h3,zCt] at k3
    exact T.ck (by dsimp only;omega) (hL _ ⟨k + 1,rfl,by omega,by omega,by rw [ek];omega⟩ (by dsimp only;omega))
  simp only at h3
  rw [h3,zCf] at k3
  have hdn:dg dd=k.toNat - f.toNat:=by omega
  have hD:=zpc dd
  have hdl:dd.length=s.b.length - f.toNat:=by rw [<- hdd,zLd]
  have hlen:(dd.take (dg dd)).length=dg dd:=by rw [zLt];omega
  have hseg:(s.b.take k.toNat).drop f.toNat=dd.take (dg dd):=by rw [seg,hdd,hdn]
  have htext:(s.b.take k.toNat).drop i.toNat=bif m then 45 :: dd.take (dg dd) else dd.take (dg dd):=by
    cases m with
    | true =>
      have hif:=zOT hm
      have h45:hd (s.b.drop i.toNat)=45:=zOT f4.symm
      obtain ⟨c,ec⟩:=skip1 (b:=s.b) (n:=i.toNat) (by omega)
      have hc:c=45:=by rw [ec] at h45;exact h45
      have hg:s.b[i.toNat]?=some c:=by
        have:=congrArg (λl=>l[0]?) ec
        simpa using this
      rw [zub (by omega) (by omega) hg,hc,show i.toNat + 1=f.toNat by omega,hseg];rfl
    | false =>
      have hif:=zOF hm
      rw [show i.toNat=f.toNat by omega,hseg];rfl
  refine T.asd ⟨h0,by dsimp only;omega,k2⟩ ?_
  simp only
  rw [htext]
  refine T.get (by omega) (by omega) λy36 hy36=>?_
  have hy:hd dd=y36:=by rw [<- hdd,dropc hy36];rfl
  refine T.cal (cparse m _ hD (λe=>by rw [e] at hlen;simp at hlen;omega) (by omega)) λy37 _ hy37=>?_
  refine T.jp (λb=>b=(badV m (dval (dd.take (dg dd))) || (decide (hd dd=48) && (decide (1 < dg dd) || m)))) (λJ h=>T.br (λh4=>h _ (by rw [<- hy37,h4];rfl)) λh4=>?_) λb38 hb38=>?_
  · refine T.jp (λb=>b=(decide (hd dd=48) && (decide (1 < dg dd) || m))) (λJ2 h5=>T.br (λh6=>T.ck (by omega) ?_) λh6=>h5 _ (by rw [hy,h6];rfl)) λb hb=>h _ (by rw [<- hy37,h4,hb];rfl)
    have e1:decide ((1:Int) < k - f)=decide (1 < dg dd):=decide_eq_decide.2 (by omega)
    refine T.jp (λb=>b=(decide (1 < dg dd) || m)) (λJ3 h7=>T.br (λh8=>h7 _ (by rw [<- e1,h8];rfl)) λh8=>h7 _ (by rw [<- e1,h8];rfl)) λb hb=>h5 _ (by rw [hy,h6,hb];rfl)
  have hdk:dd.drop (dg dd)=s.b.drop k.toNat:=by rw [<- hdd,List.drop_drop,hdd];congr 1;omega
  refine T.jp (ι:=Bool × GLex) (λp=>p=(numBad m dd,GLex.mk (GLrd.mk s k))) (λJ h=>T.br (λh4=>h _ ?_) λh4=>T.eq (hpk k (by omega) k2) (T.eq (clet _) (h _ ?_))) λp hp=>?_
  · rw [<- zqg hn1,<- hb38,h4];rfl
  · rw [<- zqg hn1,<- hb38,h4,hdk];rfl
  subst hp
  rw [f5]
  cases hbad:numBad m dd with
  | true=>exact T.br (λ_=>T.some rfl) λh=>by cases h
  | false =>
    refine T.br (λh=>by cases h) λ_=>T.some ?_
    simp only [zCf]
    have e1:(i:Int) + ((dg dd + (f - i).toNat:Nat):Int)=k:=by omega
    have e2:(s.b.drop i.toNat).take (dg dd + (f - i).toNat)=bif m then 45 :: dd.take (dg dd) else dd.take (dg dd):=by
      rw [<- htext,seg];congr 1;omega
    rw [e1,e2]
end Go.Proofs.Q


namespace Go.Proofs.Q
open Go.Sy
set_option linter.unusedVariables false

theorem peek0 (s:Str) (hl:s.b.length <= 1000000) (k:Int) (k0:0 <= k) (k1:k <= s.b.length):zaq (GLex.mk (GLrd.mk s k)) 0=some (hd (s.b.drop k.toNat),GLex.mk (GLrd.mk s k)):=by
 rw [zjy _ _ (by show 0 <= k + 0;omega) (by show k + 0 <= _;omega) hl]
 show some (hd (s.b.drop (k + 0).toNat),_)=_
 rw [Int.add_zero]
theorem peek1 (s:Str) (hl:s.b.length <= 1000000) (k:Int) (k0:0 <= k) (k1:k <= s.b.length):zaq (GLex.mk (GLrd.mk s k)) 1=some (hd (s.b.drop (k.toNat + 1)),GLex.mk (GLrd.mk s k)):=by
 rw [zjy _ _ (by show 0 <= k + 1;omega) (by show k + 1 <= _;omega) hl]
 show some (hd (s.b.drop (k + 1).toNat),_)=_
 rw [show (k + 1).toNat=k.toNat + 1 by omega]

/-! ### Hexes -/
theorem zvu (b:List UInt8) (k:Nat):hx (b.drop k)=bif isHex (hd (b.drop k)) then hx (b.drop (k + 1)) + 1 else 0:=by
 rcases Nat.lt_or_ge k b.length with h | h
 ·obtain ⟨c,e⟩:=skip1 h
  rw [e];rfl
 ·rw [zDn h];rfl
theorem zvU {b:List UInt8} {k:Nat} (h:isHex (hd (b.drop k))=true):k < b.length:=by
 rcases Nat.lt_or_ge k b.length with h2 | h2
 ·exact h2
 ·rw [zDn h2] at h;cases h
theorem chex (s:Str) (i:Int) (h0:0 <= i) (h1:i < s.b.length) (hl:s.b.length <= 1000000) :
    T (λr=>bif hexBad (s.b.drop (i.toNat + 1)) then r.1=0 else r=((4:Int),Str.mk ((s.b.drop (i.toNat + 1)).take (hx (s.b.drop (i.toNat + 1)))),GLex.mk (GLrd.mk s (i + 1 + hx (s.b.drop (i.toNat + 1)) + 2)))) (zfI (GLex.mk (GLrd.mk s i))):=by
  unfold zfI
  have e0:(i + 1).toNat=i.toNat + 1:=by omega
  generalize hdd:s.b.drop (i.toNat + 1)=dd
  simp only
  refine T.ck (by omega) (T.eq (peek0 s hl (i + 1) (by omega) (by omega)) ?_)
  refine T.lp (ι:=UInt8 × GLex) (λq=>∃ k:Int,q=(hd (s.b.drop k.toNat),GLex.mk (GLrd.mk s k))/\i + 1 <= k/\k <= s.b.length/\(hx dd:Int)=k - (i + 1) + hx (s.b.drop k.toNat)) (λq=>(s.b.length - q.2.reader.at_).toNat) ⟨i + 1,rfl,zIl _,by omega,by rw [e0,hdd];omega⟩ (by dsimp only;omega) λL q hq hL=>?_
  obtain ⟨k,rfl,k1,k2,k3⟩:=hq
  simp only at hL ⊢
  have ek:(k + 1).toNat=k.toNat + 1:=by omega
  rw [zvu] at k3
  generalize hc:hd (s.b.drop k.toNat)=c at *
  refine T.eq (cdig c) (T.jp (λq=>q=isHex c) (λJ2 h3=>T.br (λh4=>h3 _ (by unfold isHex;rw [h4];rfl)) λh4=>?_) λq hq=>?_)
  · exact T.jp (λq=>q=(decide (65 <= c) && decide (c <= 70))) (λJ4 h5=>T.br (λh6=>h5 _ (by rw [h6];rfl)) λh6=>h5 _ (by rw [h6];rfl)) λq hq=>h3 _ (by unfold isHex;rw [h4,hq];rfl)
  subst hq
  refine T.br (λh3=>?_) λh3=>?_
  · have hlt:=zvU (b:=s.b) (k:=k.toNat) (by rw [hc];exact h3)
    rw [h3,zCt] at k3
    exact T.ck (by omega) (T.eq (peek0 s hl (k + 1) (by omega) (by omega)) (hL _ ⟨k + 1,rfl,by omega,by omega,by rw [ek];omega⟩ (by dsimp only;omega)))
  rw [h3,zCf] at k3
  have hn:hx dd=k.toNat - (i.toNat + 1):=by omega
  have hdl:dd.length=s.b.length - (i.toNat + 1):=by rw [<- hdd,zLd]
  have hlen:(dd.take (hx dd)).length=hx dd:=by rw [zLt];omega
  have hseg:(s.b.take k.toNat).drop (i + 1).toNat=dd.take (hx dd):=by rw [seg,e0,hdd,hn]
  have hdk:dd.drop (hx dd)=s.b.drop k.toNat:=by rw [<- hdd,List.drop_drop,hdd];congr 1;omega
  have hdk1:dd.drop (hx dd + 1)=s.b.drop (k.toNat + 1):=by rw [<- hdd,List.drop_drop,hdd];congr 1;omega
  refine T.asd ⟨by omega,k1,k2⟩ (T.asr rfl ?_)
  rw [hseg]
  simp only [hlen]
  have hmod:decide (((hx dd:Nat):Int).tmod 2=0)=decide (hx dd % 2=0):=by
    rw [decide_eq_decide,Int.tmod_eq_emod_of_nonneg (by omega)]
    omega
  refine T.jp (ι:=Bool × GLex) (λp=>p=(hexBad dd,GLex.mk (GLrd.mk s k))) (λJ h=>T.br (λh4=>h _ ?_) λh4=>T.eq (znU _ _ (by show 0 <= k;omega) k2) (h _ ?_)) λp hp=>?_
  · rw [hmod] at h4
    unfold hexBad;rw [h4];rfl
  · rw [hmod] at h4
    unfold hexBad
    rw [h4,hdk,hdk1]
    show (!isPre [39,72] (s.b.drop k.toNat),_)=_
    rw [isPre2 39 72 _ (by decide) (by decide),List.drop_drop]
    cases decide (hd (s.b.drop k.toNat)=39) <;> cases decide (hd (s.b.drop (k.toNat + 1))=72) <;> rfl
  subst hp
  cases hb:hexBad dd with
  | true=>exact T.br (λ_=>T.some rfl) λh=>by cases h
  | false =>
    refine T.br (λh=>by cases h) λ_=>T.ck (by dsimp only;omega) (T.some ?_)
    simp only [zCf]
    rw [show i + 1 + (hx dd:Int) + 2=k + 2 by omega]

/-! ### Strings -/
theorem ctext (s:Str) (i:Int) (h0:0 <= i) (h1:i < s.b.length) (hl:s.b.length <= 1000000) :
    T (λr=>match qd false (s.b.drop (i.toNat + 1)) [] with
      | none=>r.1=0
      | some (t,rest)=>r=((7:Int),Str.mk t,GLex.mk (GLrd.mk s ((s.b.length:Int) - (rest.length:Int))))) (zfm (GLex.mk (GLrd.mk s i))):=by
  unfold zfm
  have e0:(i + 1).toNat=i.toNat + 1:=by omega
  simp only
  refine T.ck (by omega) (T.lp (ι:=List UInt8 × GLex) (λq=>∃ k:Int,q.2=GLex.mk (GLrd.mk s k)/\i + 1 <= k/\k <= s.b.length/\(q.1.length:Int) <= k/\qd false (s.b.drop (i.toNat + 1)) []=qd false (s.b.drop k.toNat) q.1) (λq=>(s.b.length - q.2.reader.at_).toNat) ⟨i + 1,rfl,zIl _,by omega,by simp only [zLn];omega,by rw [e0]⟩ (by dsimp only;omega) λL q hq hL=>?_)
  obtain ⟨o,g⟩:=q
  obtain ⟨k,rfl,k1,k2,k3,k4⟩:=hq
  simp only at k3 k4 hL ⊢
  rw [k4] at hL ⊢
  refine T.br (λh2=>?_) λh2=>T.some ?_
  rotate_left
  · have h2:=zOF h2
    rw [zDn (by omega)];rfl
  have h2:=zOT h2
  have ek:(k + 1).toNat=k.toNat + 1:=by omega
  obtain ⟨y,ey⟩:=skip1 (b:=s.b) (n:=k.toNat) (by omega)
  have hy:hd (s.b.drop k.toNat)=y:=by rw [ey];rfl
  refine T.eq (peek0 s hl k (by omega) k2) ?_
  simp only [hy]
  refine T.jp (ι:=GLex) (λg=>∃ j:Int,g=GLex.mk (GLrd.mk s j)/\k <= j/\j < s.b.length/\qd false (s.b.drop k.toNat) o=qd false (s.b.drop (j.toNat + 1)) (o ++ [hd (s.b.drop j.toNat)])) (λJ h=>?_) λg hg=>?_
  · refine T.br (λh3=>T.ck (by omega) (T.eq (peek0 s hl (k + 1) (by omega) (by omega)) (T.br (λh4=>?_) λh4=>?_))) λh3=>h _ ⟨k,rfl,zIl _,h2,?_⟩
    · have hn:decide (hd (s.b.drop (k.toNat + 1))=34)=false:=by rw [<- ek];simpa using h4
      refine T.eq (zow o (by omega)) (T.br (λh5=>T.some ?_) λh5=>T.some ?_)
      · have h5:Lib.validD o=false:=by simpa using h5
        rw [ey]
        simp only [qd,h3,zCt,hn,zCf,h5]
      · have h5:Lib.validD o=true:=by simpa using h5
        rw [ey]
        simp only [qd,h3,zCt,hn,zCf,h5,zLd]
        rw [show (s.b.length:Int) - ((s.b.length - (k.toNat + 1):Nat):Int)=k + 1 by omega]
    · have hn:hd (s.b.drop (k.toNat + 1))=34:=by rw [<- ek];simpa using h4
      have hlt:=zqf (b:=s.b) (n:=k.toNat + 1) (by rw [hn];decide)
      obtain ⟨c,ec⟩:=skip1 hlt
      refine h _ ⟨k + 1,rfl,by omega,by omega,?_⟩
      rw [ek,hn,ey]
      simp only [qd,h3,zCt,zDT hn]
      rw [ec];simp only [qd]
    · rw [hy,ey]
      simp only [qd,h3,zCf]
  obtain ⟨j,rfl,j1,j2,j3⟩:=hg
  have ej:(j + 1).toNat=j.toNat + 1:=by omega
  refine T.eq (peek0 s hl j (by omega) (by omega)) ?_
  refine T.abl (by simp only [zLs];omega) (T.ck (by dsimp only;omega) (hL _ ⟨j + 1,rfl,by omega,by omega,by dsimp only;rw [zLa,zLs];omega,?_⟩ (by dsimp only;omega)))
  rw [ej,j3]

/-! ### Signs -/
theorem zvo:∀ w ∈ sgs,0 < w.length:=by decide
theorem csign (s:Str) (i:Int) (h0:0 <= i) (h1:i < s.b.length) (hl:s.b.length <= 1000000) :
    T (λr=>bif decide (0 < sg (s.b.drop i.toNat)) then r=((6:Int),Str.mk ((s.b.drop i.toNat).take (sg (s.b.drop i.toNat))),GLex.mk (GLrd.mk s (i + sg (s.b.drop i.toNat)))) else r.1=0) (zfu (GLex.mk (GLrd.mk s i))):=by
  unfold zfu
  have hdl:(s.b.drop i.toNat).length=s.b.length - i.toNat:=zLd
  generalize hdd:s.b.drop i.toNat=d at hdl ⊢
  refine T.lp (ι:=Int × GLex) (λq=>q.2=GLex.mk (GLrd.mk s i)/\0 <= q.1/\q.1 <= 13/\sgF (sgs.drop q.1.toNat) d=sg d) (λq=>(13 - q.1).toNat) ⟨rfl,zIl _,by dsimp only;omega,rfl⟩ (by dsimp only;omega) λL q hq hL=>?_
  obtain ⟨k,g⟩:=q
  obtain ⟨rfl,k1,k2,k3⟩:=hq
  simp only at k1 k2 k3 hL ⊢
  refine T.br (λh2=>?_) λh2=>T.some ?_
  rotate_left
  · have h2:¬ k < 13:=zOF h2
    have:k=13:=by omega
    subst this
    have e:sg d=0:=by rw [<- k3];rfl
    rw [e];rfl
  have h2:k < 13:=zOT h2
  refine T.get k1 h2 λy hy=>?_
  have hs:=zrN hy
  have hpos:0 < y.b.length:=zvo y.b (by
    have:y.b ∈ sgs.drop k.toNat:=by rw [hs];exact zMs ..
    exact List.mem_of_mem_drop this)
  rw [hs] at k3
  unfold sgF at k3
  refine T.eq (znU _ y h0 (by show i <= (s.b.length:Int);omega)) ?_
  simp only [hdd]
  have e:(k + 1).toNat=k.toNat + 1:=by omega
  refine T.br (λh3=>?_) λh3=>T.ck (by omega) (hL _ ⟨rfl,by dsimp only;omega,by dsimp only;omega,?_⟩ (by dsimp only;omega))
  · obtain ⟨p1,p2⟩:=(zgZ _ _).1 h3
    rw [h3,zCt] at k3
    refine T.ck (by omega) (T.some ?_)
    rw [<- k3,zDT hpos,zCt,p2]
  · rw [h3,zCf] at k3
    rw [e,k3]

/-! ### One -/
theorem zsr {b t r:List UInt8} {k:Int} (h:oneS b=some (k,t,r)):k ≠ 0:=by
 unfold oneS at h
 simp only at h
 cases h1:zaU (hd b) with
 | true =>
  rw [h1,zCt] at h
  cases h2:nmBad b with
  | true=>rw [h2] at h;cases h
  | false =>
   rw [h2] at h
   simp only [zCf,Option.some.injEq,Prod.mk.injEq] at h
   rw [<- h.1]
   cases isWord (b.take (nm b)) <;> cases decide (hd b <= 90) <;> decide
 | false =>
  rw [h1,zCf] at h
  cases h2:isDigit (hd b) || (decide (hd b=45) && isDigit (hd (b.drop 1))) with
  | true =>
   rw [h2,zCt] at h
   cases h3:numLen b with
   | none=>rw [h3] at h;cases h
   | some n =>
    rw [h3] at h
    simp only [Option.some.injEq,Prod.mk.injEq] at h
    rw [<- h.1];decide
  | false =>
   rw [h2,zCf] at h
   by_cases h3:hd b=39
   ·rw [zDT h3,zCt] at h
    cases h4:hexBad (b.drop 1) with
    | true=>rw [h4] at h;cases h
    | false =>
     rw [h4] at h
     simp only [zCf,Option.some.injEq,Prod.mk.injEq] at h
     rw [<- h.1];decide
   ·rw [zDF h3,zCf] at h
    by_cases h4:hd b=34
    ·rw [zDT h4,zCt] at h
     cases h5:qd false (b.drop 1) [] with
     | none=>rw [h5] at h;cases h
     | some q =>
      rw [h5] at h
      simp only [Option.some.injEq,Prod.mk.injEq] at h
      rw [<- h.1];decide
    ·rw [zDF h4,zCf] at h
     by_cases h5:0 < sg b
     ·rw [zDT h5,zCt] at h
      simp only [Option.some.injEq,Prod.mk.injEq] at h
      rw [<- h.1];decide
     ·rw [zDF h5] at h;cases h
theorem ctoken (s:Str) (i:Int) (h0:0 <= i) (h1:i < s.b.length) (hl:s.b.length <= 1000000) :
    T (λr=>match oneS (s.b.drop i.toNat) with
      | none=>r.1=0
      | some (k,t,rest)=>r=(k,Str.mk t,GLex.mk (GLrd.mk s ((s.b.length:Int) - (rest.length:Int))))) (zeW (GLex.mk (GLrd.mk s i))):=by
  unfold zeW
  have ed1:(s.b.drop i.toNat).drop 1=s.b.drop (i.toNat + 1):=by rw [List.drop_drop]
  have elen:(s.b.drop i.toNat).length=s.b.length - i.toNat:=zLd
  have erest:∀ (n:Nat),n <= (s.b.drop i.toNat).length->i + (n:Int)=(s.b.length:Int) - (((s.b.drop i.toNat).drop n).length:Int):=λn hn=>by
    rw [zLd,elen];rw [elen] at hn;omega
  refine T.eq (peek0 s hl i h0 (by omega)) (T.eq (clet _) ?_)
  unfold oneS
  simp only
  refine T.br (λhle=>?_) λhle=>T.eq (cdig _) ?_
  · rw [hle,zCt]
    refine T.cal (cname (GLex.mk (GLrd.mk s i)) h0 h1 hl hle) λr _ hr=>T.some ?_
    simp only at hr
    cases hb:nmBad (s.b.drop i.toNat) with
    | true=>rw [hb,zCt] at hr;exact hr
    | false =>
      rw [hb,zCf] at hr
      simp only [zCf]
      rw [hr,<- erest _ (zoW _)]
  · rw [hle, zCf]
    refine T.jp (ι:=Bool × GLex) (λp=>p=(isDigit (hd (s.b.drop i.toNat)) || (decide (hd (s.b.drop i.toNat)=45) && isDigit (hd ((s.b.drop i.toNat).drop 1))),GLex.mk (GLrd.mk s i))) (λJ2 h2=>T.br (λh3=>h2 _ (by rw [h3];rfl)) λh3=>?_) λp hp=>?_
    · refine T.jp (ι:=Bool × GLex) (λp=>p=(decide (hd (s.b.drop i.toNat)=45) && isDigit (hd ((s.b.drop i.toNat).drop 1)),GLex.mk (GLrd.mk s i))) (λJ3 h4=>T.br (λh5=>T.eq (peek1 s hl i h0 (by omega)) (T.eq (cdig _) (h4 _ (by rw [h5,ed1];rfl)))) λh5=>h4 _ (by rw [h5];rfl)) λp hp=>h2 _ (by rw [h3,hp];rfl)
    subst hp
    simp only
    refine T.br (λh3=>?_) λh3=>?_
    · rw [h3,zCt]
      have hp:isDigit (hd (s.b.drop i.toNat))=true \/ (hd (s.b.drop i.toNat)=45/\isDigit (hd (s.b.drop (i.toNat + 1)))=true):=by
        rw [ed1] at h3
        rcases Bool.or_eq_true_iff.1 h3 with h | h
        · exact .inl h
        · exact .inr ⟨zOT (Bool.and_eq_true_iff.1 h).1,(Bool.and_eq_true_iff.1 h).2⟩
      refine T.cal (cnumber s i h0 h1 hl hp) λr _ hr=>T.some ?_
      cases hn:numLen (s.b.drop i.toNat) with
      | none=>rw [hn] at hr;exact hr
      | some n =>
        rw [hn] at hr
        simp only at hr ⊢
        rw [hr,<- erest n (zmN hn).2]
    · rw [h3,zCf]
      refine T.br (λh4=>?_) λh4=>?_
      · rw [h4,zCt,ed1]
        refine T.cal (chex s i h0 h1 hl) λr _ hr=>T.some ?_
        cases hb:hexBad (s.b.drop (i.toNat + 1)) with
        | true=>rw [hb,zCt] at hr;exact hr
        | false =>
          rw [hb,zCf] at hr
          simp only [zCf]
          have h5:hx (s.b.drop (i.toNat + 1)) + 1 < (s.b.drop (i.toNat + 1)).length:=by
            unfold hexBad at hb
            have:=(Bool.or_eq_false_iff.1 hb).2
            have h72:hd ((s.b.drop (i.toNat + 1)).drop (hx (s.b.drop (i.toNat + 1)) + 1))=72:=by simpa using this
            exact zqf (by rw [h72];decide)
          rw [zLd] at h5
          rw [hr,zLd,zLd]
          have e:i + 1 + (hx (s.b.drop (i.toNat + 1)):Int) + 2=(s.b.length:Int) - ((s.b.length - (i.toNat + 1) - (hx (s.b.drop (i.toNat + 1)) + 2):Nat):Int):=by omega
          rw [e]
      · rw [h4,zCf]
        refine T.br (λh5=>?_) λh5=>?_
        · rw [h5,zCt,ed1]
          refine T.cal (ctext s i h0 h1 hl) λr _ hr=>T.some ?_
          cases hq:qd false (s.b.drop (i.toNat + 1)) [] with
          | none=>rw [hq] at hr;exact hr
          | some q =>
            obtain ⟨t,rest⟩:=q
            rw [hq] at hr
            simp only at hr ⊢
            rw [hr]
        · rw [h5,zCf]
          refine T.cal (csign s i h0 h1 hl) λr _ hr=>T.some ?_
          cases hb:decide (0 < sg (s.b.drop i.toNat)) with
          | false=>rw [hb,zCf] at hr;exact hr
          | true =>
            rw [hb,zCt] at hr
            simp only [zCt]
            rw [hr,<- erest (sg (s.b.drop i.toNat)) (zrR sgs _)]

/-! ### All -/
theorem ctokens (s:Str):zhP s=some (toks s.b):=by
 refine tx ?_
 unfold zhP toks
 refine T.br (λh=>T.some ?_) λh=>?_
 ·have h:=zOT h
  rw [zDT (show 8000 < s.b.length by omega)];rfl
 have hl:=zOF h
 rw [zDF (show ¬ 8000 < s.b.length by omega),zCf]
 have hskip:∀ k:Int,0 <= k->k <= s.b.length->T (λr=>r=GLex.mk (GLrd.mk s ((s.b.length:Int) - ((wh .out (s.b.drop k.toNat)).length:Int)))) (zdN (GLex.mk (GLrd.mk s k))):=λk k0 k1=>by
  refine (zuG (GLex.mk (GLrd.mk s k)) k0 k1 (by show s.b.length <= _;omega)).mono λr hr=>?_
  obtain ⟨⟨s',j⟩⟩:=r
  obtain ⟨r1,r2⟩:=hr
  simp only at r1 r2
  rw [r1,r2]
 refine T.cal (hskip 0 (by omega) (by omega)) λy2 _ hy2=>?_
 subst hy2
 refine T.lp (ι:=List GTok × GLex) (λq=>∃ (k:Int) (f:Nat) (b:List UInt8),q.2=GLex.mk (GLrd.mk s k)/\(q.1.length:Int) <= k/\k=(s.b.length:Int) - ((wh .out b).length:Int)/\wh .out b=s.b.drop k.toNat/\0 <= k/\b.length < f/\toksF s.b.length (s.b.length + 1) s.b []=toksF s.b.length f b q.1) (λq=>(s.b.length - q.2.reader.at_).toNat)
  ⟨_,s.b.length + 1,s.b,rfl,?_,rfl,?_,?_,by omega,rfl⟩ (by have:=zfg s.b .out;simp only [Int.toNat_zero,List.drop_zero];omega) λL q hq hL=>?_
 ·have:=zfg s.b .out
  simp only [zLn,Int.toNat_zero,List.drop_zero];omega
 ·obtain ⟨n,hn⟩:=zin s.b .out
  have:=zj4 hn
  have hwl:=zfg s.b .out
  simp only [Int.toNat_zero,List.drop_zero]
  rw [show ((s.b.length:Int) - ((wh .out s.b).length:Int)).toNat=s.b.length - (wh .out s.b).length by omega,this]
 ·have:=zfg s.b .out
  simp only [Int.toNat_zero,List.drop_zero];omega
 obtain ⟨l,g⟩:=q
 obtain ⟨k,f,b,rfl,h3,hk,hsw,k0,h4,h5⟩:=hq
 simp only at h3 h5 hL ⊢
 rw [h5] at hL ⊢
 cases f with
 | zero=>omega
 | succ f =>
  rw [zgR] at hL ⊢
  cases hwh:wh .out b with
  | nil =>
   rw [hwh] at hk
   simp only [hwh] at hL ⊢
   have hk:k=(s.b.length:Int):=by simpa using hk
   refine T.br (λh6=>by have:=zOT h6;omega) λ_=>T.abl (by simp only [zLc,zLn];omega) (T.some rfl)
  | cons c r =>
   rw [hwh] at hk hsw
   simp only [hwh] at hL ⊢ 
   have hcl:0 < (c :: r).length:=by simp
   have hwl:=zfg b .out
   rw [hwh] at hwl
   refine T.br (λ_=>?_) λh6=>by have:=zOF h6;omega
   refine T.cal (ctoken s k k0 (by omega) (by omega)) λq _ hq=>?_
   rw [<- hsw] at hq
   cases ho:oneS (c :: r) with
   | none =>
    rw [ho] at hq
    simp only [ho] at hL ⊢
    simp only at hq
    rw [hq]
    exact T.br (λ_=>T.some (by rw [hk])) λh7=>by have:=zOF h7;omega
   | some p =>
    obtain ⟨kd,t,r'⟩:=p
    rw [ho] at hq
    simp only [ho] at hL ⊢
    simp only at hq
    subst hq
    have hol:=zjX ho
    obtain ⟨no,hso⟩:=zqx ho
    have hso2:r'=s.b.drop (k.toNat + no):=by rw [hso,<- List.drop_drop,<- hsw]
    have hsd:=zj4 hso2
    have hrl:r'.length <= s.b.length:=by rw [hso2,zLd];omega
    refine T.br (λh7=>absurd (zOT h7) (zsr ho)) λ_=>T.abl (by simp only [zLc,zLn];omega) (T.cal (hskip _ (by omega) (by omega)) λy _ hy=>?_)
    subst hy
    have e1:((s.b.length:Int) - (r'.length:Int)).toNat=s.b.length - r'.length:=by omega
    rw [e1,hsd]
    have hw2:=zfg r' .out
    obtain ⟨n2,hn2⟩:=zin r' .out
    rw [hso2,List.drop_drop,<- hso2] at hn2
    have hs2:=zj4 hn2
    refine hL _ ⟨_,f,r',rfl,?_,rfl,?_,by omega,by omega,?_⟩ (by dsimp only;omega)
    ·dsimp only;rw [zLa,zLs];omega
    ·rw [show ((s.b.length:Int) - ((wh .out r').length:Int)).toNat=s.b.length - (wh .out r').length by omega,hs2]
    ·dsimp only;rw [hk]
end Go.Proofs.Q


namespace Go.Proofs.Q
open Go.Sy
set_option maxRecDepth 4000
def zf7 :Option (Bool) :=
 cal (zdc (Str.mk [77,32,68,69,70,73,78,73,84,73,79,78,83,32,58,58,61,32,66,69,71,73,78,32,65,32,58,58,61,32,83,69,81,85,69,78,67,69,32,123,32,97,32,73,78,84,69,71,69,82,44,32,98,32,66,79,79,76,69,65,78,32,79,80,84,73,79,78,65,76,32,125,32,69,78,68])) λy1=>cal (zh4 y1.1 (0:Int) (Val.mk (7:Int) (0:Int) ([]:(List UInt8)) ([(Val.mk (2:Int) (5:Int) ([]:(List UInt8)) ([]:(List Val)) (0:Int) ([]:(List Raw))),(Val.mk (1:Int) (1:Int) ([]:(List UInt8)) ([]:(List Val)) (0:Int) ([]:(List Raw)))]:(List Val)) (0:Int) ([]:(List Raw)))) λy4=>jp (ι:=Bool) (λJ6=>br y1.2 (J6 ((decide (y4.2=(0:Int))))) (J6 (false))) (λq5=>jp (ι:=Bool) (λJ9=>br q5 (J9 ((decide (y4.1=(Str.mk [123,32,97,32,53,44,32,98,32,84,82,85,69,32,125]))))) (J9 (false))) (λq8=>some (q8)))
end Go.Proofs.Q


namespace Go.Proofs.Q
open Go.Sy
set_option maxRecDepth 4000
def zbN (a_s:GNps):Option (GTok × GNps) :=
 cal (getI a_s.stream.l a_s.stream.i) λy4=>some (y4,a_s)

def zbR (a_p:GNps) (a_e:Int):Option (Bool × GNps) :=
 jp (ι:=GNps) (λJ2=>br (decide (a_p.e=(0:Int))) (cal (zbN a_p) λy3=>J2 ((GNps.mk y3.2.stream y3.2.t y3.1.at_ a_e))) (J2 (a_p))) (λq1=>some (false,q1))

def zcG (a_s:GNps) (zaV:Str):Option (Bool × GNps) :=
 cal (zbN a_s) λy1=>jp (ι:=Bool) (λJ4=>br (!decide (y1.1.kind=(5:Int))) (J4 ((!decide (y1.1.kind=(6:Int))))) (J4 (false))) (λq3=>jp (ι:=Bool) (λJ7=>br q3 (J7 (true)) (J7 ((!decide (y1.1.text=zaV))))) (λq6=>br q6 (some (false,y1.2)) (ck ((y1.2.stream.i + (1:Int))) <| some (true,(GNps.mk { y1.2.stream with i:=(y1.2.stream.i + (1:Int)) } y1.2.t y1.2.at_ y1.2.e)))))

def zbO (a_p:GNps) (zaV:Str):Option (Bool × GNps) :=
 cal (zcG a_p zaV) λy1=>jp (ι:=Bool × GNps) (λJ3=>br y1.1 (J3 (true,y1.2)) (cal (zbR y1.2 (7:Int)) λy5=>J3 (y5.1,y5.2))) (λq2=>some (q2.1,q2.2))

def zd6 (a_p:GNps) (ze1:Int):Option (Str × Bool × GNps) :=
 cal (zbN a_p) λy1=>br (!decide (y1.1.kind=ze1)) (cal (zbR y1.2 (7:Int)) λy3=>some ((Str.mk []),y3.1,y3.2)) (ck ((y1.2.stream.i + (1:Int))) <| some (y1.1.text,true,(GNps.mk { y1.2.stream with i:=(y1.2.stream.i + (1:Int)) } y1.2.t y1.2.at_ y1.2.e)))

def zez (a_p:GNps) (a_x:GTyp):Option (Int × Bool × GNps) :=
 cal (zbN a_p) λy1=>lp (ι:=Int) (λL4 q3=>br (decide (q3 < (a_x.items.length:Int))) (cal (getI a_x.items q3) λy13=>jp (ι:=Bool) (λJ16=>br (decide (y1.1.kind=(2:Int))) (J16 ((decide (y13.name=y1.1.text)))) (J16 (false))) (λq15=>br q15 (ck ((y1.2.stream.i + (1:Int))) <| some (y13.number,true,(GNps.mk { y1.2.stream with i:=(y1.2.stream.i + (1:Int)) } y1.2.t y1.2.at_ y1.2.e))) (ck ((q3 + (1:Int))) <| L4 ((q3 + (1:Int)))))) (cal (zbR y1.2 (7:Int)) λy20=>some ((0:Int),y20.1,y20.2))) (((0:Int)))

def zbx (a_c:UInt8):Option (UInt8) :=
 some ((a_c ||| (32:UInt8)))

def zd0 (a_s:Str) (zeO:Int) (zdn:Int):Option (UInt64 × Er) :=
 br (decide (a_s=(Str.mk []))) (none) (jp (ι:=Str × Int) (λJ2=>jp (ι:=Bool) (λJ4=>br (decide ((2:Int) <= zeO)) (J4 ((decide (zeO <= (36:Int))))) (J4 (false))) (λq3=>br q3 (J2 (a_s,zeO)) (br (decide (zeO=(0:Int))) (cal (getI a_s.b (0:Int)) λy6=>br (decide (y6=(48:UInt8))) (jp (ι:=Bool) (λJ8=>br (decide ((3:Int) <= (a_s.b.length:Int))) (cal (getI a_s.b (1:Int)) λy10=>cal (zbx y10) λy11=>J8 ((decide (y11=(98:UInt8))))) (J8 (false))) (λq7=>br q7 (asr (decide (0 <= (2:Int)/\(2:Int) <= (a_s.b.length:Int)/\(a_s.b.length:Int) <= (a_s.b.length:Int))) <| J2 ((Str.mk ((a_s.b.take ((a_s.b.length:Int)).toNat).drop ((2:Int)).toNat)),(2:Int))) (jp (ι:=Bool) (λJ14=>br (decide ((3:Int) <= (a_s.b.length:Int))) (cal (getI a_s.b (1:Int)) λy16=>cal (zbx y16) λy17=>J14 ((decide (y17=(111:UInt8))))) (J14 (false))) (λq13=>br q13 (asr (decide (0 <= (2:Int)/\(2:Int) <= (a_s.b.length:Int)/\(a_s.b.length:Int) <= (a_s.b.length:Int))) <| J2 ((Str.mk ((a_s.b.take ((a_s.b.length:Int)).toNat).drop ((2:Int)).toNat)),(8:Int))) (jp (ι:=Bool) (λJ20=>br (decide ((3:Int) <= (a_s.b.length:Int))) (cal (getI a_s.b (1:Int)) λy22=>cal (zbx y22) λy23=>J20 ((decide (y23=(120:UInt8))))) (J20 (false))) (λq19=>br q19 (asr (decide (0 <= (2:Int)/\(2:Int) <= (a_s.b.length:Int)/\(a_s.b.length:Int) <= (a_s.b.length:Int))) <| J2 ((Str.mk ((a_s.b.take ((a_s.b.length:Int)).toNat).drop ((2:Int)).toNat)),(16:Int))) (asr (decide (0 <= (1:Int)/\(1:Int) <= (a_s.b.length:Int)/\(a_s.b.length:Int) <= (a_s.b.length:Int))) <| J2 ((Str.mk ((a_s.b.take ((a_s.b.length:Int)).toNat).drop ((1:Int)).toNat)),(8:Int))))))))) (J2 (a_s,(10:Int)))) (none)))) (λq1=>jp (ι:=Int) (λJ27=>br (decide (zdn=(0:Int))) (J27 ((64:Int))) (jp (ι:=Bool) (λJ29=>br (decide (zdn < (0:Int))) (J29 (true)) (J29 ((decide ((64:Int) < zdn))))) (λq28=>br q28 (none) (J27 (zdn))))) (λq26=>jp (ι:=UInt64) (λJ32=>br (decide (q1.2=(10:Int))) (J32 ((1844674407370955162:UInt64))) (br (decide (q1.2=(16:Int))) (J32 ((1152921504606846976:UInt64))) (asr (!decide ((UInt64.ofNat (q1.2 % 18446744073709551616).toNat)=0)) <| J32 ((((18446744073709551615:UInt64) / (UInt64.ofNat (q1.2 % 18446744073709551616).toNat)) + (1:UInt64)))))) (λq31=>asr (Nat.ble (UInt64.ofNat (q26 % 18446744073709551616).toNat).toNat 64) <| asr (Nat.ble q1.1.b.length 68719476736) <| lp (ι:=Bool × UInt64 × Int) (λL37 q36=>br (decide (q36.2.2 < (q1.1.b.length:Int))) (jp (ι:=Bool × UInt64) (λJ60=>cal (getI q1.1.b q36.2.2) λy61=>jp (ι:=UInt8) (λJ63=>jp (ι:=Bool) (λJ65=>br (decide (y61=(95:UInt8))) (J65 ((decide (zeO=(0:Int))))) (J65 (false))) (λq64=>br q64 (J60 (true,q36.2.1)) (jp (ι:=Bool) (λJ68=>br (decide ((48:UInt8) <= y61)) (J68 ((decide (y61 <= (57:UInt8))))) (J68 (false))) (λq67=>br q67 (J63 ((y61 - (48:UInt8)))) (cal (zbx y61) λy70=>jp (ι:=Bool) (λJ72=>br (decide ((97:UInt8) <= y70)) (cal (zbx y61) λy74=>J72 ((decide (y74 <= (122:UInt8))))) (J72 (false))) (λq71=>br q71 (cal (zbx y61) λy75=>J63 (((y75 - (97:UInt8)) + (10:UInt8)))) (none))))))) (λq62=>br (decide ((UInt8.ofNat (q1.2 % 256).toNat) <= q62)) (none) (br (decide (q31 <= q36.2.1)) (none) (jp (ι:=Bool) (λJ77=>br (decide (((q36.2.1 * (UInt64.ofNat (q1.2 % 18446744073709551616).toNat)) + q62.toUInt64) < (q36.2.1 * (UInt64.ofNat (q1.2 % 18446744073709551616).toNat)))) (J77 (true)) (J77 ((decide (((shl64 (1:UInt64) (UInt64.ofNat (q26 % 18446744073709551616).toNat).toNat) - (1:UInt64)) < ((q36.2.1 * (UInt64.ofNat (q1.2 % 18446744073709551616).toNat)) + q62.toUInt64)))))) (λq76=>br q76 (none) (J60 (q36.1,((q36.2.1 * (UInt64.ofNat (q1.2 % 18446744073709551616).toNat)) + q62.toUInt64)))))))) (λq59=>ck ((q36.2.2 + (1:Int))) <| L37 (q59.1,q59.2,(q36.2.2 + (1:Int))))) (jp (ι:=Bool) (λJ81=>br q36.1 (none) (J81 (false))) (λq80=>br q80 (none) (some (q36.2.1,(Er.mk false)))))) ((false,(0:UInt64),(0:Int)))))))

def zdJ (a_s:Str) (zeO:Int) (zdn:Int):Option (UInt64 × Er) :=
 cal (zd0 a_s zeO zdn) λy1=>br y1.2.bad (none) (some (y1.1,(Er.mk false)))

def zdV (a_s:Str):Option ((List UInt8)) :=
 lp (ι:=(List UInt8) × Int) (λL2 q1=>ck ((q1.2 + (1:Int))) <| br (decide ((q1.2 + (1:Int)) < (a_s.b.length:Int))) (ck ((q1.2 + (2:Int))) <| asr (decide (0 <= q1.2/\q1.2 <= (q1.2 + (2:Int))/\(q1.2 + (2:Int)) <= (a_s.b.length:Int))) <| cal (zdJ (Str.mk ((a_s.b.take ((q1.2 + (2:Int))).toNat).drop (q1.2).toNat)) (16:Int) (8:Int)) λy14=>asr (Nat.ble (q1.1.length + ([y14.1.toUInt8]:(List UInt8)).length) 68719476736) <| ck ((q1.2 + (2:Int))) <| L2 ((q1.1 ++ ([y14.1.toUInt8]:(List UInt8))),(q1.2 + (2:Int)))) (some (q1.1))) ((([]:(List UInt8)),(0:Int)))

def zdE (a_p:GNps) (a_l:(List GFld)) (zfe:Int):Option (Int × Bool × GNps) :=
 cal (zbN a_p) λy1=>lp (ι:=Int) (λL4 q3=>jp (ι:=Bool) (λJ13=>br (decide (q3 < (a_l.length:Int))) (J13 ((decide (y1.1.kind=(2:Int))))) (J13 (false))) (λq12=>br q12 (cal (getI a_l q3) λy15=>br (decide (y15.name=y1.1.text)) (ck ((y1.2.stream.i + (1:Int))) <| some (q3,true,(GNps.mk { y1.2.stream with i:=(y1.2.stream.i + (1:Int)) } y1.2.t y1.2.at_ y1.2.e))) (ck ((q3 + (1:Int))) <| L4 ((q3 + (1:Int))))) (cal (zbR y1.2 (7:Int)) λy18=>some ((0:Int),y18.1,y18.2)))) ((zfe))

def zc6 (zS:GNps->GTyp->Int->Val->Option (Bool × GNps × Val)) (zZ:GNps->Int->Int->Option (Val × Bool × GNps)) (zab:GNps->GTyp->Int->Val->Option (Bool × GNps × Val)) (zac:GNps->GTyp->Val->Int->Option (Bool × GNps × Val)) (zR:GNps->GTyp->Int->Int->Val->Option (Bool × GNps × Int × Val)) (zM:GNps->GTyp->Int->Int->Val->Option (Bool × GNps × Int × Val)) (a_a0:GNps) (a_a1:GTyp) (a_a2:Int) (a_a3:Val):Option (Bool × GNps × Val) :=
 ck ((a_a2 + (1:Int))) <| cal (zZ a_a0 a_a1.of (a_a2 + (1:Int))) λy3=>jp (ι:=Val) (λJ6=>asr (Nat.ble (a_a3.l.length + ([(Val.mk (0:Int) (0:Int) ([]:(List UInt8)) ([]:(List Val)) (0:Int) ([]:(List Raw)))]:(List Val)).length) 68719476736) <| asr (decide (0 <= ((a_a3.l.length:Nat):Int)/\((a_a3.l.length:Nat):Int) < (((a_a3.l ++ ([(Val.mk (0:Int) (0:Int) ([]:(List UInt8)) ([]:(List Val)) (0:Int) ([]:(List Raw)))]:(List Val))).length:Nat):Int))) <| cal ((a_a3.l ++ ([(Val.mk (0:Int) (0:Int) ([]:(List UInt8)) ([]:(List Val)) (0:Int) ([]:(List Raw)))]:(List Val)))[((a_a3.l.length:Nat):Int).toNat]?) λy11=>J6 ((Val.mk a_a3.kind a_a3.n a_a3.b ((a_a3.l ++ ([(Val.mk (0:Int) (0:Int) ([]:(List UInt8)) ([]:(List Val)) (0:Int) ([]:(List Raw)))]:(List Val))).set (((a_a3.l.length:Nat):Int).toNat) y3.1) a_a3.rule a_a3.more))) (λq5=>some (y3.2.1,y3.2.2,q5))
def zda (zS:GNps->GTyp->Int->Val->Option (Bool × GNps × Val)) (zZ:GNps->Int->Int->Option (Val × Bool × GNps)) (zab:GNps->GTyp->Int->Val->Option (Bool × GNps × Val)) (zac:GNps->GTyp->Val->Int->Option (Bool × GNps × Val)) (zR:GNps->GTyp->Int->Int->Val->Option (Bool × GNps × Int × Val)) (zM:GNps->GTyp->Int->Int->Val->Option (Bool × GNps × Int × Val)) (a_p:GNps) (a_i:Int) (zJ:Int):Option (Val × Bool × GNps) :=
 br (decide ((16:Int) < zJ)) (cal (zbR a_p (5:Int)) λy2=>some ((Val.mk (0:Int) (0:Int) ([]:(List UInt8)) ([]:(List Val)) (0:Int) ([]:(List Raw))),y2.1,y2.2)) (jp (ι:=Bool) (λJ4=>br (decide (a_i < (0:Int))) (J4 (true)) (J4 ((decide ((a_p.t.types.length:Int) <= a_i))))) (λq3=>br q3 (cal (zbR a_p (9:Int)) λy6=>some ((Val.mk (0:Int) (0:Int) ([]:(List UInt8)) ([]:(List Val)) (0:Int) ([]:(List Raw))),y6.1,y6.2)) (cal (getI a_p.t.types a_i) λy7=>jp (ι:=Bool × Val × GNps) (λJ13=>br (decide (y7.kind=(1:Int))) (cal (zcG a_p (Str.mk [84,82,85,69])) λy14=>br y14.1 (J13 (y14.1,(Val.mk y7.kind (1:Int) ([]:(List UInt8)) ([]:(List Val)) (0:Int) ([]:(List Raw))),y14.2)) (cal (zbO y14.2 (Str.mk [70,65,76,83,69])) λy15=>J13 (y15.1,(Val.mk y7.kind (0:Int) ([]:(List UInt8)) ([]:(List Val)) (0:Int) ([]:(List Raw))),y15.2))) (br (decide (y7.kind=(4:Int))) (cal (zbO a_p (Str.mk [78,85,76,76])) λy16=>J13 (y16.1,(Val.mk y7.kind (0:Int) ([]:(List UInt8)) ([]:(List Val)) (0:Int) ([]:(List Raw))),y16.2)) (br (decide (y7.kind=(2:Int))) (cal (zd6 a_p (3:Int)) λy17=>cal (zbj y17.1 (10:Int) (64:Int)) λy18=>J13 (y17.2.1,(Val.mk y7.kind y18.1 ([]:(List UInt8)) ([]:(List Val)) (0:Int) ([]:(List Raw))),y17.2.2)) (br (decide (y7.kind=(3:Int))) (cal (zez a_p y7) λy19=>J13 (y19.2.1,(Val.mk y7.kind y19.1 ([]:(List UInt8)) ([]:(List Val)) (0:Int) ([]:(List Raw))),y19.2.2)) (br (decide (y7.kind=(5:Int))) (cal (zd6 a_p (4:Int)) λy20=>cal (zdV y20.1) λy21=>J13 (y20.2.1,(Val.mk y7.kind (0:Int) y21 ([]:(List Val)) (0:Int) ([]:(List Raw))),y20.2.2)) (br (decide (y7.kind=(6:Int))) (cal (zd6 a_p (7:Int)) λy22=>asr (Nat.ble y22.1.b.length 68719476736) <| J13 (y22.2.1,(Val.mk y7.kind (0:Int) y22.1.b ([]:(List Val)) (0:Int) ([]:(List Raw))),y22.2.2)) (br (decide (y7.kind=(10:Int))) (cal (zab a_p y7 zJ (Val.mk y7.kind (0:Int) ([]:(List UInt8)) ([]:(List Val)) (0:Int) ([]:(List Raw)))) λy24=>J13 (y24.1,y24.2.2,y24.2.1)) (br (decide (y7.kind=(9:Int))) (cal (zdE a_p y7.fields (0:Int)) λy26=>jp (ι:=Bool × GNps) (λJ28=>br y26.2.1 (cal (zbO y26.2.2 (Str.mk [58])) λy30=>J28 (y30.1,y30.2)) (J28 (false,y26.2.2))) (λq27=>br q27.1 (cal (getI y7.fields y26.1) λy32=>ck ((zJ + (1:Int))) <| cal (zZ q27.2 y32.ty (zJ + (1:Int))) λy34=>J13 (y34.2.1,(Val.mk y7.kind y26.1 ([]:(List UInt8)) ([y34.1]:(List Val)) (0:Int) ([]:(List Raw))),y34.2.2)) (J13 (y26.2.1,(Val.mk y7.kind (0:Int) ([]:(List UInt8)) ([]:(List Val)) (0:Int) ([]:(List Raw))),q27.2)))) (jp (ι:=Bool) (λJ38=>br (decide (y7.kind=(7:Int))) (J38 ((decide (y7.kind=(7:Int))))) (J38 ((decide (y7.kind=(8:Int)))))) (λq37=>br q37 (cal (zac a_p y7 (Val.mk y7.kind (0:Int) ([]:(List UInt8)) ([]:(List Val)) (0:Int) ([]:(List Raw))) zJ) λy39=>J13 (y39.1,y39.2.2,y39.2.1)) (J13 (false,(Val.mk y7.kind (0:Int) ([]:(List UInt8)) ([]:(List Val)) (0:Int) ([]:(List Raw))),a_p)))))))))))) (λq12=>jp (ι:=Bool) (λJ46=>br q12.1 (J46 ((decide (q12.2.2.e=(0:Int))))) (J46 (false))) (λq45=>some (q12.2.1,q45,q12.2.2))))))
def zdt (zS:GNps->GTyp->Int->Val->Option (Bool × GNps × Val)) (zZ:GNps->Int->Int->Option (Val × Bool × GNps)) (zab:GNps->GTyp->Int->Val->Option (Bool × GNps × Val)) (zac:GNps->GTyp->Val->Int->Option (Bool × GNps × Val)) (zR:GNps->GTyp->Int->Int->Val->Option (Bool × GNps × Int × Val)) (zM:GNps->GTyp->Int->Int->Val->Option (Bool × GNps × Int × Val)) (a_p:GNps) (zek:GTyp) (zcI:Int) (ze6:Val):Option (Bool × GNps × Val) :=
 cal (zbO a_p (Str.mk [123])) λy2=>br (!y2.1) (some (false,y2.2,ze6)) (cal (zcG y2.2 (Str.mk [125])) λy3=>br y3.1 (some (true,y3.2,ze6)) (lp (ι:=GNps × Val) (λL5 q4=>cal (zS q4.1 zek zcI q4.2) λy10=>br (!y10.1) (some (false,y10.2.1,y10.2.2)) (cal (zcG y10.2.1 (Str.mk [44])) λy12=>br (!y12.1) (cal (zbO y12.2 (Str.mk [125])) λy13=>some (y13.1,y13.2,y10.2.2)) (L5 (y12.2,y10.2.2)))) ((y3.2,ze6))))
def zdA (zS:GNps->GTyp->Int->Val->Option (Bool × GNps × Val)) (zZ:GNps->Int->Int->Option (Val × Bool × GNps)) (zab:GNps->GTyp->Int->Val->Option (Bool × GNps × Val)) (zac:GNps->GTyp->Val->Int->Option (Bool × GNps × Val)) (zR:GNps->GTyp->Int->Int->Val->Option (Bool × GNps × Int × Val)) (zM:GNps->GTyp->Int->Int->Val->Option (Bool × GNps × Int × Val)) (a_p:GNps) (a_x:GTyp) (a_v:Val) (zJ:Int):Option (Bool × GNps × Val) :=
 asr (decide (0 <= (a_x.fields.length:Int)/\(a_x.fields.length:Int) <= 68719476736)) <| cal (zR a_p a_x (0:Int) zJ (Val.mk a_v.kind a_v.n a_v.b (List.replicate ((a_x.fields.length:Int)).toNat (Val.mk (0:Int) (0:Int) ([]:(List UInt8)) ([]:(List Val)) (0:Int) ([]:(List Raw)))) a_v.rule a_v.more)) λy5=>some (y5.1,y5.2.1,y5.2.2.2)
def zc4 (zS:GNps->GTyp->Int->Val->Option (Bool × GNps × Val)) (zZ:GNps->Int->Int->Option (Val × Bool × GNps)) (zab:GNps->GTyp->Int->Val->Option (Bool × GNps × Val)) (zac:GNps->GTyp->Val->Int->Option (Bool × GNps × Val)) (zR:GNps->GTyp->Int->Int->Val->Option (Bool × GNps × Int × Val)) (zM:GNps->GTyp->Int->Int->Val->Option (Bool × GNps × Int × Val)) (a_p:GNps) (zek:GTyp) (zcI:Int) (ze6:Int) (zic:Val):Option (Bool × GNps × Int × Val) :=
 cal (zbO a_p (Str.mk [123])) λy2=>br (!y2.1) (some (false,y2.2,zcI,zic)) (cal (zcG y2.2 (Str.mk [125])) λy3=>br y3.1 (some (true,y3.2,zcI,zic)) (lp (ι:=GNps × Int × Val) (λL5 q4=>cal (zM q4.1 zek q4.2.1 ze6 q4.2.2) λy10=>br (!y10.1) (some (false,y10.2.1,y10.2.2.1,y10.2.2.2)) (cal (zcG y10.2.1 (Str.mk [44])) λy12=>br (!y12.1) (cal (zbO y12.2 (Str.mk [125])) λy13=>some (y13.1,y13.2,y10.2.2.1,y10.2.2.2)) (L5 (y12.2,y10.2.2.1,y10.2.2.2)))) ((y3.2,zcI,zic))))
def zcV (zS:GNps->GTyp->Int->Val->Option (Bool × GNps × Val)) (zZ:GNps->Int->Int->Option (Val × Bool × GNps)) (zab:GNps->GTyp->Int->Val->Option (Bool × GNps × Val)) (zac:GNps->GTyp->Val->Int->Option (Bool × GNps × Val)) (zR:GNps->GTyp->Int->Int->Val->Option (Bool × GNps × Int × Val)) (zM:GNps->GTyp->Int->Int->Val->Option (Bool × GNps × Int × Val)) (a_a0:GNps) (a_a1:GTyp) (a_a2:Int) (a_a3:Int) (a_a4:Val):Option (Bool × GNps × Int × Val) :=
 cal (zdE a_a0 a_a1.fields a_a2) λy2=>br (!y2.2.1) (some (false,y2.2.2,a_a2,a_a4)) (jp (ι:=Bool × Val × GNps) (λJ4=>cal (getI a_a1.fields y2.1) λy5=>ck ((a_a3 + (1:Int))) <| cal (zZ y2.2.2 y5.ty (a_a3 + (1:Int))) λy7=>J4 (y7.2.1,y7.1,y7.2.2)) (λq3=>cal (getI a_a1.fields y2.1) λy10=>jp (ι:=Bool) (λJ13=>br (!y10.has) (J13 (true)) (cal (zfV fuel q3.2.1 y10.dflt) λy15=>J13 ((!y15)))) (λq12=>jp (ι:=Val) (λJ17=>br q12 (asr (decide (0 <= y2.1/\y2.1 < ((a_a4.l.length:Nat):Int))) <| cal (a_a4.l[y2.1.toNat]?) λy19=>J17 ((Val.mk a_a4.kind a_a4.n a_a4.b (a_a4.l.set y2.1.toNat q3.2.1) a_a4.rule a_a4.more))) (J17 (a_a4))) (λq16=>ck ((y2.1 + (1:Int))) <| some (q3.1,q3.2.2,(y2.1 + (1:Int)),q16)))))
def zbA:Nat->(GNps->GTyp->Int->Val->Option (Bool × GNps × Val)) × (GNps->Int->Int->Option (Val × Bool × GNps)) × (GNps->GTyp->Int->Val->Option (Bool × GNps × Val)) × (GNps->GTyp->Val->Int->Option (Bool × GNps × Val)) × (GNps->GTyp->Int->Int->Val->Option (Bool × GNps × Int × Val)) × (GNps->GTyp->Int->Int->Val->Option (Bool × GNps × Int × Val))
 | 0=>(λ_ _ _ _=>none,λ_ _ _=>none,λ_ _ _ _=>none,λ_ _ _ _=>none,λ_ _ _ _ _=>none,λ_ _ _ _ _=>none)
 | n + 1=>let p:=zbA n;(zc6 p.1 p.2.1 p.2.2.1 p.2.2.2.1 p.2.2.2.2.1 p.2.2.2.2.2,zda p.1 p.2.1 p.2.2.1 p.2.2.2.1 p.2.2.2.2.1 p.2.2.2.2.2,zdt p.1 p.2.1 p.2.2.1 p.2.2.2.1 p.2.2.2.2.1 p.2.2.2.2.2,zdA p.1 p.2.1 p.2.2.1 p.2.2.2.1 p.2.2.2.2.1 p.2.2.2.2.2,zc4 p.1 p.2.1 p.2.2.1 p.2.2.2.1 p.2.2.2.2.1 p.2.2.2.2.2,zcV p.1 p.2.1 p.2.2.1 p.2.2.2.1 p.2.2.2.2.1 p.2.2.2.2.2)
def zb0 (n:Nat):GNps->GTyp->Int->Val->Option (Bool × GNps × Val):=(zbA n).1
def zbc (n:Nat):GNps->Int->Int->Option (Val × Bool × GNps):=(zbA n).2.1
def zb3 (n:Nat):GNps->GTyp->Int->Val->Option (Bool × GNps × Val):=(zbA n).2.2.1
def zb2 (n:Nat):GNps->GTyp->Val->Int->Option (Bool × GNps × Val):=(zbA n).2.2.2.1
def zbW (n:Nat):GNps->GTyp->Int->Int->Val->Option (Bool × GNps × Int × Val):=(zbA n).2.2.2.2.1
def zbF (n:Nat):GNps->GTyp->Int->Int->Val->Option (Bool × GNps × Int × Val):=(zbA n).2.2.2.2.2

def zgM (a_t:GTab) (a_i:Int) (zaV:Str):Option (Val × Int × Int) :=
 cal (zhP zaV) λy2=>br (!decide (y2.2.2=(0:Int))) (some ((Val.mk (0:Int) (0:Int) ([]:(List UInt8)) ([]:(List Val)) (0:Int) ([]:(List Raw))),y2.2.1,y2.2.2)) (jp (ι:=Bool) (λJ4=>br (decide (a_i < (0:Int))) (J4 (true)) (J4 ((decide ((a_t.types.length:Int) <= a_i))))) (λq3=>br q3 (some ((Val.mk (0:Int) (0:Int) ([]:(List UInt8)) ([]:(List Val)) (0:Int) ([]:(List Raw))),(0:Int),(9:Int))) (cal (zbc fuel (GNps.mk (GStm.mk y2.1 (0:Int)) a_t (0:Int) (0:Int)) a_i (0:Int)) λy7=>jp (ι:=Bool × GNps) (λJ10=>br y7.2.1 (cal (zbN y7.2.2) λy12=>J10 ((!decide (y12.1.kind=(0:Int))),y12.2)) (J10 (false,y7.2.2))) (λq9=>jp (ι:=Bool × GNps) (λJ14=>br q9.1 (cal (zbR q9.2 (7:Int)) λy15=>J14 (y15.1,y15.2)) (J14 (y7.2.1,q9.2))) (λq13=>br (!q13.1) (some ((Val.mk (0:Int) (0:Int) ([]:(List UInt8)) ([]:(List Val)) (0:Int) ([]:(List Raw))),q13.2.at_,q13.2.e)) (cal (zeR a_t a_i y7.1) λy18=>br (!y18) (some ((Val.mk (0:Int) (0:Int) ([]:(List UInt8)) ([]:(List Val)) (0:Int) ([]:(List Raw))),(0:Int),(13:Int))) (some (y7.1,(0:Int),(0:Int)))))))))
end Go.Proofs.Q


namespace Go.Proofs.Q
open Go.Sy
set_option linter.unusedVariables false

inductive PR (α:Type)
 | ok (x:α) (r:List GTok)
 | bad (p e:Int)
def isW (t:GTok) (s:List UInt8):Bool:=(decide (t.kind=5) || decide (t.kind=6)) && decide (t.text=⟨s⟩)
def atp:List GTok->Int
 | []=>0
 | t :: _=>t.at_
def pIs (s:List UInt8):List GTok->Option (List GTok)
 | []=>none
 | t :: r=>bif isW t s then some r else none
def pOf (k:Int):List GTok->Option (Str × List GTok)
 | []=>none
 | t :: r=>bif decide (t.kind=k) then some (t.text,r) else none
def fidx (fs:List GFld) (s:Str):Nat->Nat->Option Nat
 | 0,_=>none
 | n + 1,k=>match fs[k]? with
  | some f=>bif decide (f.name=s) then some k else fidx fs s n (k + 1)
  | none=>none
def pFld (fs:List GFld) (k:Nat):List GTok->Option (Nat × List GTok)
 | []=>none
 | t :: r=>bif decide (t.kind=2) then (fidx fs t.text (fs.length - k) k).map λj=>(j,r) else none
def iidx (s:Str):List GItem->Option Int
 | []=>none
 | y :: l=>bif decide (y.name=s) then some y.number else iidx s l
def pItem (x:GTyp):List GTok->Option (Int × List GTok)
 | []=>none
 | t :: r=>bif decide (t.kind=2) then (iidx t.text x.items).map λj=>(j,r) else none
def numV (s:Str):Int:=match zbj s 10 64 with
 | some r=>r.1
 | none=>0
def octV (s:Str):List UInt8:=match zdV s with
 | some r=>r
 | none=>[]
def pItems (f:List GTok->PR Val):Nat->List GTok->List Val->PR (List Val)
 | 0,ts,_=>.bad (atp ts) 7
 | n + 1,ts,acc=>match f ts with
  | .bad p e=>.bad p e
  | .ok w r=>match pIs [44] r with
   | some r2=>pItems f n r2 (acc ++ [w])
   | none=>match pIs [125] r with
    | some r3=>.ok (acc ++ [w]) r3
    | none=>.bad (atp r) 7
open Classical in
/-- A field's value is laid, but for one that is the default. -/
noncomputable def putF (x:GFld) (j:Nat) (w:Val) (acc:List Val):List Val:=if x.has=true/\w=x.dflt then acc else acc.set j w
theorem zqs {x:GFld} {j:Nat} {w:Val} {acc:List Val} (h:x.has=false):putF x j w acc=acc.set j w:=by
 unfold putF;rw [if_neg (by rw [h];simp)]
theorem zr5 {x:GFld} {j:Nat} {w:Val} {acc:List Val} (h:w ≠ x.dflt):putF x j w acc=acc.set j w:=by
 unfold putF;rw [if_neg λk=>h k.2]
theorem zr2 {x:GFld} {j:Nat} {w:Val} {acc:List Val} (h:x.has=true) (k:w=x.dflt):putF x j w acc=acc:=by
 unfold putF;rw [if_pos ⟨h,k⟩]
noncomputable def pFlds (fs:List GFld) (f:Int->List GTok->PR Val):Nat->List GTok->Nat->List Val->PR (List Val)
 | 0,ts,_,_=>.bad (atp ts) 7
 | n + 1,ts,k,acc=>match pFld fs k ts with
  | none=>.bad (atp ts) 7
  | some (j,r0)=>match fs[j]? with
   | none=>.bad (atp ts) 7
   | some x=>match f x.ty r0 with
    | .bad p e=>.bad p e
    | .ok w r=>match pIs [44] r with
     | some r2=>pFlds fs f n r2 (j + 1) (putF x j w acc)
     | none=>match pIs [125] r with
      | some r3=>.ok (putF x j w acc) r3
      | none=>.bad (atp r) 7
def PR.map {α β:Type} (f:α->β):PR α->PR β
 | .ok x r=>.ok (f x) r
 | .bad p e=>.bad p e
def leafV (k n:Int) (b:List UInt8) (l:List Val):Val:=Val.mk k n b l 0 []
def pLst (f:List GTok->PR Val) (ts:List GTok):PR (List Val):=match pIs [123] ts with
 | none=>.bad (atp ts) 7
 | some r=>match pIs [125] r with
  | some r2=>.ok [] r2
  | none=>pItems f r.length r []
noncomputable def pSeq (fs:List GFld) (f:Int->List GTok->PR Val) (ts:List GTok):PR (List Val):=match pIs [123] ts with
 | none=>.bad (atp ts) 7
 | some r=>match pIs [125] r with
  | some r2=>.ok (List.replicate fs.length zeroV) r2
  | none=>pFlds fs f r.length r 0 (List.replicate fs.length zeroV)
noncomputable def pvK (f:Int->List GTok->PR Val) (x:GTyp) (ts:List GTok):PR Val :=
 if x.kind=1 then (match pIs [84,82,85,69] ts with
  | some r=>.ok (leafV 1 1 [] []) r
  | none=>match pIs [70,65,76,83,69] ts with
   | some r=>.ok (leafV 1 0 [] []) r
   | none=>.bad (atp ts) 7)
 else if x.kind=4 then (match pIs [78,85,76,76] ts with
  | some r=>.ok (leafV 4 0 [] []) r
  | none=>.bad (atp ts) 7)
 else if x.kind=2 then (match pOf 3 ts with
  | some (s,r)=>.ok (leafV 2 (numV s) [] []) r
  | none=>.bad (atp ts) 7)
 else if x.kind=3 then (match pItem x ts with
  | some (n,r)=>.ok (leafV 3 n [] []) r
  | none=>.bad (atp ts) 7)
 else if x.kind=5 then (match pOf 4 ts with
  | some (s,r)=>.ok (leafV 5 0 (octV s) []) r
  | none=>.bad (atp ts) 7)
 else if x.kind=6 then (match pOf 7 ts with
  | some (s,r)=>.ok (leafV 6 0 s.b []) r
  | none=>.bad (atp ts) 7)
 else if x.kind=10 then (PR.map (leafV 10 0 []) (pLst (f x.of) ts))
 else if x.kind=9 then (match pFld x.fields 0 ts with
  | none=>.bad (atp ts) 7
  | some (j,r)=>match pIs [58] r with
   | none=>.bad (atp r) 7
   | some r2=>match x.fields[j]? with
    | none=>.bad (atp r) 7
    | some y=>PR.map (λw=>leafV 9 (j:Int) [] [w]) (f y.ty r2))
 else (PR.map (leafV x.kind 0 []) (pSeq x.fields f ts))
noncomputable def pv:Nat->List GTyp->Int->List GTok->PR Val
 | 0,_,_,ts=>.bad (atp ts) 5
 | h + 1,l,i,ts=>match l[i.toNat]? with
  | none=>.bad (atp ts) 9
  | some x=>pvK (pv h l) x ts
theorem zsi {h:Nat} {l:List GTyp} {i:Int} {x:GTyp} (hx:l[i.toNat]?=some x) (ts:List GTok):pv (h + 1) l i ts=pvK (pv h l) x ts:=by
 show (match l[i.toNat]? with | none=>_ | some x=>_)=_
 rw [hx]

/-! ### Where it stands -/
/-- From a place on these signs stand; the last one is the end. -/
structure Sd (L:List GTok) (a:Int) (ts:List GTok):Prop where
 a0:0 <= a
 len:L.length <= 9000
 dr:L.drop a.toNat=ts
 ends:∃ l t,ts=l ++ [t]/\t.kind=0
theorem Sd.cons {L a ts} (h:Sd L a ts):∃ t r,ts=t :: r/\getI L a=some t/\a.toNat + ts.length=L.length/\(t.kind ≠ 0->Sd L (a + 1) r):=by
 obtain ⟨l,e,h1,h2⟩:=h.ends
 have hd:=h.dr
 cases ts with
 | nil=>cases l <;> cases h1
 | cons t r =>
  have hlen:a.toNat + (t :: r).length=L.length:=by
   have:=congrArg List.length hd
   rw [zLd,zLc] at this
   rw [zLc];omega
  refine ⟨t,r,rfl,?_,hlen,λhk=>⟨by have:=h.a0;omega,h.len,?_,?_⟩⟩
  ·have e:L[a.toNat]?=some t:=by
    have:=List.getElem?_drop (xs:=L) (i:=a.toNat) (j:=0)
    rw [hd] at this
    simpa using this.symm
   unfold getI
   have h0:=h.a0
   cases a with
   | ofNat n=>exact e
   | negSucc n=>omega
  ·have e:(a + 1).toNat=a.toNat + 1:=by have:=h.a0;omega
   rw [e,<- List.drop_drop,hd];rfl
  ·cases l with
   | nil =>
    injection h1 with h1 h3
    subst h1;exact absurd h2 hk
   | cons y l =>
    injection h1 with h1 h3
    exact ⟨l,e,h3,h2⟩
theorem zty {s:List UInt8} {ts r:List GTok} (h:pIs s ts=some r):∃ t,ts=t :: r/\isW t s=true:=by
 cases ts with
 | nil=>cases h
 | cons t r' =>
  change (bif isW t s then some r' else none)=some r at h
  cases hb:isW t s with
  | true=>rw [hb,zCt] at h;cases h;exact ⟨t,rfl,hb⟩
  | false=>rw [hb,zCf] at h;cases h
theorem zuv {t:GTok} {s:List UInt8} (h:isW t s=true):t.kind ≠ 0:=by
 unfold isW at h
 rw [zBa,Bool.or_eq_true] at h
 rcases h.1 with h | h
 ·have:=zOT h;omega
 ·have:=zOT h;omega
theorem Sd.is {L a ts r s} (h:Sd L a ts) (hs:pIs s ts=some r):Sd L (a + 1) r/\r.length + 1=ts.length:=by
 obtain ⟨t,e,hw⟩:=zty hs
 obtain ⟨t',r',e',_,_,h2⟩:=h.cons
 subst e
 cases e'
 exact ⟨h2 (zuv hw),rfl⟩
theorem zth {k:Int} {s:Str} {ts r:List GTok} (h:pOf k ts=some (s,r)):∃ t,ts=t :: r/\t.kind=k/\t.text=s:=by
 cases ts with
 | nil=>cases h
 | cons t r' =>
  change (bif decide (t.kind=k) then some (t.text,r') else none)=some (s,r) at h
  cases hb:decide (t.kind=k) with
  | true=>rw [hb,zCt] at h;cases h;exact ⟨t,rfl,zOT hb,rfl⟩
  | false=>rw [hb,zCf] at h;cases h
theorem Sd.next {L a ts t r} (h:Sd L a ts) (e:ts=t :: r) (hk:t.kind ≠ 0):Sd L (a + 1) r/\r.length + 1=ts.length:=by
 obtain ⟨t',r',e',_,_,h2⟩:=h.cons
 subst e
 cases e'
 exact ⟨h2 hk,rfl⟩

section small
variable {L:List GTok} {a:Int} {ts:List GTok} {t:GTab} {p:Int}
def st (L:List GTok) (t:GTab) (p:Int) (a:Int):GNps:=⟨⟨L,a⟩,t,p,0⟩
theorem zlk (h:Sd L a ts) (e:Int):zbR (st L t p a) e=some (false,⟨⟨L,a⟩,t,atp ts,e⟩):=by
 obtain ⟨y,r,e1,e2,_⟩:=h.cons
 refine T.eqs ?_
 unfold zbR
 refine T.jp0 (T.br (λ_=>T.eq (y:=(y,st L t p a)) ?_ (T.some ?_)) λh=>by cases h)
 ·unfold zbN
  exact (T.eqs (T.eq e2 (T.some rfl)))
 ·subst e1;rfl
theorem znI (h:Sd L a ts):∃ y r,ts=y :: r/\zbN (st L t p a)=some (y,st L t p a):=by
 obtain ⟨y,r,e1,e2,_⟩:=h.cons
 refine ⟨y,r,e1,?_⟩
 unfold zbN
 exact (T.eqs (T.eq e2 (T.some rfl)))
theorem zs7 (h:Sd L a ts) (s:List UInt8):zcG (st L t p a) ⟨s⟩=some (match pIs s ts with | some _=>(true,st L t p (a + 1)) | none=>(false,st L t p a)):=by
 obtain ⟨y,r,e1,e2,e3,_⟩:=h.cons
 have ha:=h.a0
 have hl:=h.len
 obtain ⟨y',r',e1',e4⟩:=znI (t:=t) (p:=p) h
 rw [e1] at e1';cases e1'
 refine T.eqs ?_
 unfold zcG
 refine T.eq e4 ?_
 have hw:isW y s=!((!decide (y.kind=5) && !decide (y.kind=6)) || !decide (y.text=⟨s⟩)):=by
  unfold isW
  cases decide (y.kind=5) <;> cases decide (y.kind=6) <;> cases decide (y.text=⟨s⟩) <;> rfl
 refine T.and' (T.or' (T.br (λhb=>?_) λhb=>?_))
 ·rw [hb] at hw
  subst e1
  have:pIs s (y :: r)=none:=by show (bif isW y s then some r else none)=_;rw [hw];rfl
  rw [this];exact T.some rfl
 ·rw [hb] at hw
  subst e1
  have:pIs s (y :: r)=some r:=by show (bif isW y s then some r else none)=_;rw [hw];rfl
  rw [this]
  refine T.ck ?_ (T.some rfl)
  show _ <= a + 1/\a + 1 <= _
  rw [zLc] at e3;omega
theorem zlt (h:Sd L a ts) (s:List UInt8):zbO (st L t p a) ⟨s⟩=some (match pIs s ts with | some _=>(true,st L t p (a + 1)) | none=>(false,⟨⟨L,a⟩,t,atp ts,7⟩)):=by
 refine T.eqs ?_
 unfold zbO
 refine T.eq (zs7 h s) ?_
 cases hp:pIs s ts with
 | some r=>exact T.jp0 (T.br (λ_=>T.some rfl) λh=>by cases h)
 | none=>exact T.jp0 (T.br (λh=>by cases h) λ_=>T.eq (zlk h 7) (T.some rfl))
theorem zvW (h:Sd L a ts) (k:Int):zd6 (st L t p a) k=some (match pOf k ts with | some (s,_)=>(s,true,st L t p (a + 1)) | none=>(⟨[]⟩,false,⟨⟨L,a⟩,t,atp ts,7⟩)):=by
 obtain ⟨y,r,e1,e2,e3,_⟩:=h.cons
 have ha:=h.a0
 have hl:=h.len
 obtain ⟨y',r',e1',e4⟩:=znI (t:=t) (p:=p) h
 rw [e1] at e1';cases e1'
 refine T.eqs ?_
 unfold zd6
 refine T.eq e4 (T.br (λhb=>?_) λhb=>?_)
 ·have:pOf k ts=none:=by subst e1;show (bif decide (y.kind=k) then some (y.text,r) else none)=_;rw [show decide (y.kind=k)=false by simpa using hb];rfl
  rw [this]
  exact T.eq (zlk h 7) (T.some rfl)
 ·have:pOf k ts=some (y.text,r):=by subst e1;show (bif decide (y.kind=k) then some (y.text,r) else none)=_;rw [show decide (y.kind=k)=true by simpa using hb];rfl
  rw [this]
  refine T.ck ?_ (T.some rfl)
  show _ <= a + 1/\a + 1 <= _
  rw [e1,zLc] at e3;omega
theorem zrT {fs:List GFld} {s:Str}:∀ {n k j:Nat},fidx fs s n k=some j->k <= j/\∃ f,fs[j]?=some f/\f.name=s:=by
 intro n
 induction n with
 | zero=>intro k j h;cases h
 | succ n ih =>
  intro k j h
  change (match fs[k]? with | some f=>(bif decide (f.name=s) then some k else fidx fs s n (k + 1)) | none=>none)=some j at h
  cases hf:fs[k]? with
  | none=>rw [hf] at h;cases h
  | some f =>
   rw [hf] at h
   dsimp only at h
   cases hb:decide (f.name=s) with
   | true=>rw [hb,zCt] at h;cases h;exact ⟨zNl _,f,hf,zOT hb⟩
   | false =>
    rw [hb,zCf] at h
    obtain ⟨h1,h2⟩:=ih h
    exact ⟨by omega,h2⟩
theorem zsk (h:Sd L a ts) (fs:List GFld) (hfl:fs.length <= 1000000) (k:Nat) (hk:k <= 1000000):zdE (st L t p a) fs (k:Int)=some (match pFld fs k ts with | some (j,_)=>((j:Int),true,st L t p (a + 1)) | none=>(0,false,⟨⟨L,a⟩,t,atp ts,7⟩)):=by
 obtain ⟨y,r,e1,e2,e3,_⟩:=h.cons
 have ha:=h.a0
 have hl:=h.len
 obtain ⟨y',r',e1',e4⟩:=znI (t:=t) (p:=p) h
 rw [e1] at e1';cases e1'
 refine T.eqs ?_
 unfold zdE
 refine T.eq e4 ?_
 by_cases hk2:y.kind=2
 ·have e5:pFld fs k ts=(fidx fs y.text (fs.length - k) k).map λj=>(j,r):=by
   subst e1;show (bif decide (y.kind=2) then (fidx fs y.text (fs.length - k) k).map _ else none)=_;rw [zDT hk2];rfl
  rw [e5]
  refine T.lp (ι:=Int) (λq=>∃ m:Nat,q=(m:Int)/\k <= m/\(m <= fs.length \/ m=k)/\fidx fs y.text (fs.length - m) m=fidx fs y.text (fs.length - k) k) (λq=>((fs.length:Int) - q).toNat) ⟨k,rfl,zNl _,.inr rfl,rfl⟩ (by omega) λJ q ⟨m,e6,hm,hm2,e7⟩ hJ=>?_
  subst e6
  rw [zDT hk2]
  refine T.and' (T.br (λhb=>?_) λhb=>?_)
  ·rw [Bool.and_true] at hb
   have hb:=zOT hb
   refine T.get (by omega) (by omega) λf hf=>?_
   rw [Int.toNat_natCast] at hf
   have e8:fidx fs y.text (fs.length - m) m=bif decide (f.name=y.text) then some m else fidx fs y.text (fs.length - (m + 1)) (m + 1):=by
    rw [show fs.length - m=(fs.length - (m + 1)) + 1 by omega]
    show (match fs[m]? with | some f=>_ | none=>_)=_
    rw [hf]
   refine T.br (λhn=>?_) λhn=>T.ck (by omega) (hJ _ ⟨m + 1,by omega,by omega,by omega,?_⟩ (by omega))
   ·rw [hn,zCt] at e8
    rw [<- e7,e8]
    refine T.ck ?_ (T.some rfl)
    show _ <= a + 1/\a + 1 <= _
    rw [e1,zLc] at e3;omega
   ·rw [hn,zCf] at e8
    rw [<- e7,e8]
  ·rw [Bool.and_true] at hb
   have hb:=zOF hb
   rw [<- e7,show fs.length - m=0 by omega]
   exact T.eq (zlk h 7) (T.some rfl)
 ·have e5:pFld fs k ts=none:=by subst e1;show (bif decide (y.kind=2) then (fidx fs y.text (fs.length - k) k).map _ else none)=_;rw [zDF hk2];rfl
  rw [e5]
  refine T.lp (ι:=Int) (λq=>q=(k:Int)) (λq=>0) rfl (by omega) λJ q _ hJ=>?_
  rw [zDF hk2]
  refine T.and' (T.br (λhb=>by simp at hb) λhb=>?_)
  exact T.eq (zlk h 7) (T.some rfl)
theorem zwa (h:Sd L a ts) (x:GTyp) (hil:x.items.length <= 1000000):zez (st L t p a) x=some (match pItem x ts with | some (n,_)=>(n,true,st L t p (a + 1)) | none=>(0,false,⟨⟨L,a⟩,t,atp ts,7⟩)):=by
 obtain ⟨y,r,e1,e2,e3,_⟩:=h.cons
 have ha:=h.a0
 have hl:=h.len
 obtain ⟨y',r',e1',e4⟩:=znI (t:=t) (p:=p) h
 rw [e1] at e1';cases e1'
 refine T.eqs ?_
 unfold zez
 refine T.eq e4 ?_
 refine T.lp (ι:=Int) (λq=>0 <= q/\q <= (x.items.length:Int)/\(y.kind=2->iidx y.text (x.items.drop q.toNat)=iidx y.text x.items)) (λq=>((x.items.length:Int) - q).toNat) ⟨zIl _,by omega,λ_=>rfl⟩ (by omega) λJ q ⟨q0,q1,q2⟩ hJ=>T.br (λhb=>?_) λhb=>?_
 ·have hb:=zOT hb
  refine T.get q0 hb λit hit=>T.and' ?_
  have hd:x.items.drop q.toNat=it :: x.items.drop (q.toNat + 1):=by
   obtain ⟨h1,h2⟩:=List.getElem?_eq_some_iff.1 hit
   rw [List.drop_eq_getElem_cons h1,h2]
  refine T.br (λhn=>?_) λhn=>T.ck (by omega) (hJ _ ⟨by omega,by omega,λhk=>?_⟩ (by omega))
  ·rw [zBa] at hn
   have hk:=zOT hn.1
   have e5:pItem x ts=some (it.number,r):=by
    subst e1;show (bif decide (y.kind=2) then (iidx y.text x.items).map _ else none)=_
    rw [hn.1,zCt,<- q2 hk,hd]
    show Option.map _ (bif decide (it.name=y.text) then _ else _)=_
    rw [hn.2];rfl
   rw [e5]
   refine T.ck ?_ (T.some rfl)
   show _ <= a + 1/\a + 1 <= _
   rw [e1,zLc] at e3;omega
  ·rw [zDT hk,Bool.true_and] at hn
   rw [<- q2 hk,hd,show (q + 1).toNat=q.toNat + 1 by omega]
   show _=(bif decide (it.name=y.text) then _ else _)
   rw [hn];rfl
 ·have hb:=zOF hb
  have e5:pItem x ts=none:=by
   subst e1;show (bif decide (y.kind=2) then (iidx y.text x.items).map _ else none)=_
   cases hk:decide (y.kind=2) with
   | false=>rfl
   | true =>
    rw [zCt,<- q2 (zOT hk),zDn (by omega)];rfl
  rw [e5]
  exact T.eq (zlk h 7) (T.some rfl)
end small
end Go.Proofs.Q


namespace Go.Proofs.Q
open Go.Sy
set_option linter.unusedVariables false

structure TOk (l:List GTyp):Prop where
 len:l.length <= 1000
 fl:∀ x ∈ l,x.fields.length <= 1000
 il:∀ x ∈ l,x.items.length <= 100000
 kf:∀ x ∈ l,∀ f ∈ x.fields,0 <= f.ty/\f.ty < l.length
 ko:∀ x ∈ l,x.kind=10->0 <= x.of/\x.of < l.length
 kd:∀ x ∈ l,1 <= x.kind/\x.kind <= 10
structure TokG (t:GTok):Prop where
 len:t.text.b.length <= 9000
 num:t.kind=3->∃ r,zbj t.text 10 64=some r
 hex:t.kind=4->∃ r,zdV t.text=some r/\r.length <= 9000
theorem zee {k n:Int} {b:List UInt8} {l:List Val} (hb:b.length <= 68719476736) (hl:l.length <= 68719476736) (hk:∀ w ∈ l,Fine w):Fine (leafV k n b l) :=
 .mk hb hl (zNz _) (λr hr=>by cases hr) hk
theorem zg9 (k n:Int) (b:List UInt8) (l:List Val):cnt (leafV k n b l)=1 + (l.map cnt).sum:=zhm _
theorem ziI:Fine zeroV:=.mk (zNz _) (zNz _) (zNz _) (λr hr=>by cases hr) (λw hw=>by cases hw)
theorem zme:cnt zeroV=1:=by rw [zhm];rfl
theorem zrJ:∀ {l:List Val} {j:Nat} {w y:Val},l[j]?=some y->((l.set j w).map cnt).sum + cnt y=(l.map cnt).sum + cnt w
 | [],_,_,_,h=>by simp at h
 | x :: l,0,w,y,h=>by
  simp at h;subst h
  simp only [List.set_cons_zero,List.map_cons,List.sum_cons];omega
 | x :: l,j + 1,w,y,h=>by
  have:=zrJ (l:=l) (j:=j) (w:=w) (y:=y) (by simpa using h)
  simp only [List.set_cons_succ,List.map_cons,List.sum_cons];omega
theorem ztY {l:List Val} {j:Nat} {w x:Val} (h:x ∈ l.set j w):x ∈ l \/ x=w:=by
 rcases List.mem_or_eq_of_mem_set h with h | h
 ·exact .inl h
 ·exact .inr h
def VR (L:List GTok) (t:GTab) (p0:Int) (ts:List GTok):PR Val->(Val × Bool × GNps)->Prop
 | .ok v rest,r=>∃ a',r=(v,true,st L t p0 a')/\Sd L a' rest/\Fine v/\cnt v + 1000 * rest.length <= 1000 * ts.length
 | .bad p e,r=>r.2.1=false/\r.2.2.at_=p/\r.2.2.e=e/\e ≠ 0/\Fine r.1/\cnt r.1 <= 2000 * ts.length
def KR (L:List GTok) (t:GTab) (p0:Int) (ts:List GTok):PR Val->(Bool × Val × GNps)->Prop
 | .ok v rest,q=>∃ a',q=(true,v,st L t p0 a')/\Sd L a' rest/\Fine v/\cnt v + 1000 * rest.length <= 1000 * ts.length
 | .bad p e,q=>q.2.2.at_=p/\q.2.2.e=e/\e ≠ 0/\Fine q.2.1/\cnt q.2.1 <= 2000 * ts.length
def BX (v0:Val) (ts:List GTok) (v:Val):Prop:=∃ l,v=Val.mk v0.kind v0.n v0.b l v0.rule v0.more/\(∀ w ∈ l,Fine w)/\l.length <= 10000/\(l.map cnt).sum + 1 <= 2000 * ts.length
def BR (L:List GTok) (t:GTab) (p0:Int) (v0:Val) (ts:List GTok) (c0:Nat):PR (List Val)->(Bool × GNps × Val)->Prop
 | .ok l rest,r=>∃ a',r=(true,st L t p0 a',Val.mk v0.kind v0.n v0.b l v0.rule v0.more)/\Sd L a' rest/\(∀ w ∈ l,Fine w)/\l.length <= 10000/\(l.map cnt).sum + 1000 * rest.length + 1001 <= 1000 * ts.length + c0
 | .bad p e,r=>r.1=false/\r.2.1.at_=p/\r.2.1.e=e/\e ≠ 0/\BX v0 ts r.2.2
theorem zjJ (n:Nat):zbc (n + 1)=zda (zb0 n) (zbc n) (zb3 n) (zb2 n) (zbW n) (zbF n):=rfl
theorem zmp (n:Nat):zb3 (n + 1)=zdt (zb0 n) (zbc n) (zb3 n) (zb2 n) (zbW n) (zbF n):=rfl
theorem zpe (n:Nat):zb0 (n + 1)=zc6 (zb0 n) (zbc n) (zb3 n) (zb2 n) (zbW n) (zbF n):=rfl
theorem zmI (n:Nat):zb2 (n + 1)=zdA (zb0 n) (zbc n) (zb3 n) (zb2 n) (zbW n) (zbF n):=rfl
theorem zlY (n:Nat):zbW (n + 1)=zc4 (zb0 n) (zbc n) (zb3 n) (zb2 n) (zbW n) (zbF n):=rfl
theorem zor (n:Nat):zbF (n + 1)=zcV (zb0 n) (zbc n) (zb3 n) (zb2 n) (zbW n) (zbF n):=rfl
def Rd (L:List GTok) (t:GTab) (p0:Int) (f:List GTok->PR Val) (M:GNps->Option (Val × Bool × GNps)):Prop:=∀ a ts,Sd L a ts->T (VR L t p0 ts (f ts)) (M (st L t p0 a))
theorem zu2 {L : List GTok} {t:GTab} {p0:Int} {f:List GTok->PR Val} {n:Nat} {x:GTyp} {d:Int} {v0:Val} (hd:0 <= d/\d <= 100) (hf:Rd L t p0 f λs=>zbc n s x.of (d + 1)) {a:Int} {ts:List GTok} (h:Sd L a ts) (hv:v0.l=[]) :
    T (BR L t p0 v0 ts 0 (pLst f ts)) (zb3 (n + 2) (st L t p0 a) x d v0):=by
  obtain ⟨_,_,eT,_,_,_⟩:=h.cons
  have hts:1 <= ts.length:=by rw [eT,zLc];omega
  have bx0:BX v0 ts v0:=⟨[],by rw [<- hv,Val.eta],(λw hw=>by cases hw),zNz _,by simp only [List.map_nil,List.sum_nil];omega⟩
  rw [zmp]
  unfold zdt pLst
  refine T.eq (zlt h [123]) ?_
  cases h1:pIs [123] ts with
  | none=>exact T.br (λ_=>T.some ⟨rfl,rfl,rfl,by decide,bx0⟩) λh=>by cases h
  | some r =>
    obtain ⟨A1,l1⟩:=h.is h1
    refine T.br (λh=>by cases h) λ_=>T.eq (zs7 A1 [125]) ?_
    dsimp only
    cases h2:pIs [125] r with
    | some r2 =>
      obtain ⟨A2,l2⟩:=A1.is h2
      refine T.br (λ_=>T.some ⟨_,by rw [<- hv,Val.eta],A2,(λw hw=>by cases hw),zNz _,?_⟩) λh=>by cases h
      simp only [List.map_nil,List.sum_nil];omega
    | none =>
      refine T.br (λh=>by cases h) λ_=>?_
      have hlen:=A1.len
      obtain ⟨_,_,_,_,hrl,_⟩:=A1.cons
      refine T.lp (ι:=GNps × Val) (λq=>∃ a' ts' acc k,q=(st L t p0 a',Val.mk v0.kind v0.n v0.b acc v0.rule v0.more)/\Sd L a' ts'/\(∀ w ∈ acc,Fine w)/\acc.length + ts'.length <= r.length/\ts'.length <= k/\(acc.map cnt).sum + 1000 * ts'.length <= 1000 * r.length/\pItems f k ts' acc=pItems f r.length r [])
        (λq=>10000 - q.1.stream.i.toNat) ⟨a + 1,r,[],r.length,by rw [<- hv,Val.eta],A1,(λw hw=>by cases hw),by simp,zNl _,by simp,rfl⟩ (by dsimp only;omega) λJ q ⟨a',ts',acc,k,e1,A2,g1,g2,g3,g4,g5⟩ hJ=>?_
      subst e1
      obtain ⟨y0,r0,ey,_,hA2,_⟩:=A2.cons
      obtain ⟨k,rfl⟩:∃ k',k=k' + 1:=⟨k - 1,by rw [ey,zLc] at g3;omega⟩
      refine T.cal (Q:=λr1=>∃ w,r1.2.2=Val.mk v0.kind v0.n v0.b (acc ++ [w]) v0.rule v0.more/\Fine w/\cnt w <= 2000 * ts'.length/\match f ts' with
        | .ok w' rest=>w'=w/\∃ a2,r1.1=true/\r1.2.1=st L t p0 a2/\Sd L a2 rest/\cnt w + 1000 * rest.length <= 1000 * ts'.length
        | .bad p e=>r1.1=false/\r1.2.1.at_=p/\r1.2.1.e=e/\e ≠ 0) ?_ λr1 _ hr1=>?_
      · rw [zpe]
        unfold zc6
        refine T.ck (by omega) (T.cal (hf a' ts' A2) λy _ hy=>T.jp (λv=>v=Val.mk v0.kind v0.n v0.b (acc ++ [y.1]) v0.rule v0.more) (λJ2 k2=>?_) λv hv2=>T.some ?_)
        · refine T.abl (by simp only [Val.l_mk,zLs];omega) (T.asd (by simp only [Val.l_mk,zLa,zLs];omega) (T.eq (y:=zeroV) ?_ (k2 _ ?_)))
          · simp only [Val.l_mk,Int.toNat_natCast]
            rw [List.getElem?_append_right (zNl _),Nat.sub_self];rfl
          · simp only [Val.kind_mk,Val.n_mk,Val.b_mk,Val.l_mk,Val.rule_mk,Val.more_mk,Int.toNat_natCast]
            rw [List.set_append_right _ _ (zNl _),Nat.sub_self];rfl
        · subst hv2
          cases hfr:f ts' with
          | ok w rest =>
            rw [hfr] at hy
            obtain ⟨a2,e2,A3,F1,c1⟩:=hy
            subst e2
            exact ⟨w,rfl,F1,by omega,rfl,a2,rfl,rfl,A3,c1⟩
          | bad p e =>
            rw [hfr] at hy
            obtain ⟨z1,z2,z3,z4,z5,z6⟩:=hy
            exact ⟨y.1,rfl,z5,z6,z1,z2,z3,z4⟩
      · have eP : pItems f (k + 1) ts' acc=match f ts' with
            | .bad p e=>.bad p e
            | .ok w r=>match pIs [44] r with
              | some r2=>pItems f k r2 (acc ++ [w])
              | none=>match pIs [125] r with
                | some r3=>.ok (acc ++ [w]) r3
                | none=>.bad (atp r) 7:=rfl
        obtain ⟨w,ew,F1,c0,hr1⟩:=hr1
        have gacc:∀ w' ∈ acc ++ [w],Fine w':=λw' hw'=>by
          rcases List.mem_append.1 hw' with h | h
          · exact g1 w' h
          · rw [zMo.1 h];exact F1
        have gsum:((acc ++ [w]).map cnt).sum=(acc.map cnt).sum + cnt w:=by simp
        have glen:(acc ++ [w]).length=acc.length + 1:=by rw [zLa,zLs]
        have hts':1 <= ts'.length:=by rw [ey,zLc];omega
        have hbx:BX v0 ts r1.2.2:=⟨_,ew,gacc,by omega,by rw [gsum];omega⟩
        cases hfr:f ts' with
        | bad p e =>
          rw [hfr] at hr1
          obtain ⟨z1,z2,z3,z4⟩:=hr1
          refine T.br (λ_=>T.some (by rw [<- g5,eP,hfr];exact ⟨rfl,z2,z3,z4,hbx⟩)) λh=>by rw [z1] at h;cases h
        | ok w' rest =>
          rw [hfr] at hr1
          obtain ⟨z0,a2,e2,e3,A3,c1⟩:=hr1
          subst z0
          obtain ⟨_,_,ey3,_,hA3,_⟩:=A3.cons
          refine T.br (λh=>by rw [e2] at h;cases h) λ_=>?_
          rw [e3]
          refine T.eq (zs7 A3 [44]) ?_
          dsimp only
          have hcw:=zfz w'
          cases h3:pIs [44] rest with
          | some r2 =>
            obtain ⟨A4,l4⟩:=A3.is h3
            have ha4:=A4.a0
            refine T.br (λh=>by cases h) λ_=>?_
            rw [ew]
            refine hJ _ ⟨a2 + 1,r2,acc ++ [w'],k,rfl,A4,gacc,by omega,by omega,by rw [gsum];omega,by rw [<- g5,eP,hfr];dsimp only;rw [h3]⟩ ?_
            have:=A3.a0
            have:=A2.a0
            show 10000 - (a2 + 1).toNat < 10000 - a'.toNat
            omega
          | none =>
            refine T.br (λ_=>T.eq (zlt A3 [125]) ?_) λh=>by cases h
            cases h4:pIs [125] rest with
            | some r3 =>
              obtain ⟨A4,l4⟩:=A3.is h4
              refine T.some ?_
              rw [<- g5,eP,hfr]
              dsimp only
              rw [h3,h4]
              exact ⟨a2 + 1,by rw [ew],A4,gacc,by omega,by rw [gsum];omega⟩
            | none =>
              refine T.some ?_
              rw [<- g5,eP,hfr]
              dsimp only
              rw [h3,h4]
              exact ⟨rfl,rfl,rfl,by decide,hbx⟩
theorem zu7 {α:Type} (n c:Nat):(List.replicate n c).sum=n * c:=by
 induction n with
 | zero=>simp
 | succ n ih=>rw [List.replicate_succ,List.sum_cons,ih,Nat.succ_mul];omega
theorem zvV {L : List GTok} {t:GTab} {p0:Int} {f:Int->List GTok->PR Val} {n:Nat} {x:GTyp} {d:Int} {v0:Val} (hd:0 <= d/\d <= 100) (hfl:x.fields.length <= 1000) (hf:∀ y ∈ x.fields,Rd L t p0 (f y.ty) λs=>zbc n s y.ty (d + 1)) {a:Int} {ts:List GTok} (h:Sd L a ts) :
    T (BR L t p0 v0 ts x.fields.length (pSeq x.fields f ts)) (zb2 (n + 3) (st L t p0 a) x v0 d):=by
  obtain ⟨_,_,eT,_,_,_⟩:=h.cons
  have hts:1 <= ts.length:=by rw [eT,zLc];omega
  have hz0:((List.replicate x.fields.length zeroV).map cnt).sum=x.fields.length:=by
    rw [List.map_replicate,zme,zu7 (α:=Nat),Nat.mul_one]
  have hzf:∀ w ∈ List.replicate x.fields.length zeroV,Fine w:=λw hw=>by rw [(List.mem_replicate.1 hw).2];exact ziI
  have bx0:BX v0 ts (Val.mk v0.kind v0.n v0.b (List.replicate x.fields.length zeroV) v0.rule v0.more):=⟨_,rfl,hzf,by rw [List.length_replicate];omega,by rw [hz0];omega⟩
  rw [zmI]
  unfold zdA
  refine T.asd (by omega) (T.cal (Q:=λr=>match (pSeq x.fields f ts) with
    | .ok l rest=>∃ a' k',r=(true,st L t p0 a',k',Val.mk v0.kind v0.n v0.b l v0.rule v0.more)/\Sd L a' rest/\(∀ w ∈ l,Fine w)/\l.length <= 10000/\(l.map cnt).sum + 1000 * rest.length + 1001 <= 1000 * ts.length + x.fields.length
    | .bad p e=>r.1=false/\r.2.1.at_=p/\r.2.1.e=e/\e ≠ 0/\BX v0 ts r.2.2.2) ?_ λy _ hy=>T.some ?_)
  · rw [Int.toNat_natCast,zlY]
    unfold zc4 pSeq
    refine T.eq (zlt h [123]) ?_
    cases h1:pIs [123] ts with
    | none=>exact T.br (λ_=>T.some ⟨rfl,rfl,rfl,by decide,bx0⟩) λh=>by cases h
    | some r =>
      obtain ⟨A1,l1⟩:=h.is h1
      refine T.br (λh=>by cases h) λ_=>T.eq (zs7 A1 [125]) ?_
      dsimp only
      cases h2:pIs [125] r with
      | some r2 =>
        obtain ⟨A2,l2⟩:=A1.is h2
        refine T.br (λ_=>T.some ⟨_,_,rfl,A2,hzf,by rw [List.length_replicate];omega,?_⟩) λh=>by cases h
        rw [hz0];omega
      | none =>
        refine T.br (λh=>by cases h) λ_=>?_
        have hlen:=A1.len
        obtain ⟨_,_,_,_,hrl,_⟩:=A1.cons
        refine T.lp (ι:=GNps × Int × Val) (λq=>∃ (a':Int) (ts':List GTok) (acc:List Val) (k m:Nat),q=(st L t p0 a',(m:Int),Val.mk v0.kind v0.n v0.b acc v0.rule v0.more)/\Sd L a' ts'/\(∀ w ∈ acc,Fine w)/\acc.length=x.fields.length/\m <= 1000/\ts'.length <= k/\(acc.map cnt).sum + 1000 * ts'.length <= 1000 * r.length + x.fields.length/\pFlds x.fields f k ts' m acc=pFlds x.fields f r.length r 0 (List.replicate x.fields.length zeroV))
          (λq=>10000 - q.1.stream.i.toNat) ⟨a + 1,r,List.replicate x.fields.length zeroV,r.length,0,rfl,A1,hzf,List.length_replicate,by omega,zNl _,by rw [hz0];omega,rfl⟩ (by dsimp only;omega) λJ q ⟨a',ts',acc,k,m,e1,A2,g1,g2,gm,g3,g4,g5⟩ hJ=>?_
        subst e1
        obtain ⟨y0,r0,ey,_,hA2,_⟩:=A2.cons
        obtain ⟨k,rfl⟩:∃ k',k=k' + 1:=⟨k - 1,by rw [ey,zLc] at g3;omega⟩
        have hts':ts'.length=r0.length + 1:=by rw [ey,zLc]
        have eP : pFlds x.fields f (k + 1) ts' m acc=match pFld x.fields m ts' with
          | none=>.bad (atp ts') 7
          | some (j,r0)=>match x.fields[j]? with
            | none=>.bad (atp ts') 7
            | some y=>match f y.ty r0 with
              | .bad p e=>.bad p e
              | .ok w r=>match pIs [44] r with
                | some r2=>pFlds x.fields f k r2 (j + 1) (putF y j w acc)
                | none=>match pIs [125] r with
                  | some r3=>.ok (putF y j w acc) r3
                  | none=>.bad (atp r) 7:=rfl
        -- one field
        refine T.cal (Q:=λ(r1:Bool × GNps × Int × Val)=>∃ acc',r1.2.2.2=Val.mk v0.kind v0.n v0.b acc' v0.rule v0.more/\(∀ w ∈ acc',Fine w)/\acc'.length=x.fields.length/\(acc'.map cnt).sum + 1 <= 2000 * ts.length/\match pFld x.fields m ts' with
          | none=>r1.1=false/\r1.2.1.at_=atp ts'/\r1.2.1.e=7
          | some (j,r0)=>∃ y,x.fields[j]?=some y/\match f y.ty r0 with
            | .bad p e=>r1.1=false/\r1.2.1.at_=p/\r1.2.1.e=e/\e ≠ 0
            | .ok w rest=>acc'=putF y j w acc/\∃ a2,r1.1=true/\r1.2.1=st L t p0 a2/\r1.2.2.1=((j + 1:Nat):Int)/\Sd L a2 rest/\(acc'.map cnt).sum + 1000 * rest.length + 1000 <= (acc.map cnt).sum + 1000 * ts'.length/\j + 1 <= 1000/\rest.length < ts'.length) ?_ λr1 _ hr1=>?_
        · rw [zor]
          unfold zcV
          refine T.eq (zsk A2 x.fields (by omega) m (by omega)) ?_
          cases hp:pFld x.fields m ts' with
          | none=>exact T.br (λ_=>T.some ⟨acc,rfl,g1,g2,by omega,rfl,rfl,rfl⟩) λh=>by cases h
          | some q =>
            obtain ⟨j,r0'⟩:=q
            have hp':=hp
            rw [ey] at hp'
            change (bif decide (y0.kind=2) then (fidx x.fields y0.text (x.fields.length - m) m).map (λj=>(j,r0)) else none)=some (j,r0') at hp'
            cases hk2:decide (y0.kind=2) with
            | false=>rw [hk2] at hp';cases hp'
            | true =>
              rw [hk2,zCt] at hp'
              obtain ⟨j',hj,e2⟩:=Option.map_eq_some_iff.1 hp'
              cases e2
              have hk2:=zOT hk2
              obtain ⟨_,y,hy,_⟩:=zrT hj
              have hjl:=(List.getElem?_eq_some_iff.1 hy).1
              obtain ⟨A3,l3⟩:=A2.next ey (by omega)
              have hyr:=hf y (List.mem_of_getElem? hy) _ _ A3
              obtain ⟨w0,hw0⟩:∃ w,acc[j]?=some w:=⟨_,List.getElem?_eq_getElem (by omega)⟩
              have hw0c:=zfz w0
              have egy:getI x.fields (j:Int)=some y:=by rw [zcQ (by omega) (by omega)];exact congrArg some (List.getElem?_eq_some_iff.1 hy).2
              refine T.br (λh=>by cases h) λ_=>?_
              dsimp only
              refine T.jp (λq=>Fine q.2.1/\cnt q.2.1 <= 2000 * r0.length/\match f y.ty r0 with
                | .bad p e=>q.1=false/\q.2.2.at_=p/\q.2.2.e=e/\e ≠ 0
                | .ok w rest=>∃ a2,q=(true,w,st L t p0 a2)/\Sd L a2 rest/\cnt w + 1000 * rest.length <= 1000 * r0.length) (λJ2 k2=>T.eq egy (T.ck (by omega) (T.cal hyr λz _ hz=>k2 _ ?_))) λq hq=>T.eq egy ?_
              · cases hfr:f y.ty r0 with
                | bad p e=>rw [hfr] at hz;obtain ⟨z1,z2,z3,z4,z5,z6⟩:=hz;exact ⟨z5,z6,z1,z2,z3,z4⟩
                | ok w rest=>rw [hfr] at hz;obtain ⟨a2,z1,z2,z3,z4⟩:=hz;subst z1;exact ⟨z3,by dsimp only;omega,a2,rfl,z2,z4⟩
              obtain ⟨q1,q2,q3⟩:=hq
              have esum:=zrJ (l:=acc) (j:=j) (w:=q.2.1) hw0
              have eset:∀ w ∈ acc.set j q.2.1,Fine w:=λw hw=>by
                rcases ztY hw with h | h
                · exact g1 w h
                · rw [h];exact q1
              -- the default
              refine T.jp (λb=>(b=true->putF y j q.2.1 acc=acc.set j q.2.1)/\(b=false->putF y j q.2.1 acc=acc)) (λJ2 k2=>T.br (λhh=>k2 _ ⟨λ_=>zqs (by simpa using hh),λh=>by cases h⟩) λhh=>T.cal (zmL (k:=20000000) (n:=fuel) (by omega) (by unfold fuel;omega) q1 y.dflt) λz _ hz=>k2 _ ?_) λb hb=>?_
              · have hh:y.has=true:=by simpa using hh
                refine ⟨λh=>?_,λh=>?_⟩
                · exact zr5 λe=>by rw [hz.2 e] at h;cases h
                · exact zr2 hh (hz.1 (by simpa using h))
              refine T.jp (λv=>v=Val.mk v0.kind v0.n v0.b (putF y j q.2.1 acc) v0.rule v0.more/\(∀ w ∈ putF y j q.2.1 acc,Fine w)/\(putF y j q.2.1 acc).length=x.fields.length/\((putF y j q.2.1 acc).map cnt).sum <= (acc.map cnt).sum + cnt q.2.1) (λJ2 k2=>T.br (λh=>?_) λh=>?_) λv hv=>T.ck (by omega) (T.some ?_)
              · rw [hb.1 h] at k2
                refine T.asd (by simp only [Val.l_mk];omega) (T.eq (y:=w0) (by simp only [Val.l_mk,Int.toNat_natCast];exact hw0) (k2 _ ⟨?_,eset,by rw [List.length_set];exact g2,by omega⟩))
                simp only [Val.kind_mk,Val.n_mk,Val.b_mk,Val.l_mk,Val.rule_mk,Val.more_mk,Int.toNat_natCast]
              · rw [hb.2 h] at k2
                exact k2 _ ⟨rfl,g1,g2,by omega⟩
              obtain ⟨v1,v2,v3,v4⟩:=hv
              subst v1
              refine ⟨_,rfl,v2,v3,by omega,y,hy,?_⟩
              cases hfr:f y.ty r0 with
              | bad p e =>
                rw [hfr] at q3
                obtain ⟨z1,z2,z3,z4⟩:=q3
                exact ⟨z1,z2,z3,z4⟩
              | ok w rest =>
                rw [hfr] at q3
                obtain ⟨a2,z1,z2,z3⟩:=q3
                subst z1
                have v4':((putF y j w acc).map cnt).sum <= (acc.map cnt).sum + cnt w:=v4
                have z3':cnt w + 1000 * rest.length <= 1000 * r0.length:=z3
                exact ⟨rfl,a2,rfl,rfl,by dsimp only;omega,z2,by show ((putF y j w acc).map cnt).sum + 1000 * rest.length + 1000 <= _;omega,by omega,by have:=zfz w;omega⟩
        · obtain ⟨acc',ew,gacc,glen,gsum,hr1⟩:=hr1
          have hbx:BX v0 ts r1.2.2.2:=⟨_,ew,gacc,by omega,gsum⟩
          cases hp:pFld x.fields m ts' with
          | none =>
            rw [hp] at hr1
            obtain ⟨z1,z2,z3⟩:=hr1
            refine T.br (λ_=>T.some (by rw [<- g5,eP,hp];exact ⟨rfl,z2,z3,by decide,hbx⟩)) λh=>by rw [z1] at h;cases h
          | some q =>
            obtain ⟨j,r0'⟩:=q
            rw [hp] at hr1
            obtain ⟨y,hy,hr1⟩:=hr1
            cases hfr:f y.ty r0' with
            | bad p e =>
              rw [hfr] at hr1
              obtain ⟨z1,z2,z3,z4⟩:=hr1
              refine T.br (λ_=>T.some (by rw [<- g5,eP,hp];dsimp only;rw [hy];dsimp only;rw [hfr];exact ⟨rfl,z2,z3,z4,hbx⟩)) λh=>by rw [z1] at h;cases h
            | ok w rest =>
              rw [hfr] at hr1
              obtain ⟨z0,a2,e2,e3,e4,A3,c1,hj,hrl2⟩:=hr1
              subst z0
              obtain ⟨_,_,ey3,_,hA3,_⟩:=A3.cons
              refine T.br (λh=>by rw [e2] at h;cases h) λ_=>?_
              rw [e3]
              refine T.eq (zs7 A3 [44]) ?_
              dsimp only
              have eQ:pFlds x.fields f r.length r 0 (List.replicate x.fields.length zeroV)=match pIs [44] rest with
                | some r2=>pFlds x.fields f k r2 (j + 1) (putF y j w acc)
                | none=>match pIs [125] rest with
                  | some r3=>.ok (putF y j w acc) r3
                  | none=>.bad (atp rest) 7:=by rw [<- g5,eP,hp];dsimp only;rw [hy];dsimp only;rw [hfr]
              cases h3:pIs [44] rest with
              | some r2 =>
                obtain ⟨A4,l4⟩:=A3.is h3
                have ha4:=A4.a0
                refine T.br (λh=>by cases h) λ_=>?_
                rw [ew,e4]
                refine hJ _ ⟨a2 + 1,r2,putF y j w acc,k,j + 1,rfl,A4,gacc,glen,hj,by omega,by omega,by rw [eQ,h3]⟩ ?_
                have:=A3.a0
                have:=A2.a0
                show 10000 - (a2 + 1).toNat < 10000 - a'.toNat
                omega
              | none =>
                refine T.br (λ_=>T.eq (zlt A3 [125]) ?_) λh=>by cases h
                cases h4:pIs [125] rest with
                | some r3 =>
                  obtain ⟨A4,l4⟩:=A3.is h4
                  refine T.some ?_
                  rw [eQ,h3,h4]
                  exact ⟨a2 + 1,r1.2.2.1,by rw [ew],A4,gacc,by omega,by omega⟩
                | none =>
                  refine T.some ?_
                  rw [eQ,h3,h4]
                  exact ⟨rfl,rfl,rfl,by decide,hbx⟩
  · cases hR:(pSeq x.fields f ts) with
    | ok l rest =>
      rw [hR] at hy
      obtain ⟨a',k',z1,z2,z3,z4,z5⟩:=hy
      subst z1
      exact ⟨a',rfl,z2,z3,z4,z5⟩
    | bad p e =>
      rw [hR] at hy
      obtain ⟨z1,z2,z3,z4,z5⟩:=hy
      exact ⟨z1,z2,z3,z4,z5⟩
end Go.Proofs.Q


/- NotePrints: the law's model answers true. No condition but that the value is one of the machine's. -/
import Derived.Test.YtmahnaanhhojkaaGreatDoorNpA
import Derived.Test.YtmahnaanhhojkaaGreatDoorNpB
import Derived.Test.YtmahnaanhhojkaaGreatDoorNpC
import Derived.Lib.ValidLaws
set_option linter.unusedVariables false
set_option linter.unusedSimpArgs false

namespace Go.Proofs.Q
open Go.Sy
set_option linter.unusedVariables false

def joinC:List (List UInt8)->List UInt8
 | []=>[]
 | [p]=>p
 | p :: q :: r=>p ++ 44 :: 32 :: joinC (q :: r)
theorem ziZ:∀ (ps:List (List UInt8)) (p:List UInt8),joinC (ps ++ [p])=if ps=[] then p else joinC ps ++ 44 :: 32 :: p
 | [],p=>rfl
 | [q],p=>rfl
 | q :: r :: s,p=>by
  rw [if_neg (by simp)]
  have:=ziZ (r :: s) p
  rw [if_neg (by simp)] at this
  show q ++ 44 :: 32 :: joinC (r :: s ++ [p])=(q ++ 44 :: 32 :: joinC (r :: s)) ++ 44 :: 32 :: p
  rw [this,zLA];rfl
theorem zil:∀ ps:List (List UInt8),(joinC ps).length <= (ps.map λp=>p.length + 2).sum
 | []=>zNl _
 | [p]=>by simp [joinC]
 | p :: q :: r=>by
  have:=zil (q :: r)
  show (p ++ 44 :: 32 :: joinC (q :: r)).length <= _
  rw [zLa,zLc,zLc,List.map_cons,List.sum_cons];omega
def brc (ps:List (List UInt8)):List UInt8:=if ps=[] then [123,125] else 123 :: 32 :: (joinC ps ++ [32,125])
theorem zr8 (ps:List (List UInt8)):(brc ps).length <= (ps.map λp=>p.length + 2).sum + 4:=by
 have:=zil ps
 unfold brc
 split
 ·simp only [zLc,zLn];omega
 ·simp only [zLc,zLa,zLn];omega
def itemN (x:GTyp) (n:Int):List UInt8:=match x.items.find? (λit=>decide (it.number=n)) with
 | some it=>it.name.b
 | none=>[]
def parts (f:Int->Val->List UInt8):List GFld->List Val->List (List UInt8)
 | y :: fs,w :: ws=>if w.kind=0 then parts f fs ws else (y.name.b ++ 32 :: f y.ty w) :: parts f fs ws
 | _,_=>[]
theorem zk1 (f:Int->Val->List UInt8) (y:GFld) (w:Val):∀ (fs:List GFld) (ws:List Val),fs.length=ws.length->parts f (fs ++ [y]) (ws ++ [w])=if w.kind=0 then parts f fs ws else parts f fs ws ++ [y.name.b ++ 32 :: f y.ty w]
 | [],[],_=>by
  show (if w.kind=0 then _ else _)=_
  rfl
 | z :: fs,[],h=>by simp at h
 | [],z :: ws,h=>by simp at h
 | z :: fs,u :: ws,h=>by
  have:=zk1 f y w fs ws (by simpa using h)
  show (if u.kind=0 then parts f (fs ++ [y]) (ws ++ [w]) else _ :: parts f (fs ++ [y]) (ws ++ [w]))=if w.kind=0 then (if u.kind=0 then parts f fs ws else _ :: parts f fs ws) else _
  rw [this]
  by_cases hu:u.kind=0
  ·rw [if_pos hu,if_pos hu]
   show _=if w.kind=0 then _ else (if u.kind=0 then parts f fs ws else _) ++ _
   rw [if_pos hu]
  ·rw [if_neg hu,if_neg hu]
   show _=if w.kind=0 then _ else (if u.kind=0 then parts f fs ws else _) ++ _
   rw [if_neg hu]
   split <;> rfl
def txtK (f:Int->Val->List UInt8) (x:GTyp) (v:Val):List UInt8 :=
 if x.kind=3 then itemN x v.n
 else if x.kind=10 then brc (v.l.map (f x.of))
 else if x.kind=9 then (match x.fields[v.n.toNat]?,v.l with
  | some y,w :: _=>y.name.b ++ 32 :: 58 :: 32 :: f y.ty w
  | _,_=>[])
 else if x.kind=7 \/ x.kind=8 then brc (parts f x.fields v.l)
 else leafT v
def txt:Nat->List GTyp->Int->Val->List UInt8
 | 0,_,_,_=>[]
 | h + 1,l,i,v=>match l[i.toNat]? with
  | none=>[]
  | some x=>txtK (txt h l) x v
theorem zq2 {h:Nat} {l:List GTyp} {i:Int} {x:GTyp} (hx:l[i.toNat]?=some x) (v:Val):txt (h + 1) l i v=txtK (txt h l) x v:=by
 show (match l[i.toNat]? with | none=>_ | some x=>_)=_
 rw [hx]
structure NmB (l:List GTyp):Prop where
 len:l.length <= 1000
 fl:∀ x ∈ l,x.fields.length <= 1000
 il:∀ x ∈ l,x.items.length <= 100000
 fn:∀ x ∈ l,∀ f ∈ x.fields,f.name.b.length <= 90
 inm:∀ x ∈ l,∀ it ∈ x.items,it.name.b.length <= 90
inductive I64V:Val->Prop
 | mk {v:Val}:-9223372036854775808 <= v.n->v.n <= 9223372036854775807->(∀ w ∈ v.l,I64V w)->I64V v
theorem I64V.lo {v:Val} (h:I64V v):-9223372036854775808 <= v.n:=by cases h;assumption
theorem I64V.hi {v:Val} (h:I64V v):v.n <= 9223372036854775807:=by cases h;assumption
theorem I64V.kid {v:Val} (h:I64V v):∀ w ∈ v.l,I64V w:=by cases h;assumption
theorem zkb {v:Val} (h:bare v=true):v.kind ≠ 12/\v.more=[]/\∀ w ∈ v.l,bare w=true:=by
 rw [zoF,zBa] at h
 obtain ⟨h1,h2⟩:=h
 have h1:(decide (v.kind=12) || decide (0 < v.more.length))=false:=by simpa using h1
 rw [Bool.or_eq_false_iff] at h1
 refine ⟨zOF h1.1,?_,λw hw=>?_⟩
 ·have:=zOF h1.2
  exact List.length_eq_zero_iff.1 (by omega)
 ·exact List.all_eq_true.1 h2 _ (List.mem_map.2 ⟨w,hw,rfl⟩)
theorem znD {v:Val} {n l m:Bool} (h:pln v n false l m=true):v.b=[]:=by
 unfold pln at h
 simp only [zBa] at h
 have h:=h.1.1.2
 rw [Bool.false_or] at h
 have:=zOT h
 exact List.length_eq_zero_iff.1 (by omega)
theorem zmh {x:GTyp} {n:Int} (h:∃ it ∈ x.items,it.number=n):∃ it,x.items.find? (λit=>decide (it.number=n))=some it/\it ∈ x.items/\it.number=n:=by
 obtain ⟨it,h1,h2⟩:=h
 cases hf:x.items.find? (λit=>decide (it.number=n)) with
 | none =>
  have:=List.find?_eq_none.1 hf it h1
  exact absurd (zDT h2) this
 | some y =>
  have h3:=List.find?_some hf
  exact ⟨y,rfl,List.mem_of_find?_eq_some hf,zOT h3⟩
theorem zo1 {n:Int} {it:GItem}:∀ {l:List GItem} {k:Nat},l[k]?=some it->it.number=n->(∀ j y,j < k->l[j]?=some y->y.number ≠ n)->l.find? (λit=>decide (it.number=n))=some it
 | [],k,h,_,_=>by simp at h
 | y :: l,0,h,hn,_=>by
  simp at h;subst h
  rw [List.find?_cons,zDT hn]
 | y :: l,k + 1,h,hn,hj=>by
  have h0:=hj 0 y (Nat.succ_pos _) rfl
  rw [List.find?_cons,zDF h0]
  dsimp only
  exact zo1 (k:=k) (by simpa using h) hn λj z hjk hz=>hj (j + 1) z (by omega) (by simpa using hz)
theorem ztD (x:GTyp) (n:Int) (hl:x.items.length <= 1000000) (hi:∃ it ∈ x.items,it.number=n):T (λr=>∃ it,getI x.items r=some it/\x.items.find? (λit=>decide (it.number=n))=some it) (zdY x n):=by
 obtain ⟨it,h1,h2,h3⟩:=zmh hi
 unfold zdY
 refine T.cal (Q:=λr=>∃ it,getI x.items r=some it/\x.items.find? (λit=>decide (it.number=n))=some it) ?_ λy _ hy=>T.some hy
 unfold zaX
 refine T.lp (ι:=Int) (λq=>0 <= q/\q <= (x.items.length:Int)/\∀ (j:Nat) y,(j:Int) < q->x.items[j]?=some y->y.number ≠ n) (λq=>((x.items.length:Int) - q).toNat) ⟨zIl _,by omega,λj y h=>by omega⟩ (by omega) λJ q ⟨q0,q1,q2⟩ hJ=>T.br (λhb=>?_) λhb=>?_
 ·have hb:=zOT hb
  refine T.get q0 hb λy hy=>T.eq (y:=decide (y.number=n)) ?_ (T.br (λh=>T.some ?_) λh=>T.ck (by omega) (hJ _ ⟨by omega,by omega,λj z hj hz=>?_⟩ (by omega)))
  ·unfold zgn
   rfl
  ·refine ⟨y,by rw [zbF q0 hb];exact congrArg some (List.getElem?_eq_some_iff.1 hy).2,zo1 hy (zOT h) λj z hj hz=>q2 j z (by omega) hz⟩
  ·rcases Int.lt_or_le (j:Int) q with h5 | h5
   ·exact q2 j z h5 hz
   ·have:j=q.toNat:=by omega
    subst this
    rw [hy] at hz;cases hz
    exact zOF h
 ·have hb:=zOF hb
  obtain ⟨k,hk,e⟩:=List.mem_iff_getElem.1 h2
  exact absurd h3 (q2 k it (by omega) (by rw [List.getElem?_eq_getElem hk,e]))

/-! ### How long it is -/
theorem zoU {α:Type} {f g:α->Nat}:∀ {l:List α},(∀ x ∈ l,f x <= g x)->(l.map f).sum <= (l.map g).sum
 | [],_=>zNl _
 | x :: l,h=>by
  have:=zoU (f:=f) (g:=g) (l:=l) λy hy=>h y (zMm _ hy)
  have:=h x zMs
  simp only [List.map_cons,List.sum_cons];omega
theorem zmT {α:Type} {f:α->Nat} {c:Nat}:∀ {l:List α},(l.map λx=>c * f x).sum=c * (l.map f).sum
 | []=>by simp
 | x :: l=>by
  have:=zmT (f:=f) (c:=c) (l:=l)
  simp only [List.map_cons,List.sum_cons]
  rw [this,Nat.mul_add]
theorem zke {f:Int->Val->List UInt8}:∀ {fs:List GFld} {ws:List Val},(∀ y ∈ fs,y.name.b.length <= 90)->fs.length=ws.length->(∀ (k:Nat) y w,fs[k]?=some y->ws[k]?=some w->w.kind ≠ 0->(f y.ty w).length + 200 <= 150000 * cnt w)->((parts f fs ws).map λp=>p.length + 2).sum <= 150000 * (ws.map cnt).sum
 | [],[],_,_,_=>zNz _
 | z :: fs,[],_,h,_=>by simp at h
 | [],z :: ws,_,h,_=>by simp at h
 | z :: fs,u :: ws,hn,h,hk=>by
  have ih:=zke (f:=f) (fs:=fs) (ws:=ws) (λy hy=>hn y (zMm _ hy)) (by simpa using h) λk y w h1 h2=>hk (k + 1) y w (by simpa using h1) (by simpa using h2)
  rw [List.map_cons,List.sum_cons,Nat.mul_add]
  show ((if u.kind=0 then parts f fs ws else (z.name.b ++ 32 :: f z.ty u) :: parts f fs ws).map λp=>p.length + 2).sum <= _
  split
  ·omega
  ·rename_i hu
   have:=hk 0 z u rfl rfl hu
   have:=hn z zMs
   rw [List.map_cons,List.sum_cons]
   simp only [zLa,zLc]
   omega
theorem zgV {t:GTab} (hB:NmB t.types):∀ {h:Nat} {i:Int} {v:Val},Fit t h i v->bare v=true->I64V v->(txt h t.types i v).length + 200 <= 150000 * cnt v:=by
 intro h
 induction h with
 | zero=>intro i v hf;exact hf.elim
 | succ h ih =>
  intro i v hf hb hI
  obtain ⟨i0,x,hx,hfk⟩:=hf
  obtain ⟨k12,hm,hkb⟩:=zkb hb
  obtain ⟨hkk,hfk⟩:=hfk.resolve_left k12
  have hxm:=List.mem_of_getElem? hx
  have hcp:=zgp v
  have hcq:=zhk v
  rw [zq2 hx]
  unfold txtK
  rcases hfk with ⟨k,h1,h2⟩ | ⟨k,h1,h2⟩ | ⟨k,h1,h2⟩ | ⟨k,h1⟩ | ⟨k,h1,h2,h3,h4⟩ | ⟨k,h1,h2,h3⟩ | ⟨k,h1,h2,f,w,h3,h4,h5⟩ | ⟨k,h1,h2,h3,h4,h5⟩
  ·rw [if_neg (by omega),if_neg (by omega),if_neg (by omega),if_neg (by omega)]
   have:=zjn hI.lo hI.hi (by rw [znD h1];decide)
   omega
  ·rw [if_neg (by omega),if_neg (by omega),if_neg (by omega),if_neg (by omega)]
   have:=zjn hI.lo hI.hi (by rw [znD h1];decide)
   omega
  ·rw [if_pos k]
   obtain ⟨it,e1,e2,e3⟩:=zmh h2
   unfold itemN
   rw [e1]
   have:=hB.inm x hxm it e2
   dsimp only
   omega
  ·rw [if_neg (by omega),if_neg (by omega),if_neg (by omega),if_neg (by omega)]
   have:=zjn hI.lo hI.hi (by rw [znD h1];decide)
   omega
  ·rw [if_neg (by omega),if_neg (by omega),if_neg (by omega),if_neg (by omega)]
   have:=zjn hI.lo hI.hi (by omega)
   omega
  ·rw [if_neg (by omega),if_pos k]
   have h6:=zr8 (v.l.map (txt h t.types x.of))
   have h7:((v.l.map (txt h t.types x.of)).map λp=>p.length + 2).sum <= (v.l.map λw=>150000 * cnt w).sum:=by
    rw [List.map_map]
    exact zoU λw hw=>by
     have:=ih (h3 w hw) (hkb w hw) (hI.kid w hw)
     show (txt h t.types x.of w).length + 2 <= _
     omega
   rw [zmT] at h7
   rw [hcq,Nat.mul_add];omega
  ·rw [if_neg (by omega),if_neg (by omega),if_pos k,h3,h4]
   dsimp only
   have hw:w ∈ v.l:=by rw [h4];exact zMo.2 rfl
   have:=ih h5 (hkb w hw) (hI.kid w hw)
   have:=hB.fn x hxm f (List.mem_of_getElem? h3)
   have hc:cnt w + 1 <= cnt v:=zdh hw
   simp only [zLa,zLc]
   omega
  ·rw [if_neg (by omega),if_neg (by omega),if_neg (by omega),if_pos k]
   have h6:=zr8 (parts (txt h t.types) x.fields v.l)
   have h7:=zke (f:=txt h t.types) (hB.fn x hxm) h3.symm λj y w h8 h9 h10=>by
    rcases h4 j y w h8 h9 with ⟨z,_⟩ | ⟨_,z,_⟩
    ·exact absurd z h10
    ·exact ih z (hkb w (List.mem_of_getElem? h9)) (hI.kid w (List.mem_of_getElem? h9))
   rw [hcq,Nat.mul_add];omega

/-! ### The code prints it -/
theorem zn0 (n:Nat):zbf (n + 1)=zc5 (zbK n) (zbf n) (zb1 n) (zbk n) (zbI n):=rfl
theorem zqW (n:Nat):zbK (n + 1)=zcj (zbK n) (zbf n) (zb1 n) (zbk n) (zbI n):=rfl
theorem znI (n:Nat):zbI (n + 1)=zbO (zbK n) (zbf n) (zb1 n) (zbk n) (zbI n):=rfl
theorem zsb (n:Nat):zb1 (n + 1)=zcI (zbK n) (zbf n) (zb1 n) (zbk n) (zbI n):=rfl
theorem zq3 (n:Nat):zbk (n + 1)=zci (zbK n) (zbf n) (zb1 n) (zbk n) (zbI n):=rfl
def zcX (ps:List (List UInt8)):List UInt8:=if ps=[] then [] else 123 :: 32 :: joinC ps
theorem zoD (ps:List (List UInt8)) (p:List UInt8):zcX (ps ++ [p])=(if ps=[] then [123,32] else zcX ps ++ [44,32]) ++ p:=by
 unfold zcX
 rw [if_neg (by simp),ziZ]
 by_cases h:ps=[]
 ·rw [if_pos h,if_pos h];rfl
 ·rw [if_neg h,if_neg h,if_neg h]
  show 123 :: 32 :: (joinC ps ++ 44 :: 32 :: p)=(123 :: 32 :: joinC ps ++ [44,32]) ++ p
  simp
theorem zqC (ps:List (List UInt8)):brc ps=if ps=[] then [123,125] else zcX ps ++ [32,125]:=by
 unfold brc zcX
 split
 ·rfl
 ·simp
theorem zpG (ps:List (List UInt8)):(zcX ps).length <= (ps.map λp=>p.length + 2).sum + 2:=by
 have:=zil ps
 unfold zcX
 split
 ·exact zNz _
 ·simp only [zLc];omega
theorem prP {t:GTab} (hB:NmB t.types):∀ {h n:Nat} {i:Int} {v:Val} {b:List UInt8},3 * h + 3 <= n->Fit t h i v->bare v=true->I64V v->Fine v->cnt v <= 100000->b.length + 150000 * cnt v <= 60000000000->zbf n ⟨t,b⟩ i v=some ⟨t,b ++ txt h t.types i v⟩:=by
 intro h
 induction h with
 | zero=>intro n i v b _ hf;exact hf.elim
 | succ h ih =>
  intro n i v b hn hf hb hI hF hC hL
  have hlen:=zgV hB hf hb hI
  obtain ⟨n,rfl⟩:∃ n',n=n' + 3:=⟨n - 3,by omega⟩
  obtain ⟨i0,x,hx,hfk⟩:=hf
  obtain ⟨k12,hm,hkb⟩:=zkb hb
  obtain ⟨hkk,hfk⟩:=hfk.resolve_left k12
  have hxm:=List.mem_of_getElem? hx
  have hlt:=(List.getElem?_eq_some_iff.1 hx).1
  have hfl:=hB.fl x hxm
  have hil:=hB.il x hxm
  have hvl:=hF.l
  have hcl:=zuM v
  have eg:getI t.types i=some x:=by rw [zbF i0 (by omega)];exact congrArg some (List.getElem?_eq_some_iff.1 hx).2
  rw [zq2 hx] at hlen ⊢
  refine T.eqs ?_
  rw [zn0]
  unfold zc5
  refine T.eq eg ?_
  unfold txtK at hlen ⊢
  have leaf:(x.kind=1 \/ x.kind=2 \/ x.kind=4 \/ x.kind=5 \/ x.kind=6)->v.b.length <= 70000->T (λr=>r=⟨t,b ++ leafT v⟩) (jp (ι:=Bool) (λJ20=>br (decide (x.kind=(7:Int))) (J20 ((decide (x.kind=(7:Int))))) (J20 ((decide (x.kind=(8:Int)))))) (λq19=>br q19 (cal (zbk (n + 2) ⟨t,b⟩ (v.l.length:Int) v x) λy21=>some (y21)) (cal (zfl v) λy23=>cal (zat ⟨t,b⟩ ([y23]:(List Str))) λy25=>some (y25)))):=λhk hbl=>by
   have hll:=zjn hI.lo hI.hi hbl
   refine T.jp (λq=>q=false) (λJ k=>T.br (λh=>absurd (zOT h) (by omega)) λ_=>k _ (zDF (by omega))) λq hq=>?_
   subst hq
   refine T.br (λh=>by cases h) λ_=>T.eq (zuX hI.lo hI.hi hbl (by omega)) (T.eq (put1 _ _ ?_) (T.some rfl))
   have:=zgp v
   dsimp only
   omega
  rcases hfk with ⟨k,h1,h2⟩ | ⟨k,h1,h2⟩ | ⟨k,h1,h2⟩ | ⟨k,h1⟩ | ⟨k,h1,h2,h3,h4⟩ | ⟨k,h1,h2,h3⟩ | ⟨k,h1,h2,f,w,h3,h4,h5⟩ | ⟨k,h1,h2,h3,h4,h5⟩
  ·rw [if_neg (by omega),if_neg (by omega),if_neg (by omega),if_neg (by omega)]
   exact T.br (λh=>absurd (zOT h) (by omega)) λ_=>T.br (λh=>absurd (zOT h) (by omega)) λ_=>T.br (λh=>absurd (zOT h) (by omega)) λ_=>leaf (.inl k) (by rw [znD h1];decide)
  ·rw [if_neg (by omega),if_neg (by omega),if_neg (by omega),if_neg (by omega)]
   exact T.br (λh=>absurd (zOT h) (by omega)) λ_=>T.br (λh=>absurd (zOT h) (by omega)) λ_=>T.br (λh=>absurd (zOT h) (by omega)) λ_=>leaf (.inr (.inl k)) (by rw [znD h1];decide)
  ·rw [if_pos k]
   rw [if_pos k] at hlen
   refine T.br (λ_=>T.cal (ztD x v.n (by omega) h2) λr _ ⟨it,z1,z2⟩=>T.eq z1 (T.eq (put1 _ _ ?_) (T.some ?_))) λh=>absurd k (zOF h)
   ·unfold itemN at hlen
    rw [z2] at hlen
    dsimp only at hlen ⊢
    omega
   ·unfold itemN;rw [z2]
  ·rw [if_neg (by omega),if_neg (by omega),if_neg (by omega),if_neg (by omega)]
   exact T.br (λh=>absurd (zOT h) (by omega)) λ_=>T.br (λh=>absurd (zOT h) (by omega)) λ_=>T.br (λh=>absurd (zOT h) (by omega)) λ_=>leaf (.inr (.inr (.inl k))) (by rw [znD h1];decide)
  ·rw [if_neg (by omega),if_neg (by omega),if_neg (by omega),if_neg (by omega)]
   exact T.br (λh=>absurd (zOT h) (by omega)) λ_=>T.br (λh=>absurd (zOT h) (by omega)) λ_=>T.br (λh=>absurd (zOT h) (by omega)) λ_=>leaf (by omega) (by omega)
  ·rw [if_neg (by omega),if_pos k]
   rw [if_neg (by omega),if_pos k] at hlen
   refine T.br (λh=>absurd (zOT h) (by omega)) λ_=>T.br (λ_=>?_) λh=>absurd k (zOF h)
   refine T.eq (y:=⟨t,b ++ brc (v.l.map (txt h t.types x.of))⟩) ?_ (T.some rfl)
   refine T.eqs ?_
   rw [zsb]
   unfold zcI
   have hsum:∀ j:Nat,(((v.l.take j).map (txt h t.types x.of)).map λp=>p.length + 2).sum <= 150000 * ((v.l.take j).map cnt).sum:=λj=>by
    rw [<- zmT,List.map_map]
    exact zoU λw hw=>by
     have hw:=List.mem_of_mem_take hw
     have:=zgV hB (h3 w hw) (hkb w hw) (hI.kid w hw)
     show (txt h t.types x.of w).length + 2 <= _
     omega
   have hcv:=zhk v
   have htake:∀ j:Nat,((v.l.take j).map cnt).sum <= (v.l.map cnt).sum:=λj=>by
    have:=congrArg (λl=>(l.map cnt).sum) (List.take_append_drop j v.l)
    simp only [List.map_append,List.sum_append] at this
    omega
   refine T.lp (ι:=Bool × Int × GNpr) (λq=>∃ j:Int,0 <= j/\j <= (v.l.length:Int)/\q=(decide ((v.l.take j.toNat)=[]),j,⟨t,b ++ zcX ((v.l.take j.toNat).map (txt h t.types x.of))⟩)) (λq=>((v.l.length:Int) - q.2.1).toNat) ⟨0,zIl _,by omega,by simp [zcX]⟩ (by dsimp only;omega) λJ q ⟨j,q0,q1,eq⟩ hJ=>?_
   subst eq
   dsimp only at hJ ⊢
   have hol:=zpG ((v.l.take j.toNat).map (txt h t.types x.of))
   have hs:=hsum j.toNat
   have ht:=htake j.toNat
   rw [hcv,Nat.mul_add] at hL
   refine T.br (λhj=>?_) λhj=>?_
   ·have hj:=zOT hj
    obtain ⟨w,hw⟩:∃ w,v.l[j.toNat]?=some w:=⟨_,List.getElem?_eq_getElem (by omega)⟩
    have hwm:=List.mem_of_getElem? hw
    have hwc:cnt w <= (v.l.map cnt).sum:=zmU (f:=cnt) hwm
    have egw:getI v.l j=some w:=by rw [zbF q0 hj];exact congrArg some (List.getElem?_eq_some_iff.1 hw).2
    have etk:v.l.take (j + 1).toNat=v.l.take j.toNat ++ [w]:=by
     rw [show (j + 1).toNat=j.toNat + 1 by omega,List.take_add_one,hw];rfl
    have hcs:((v.l.take j.toNat).map cnt).sum + cnt w <= (v.l.map cnt).sum:=by
     have:=htake (j + 1).toNat
     rw [etk] at this
     simpa using this
    refine T.jp (λq=>q=(false,⟨t,b ++ zcX ((v.l.take (j + 1).toNat).map (txt h t.types x.of))⟩)) (λJ19 k19=>?_) λq hq=>?_
    ·refine T.jp (λg=>g=(⟨t,(b ++ (if v.l.take j.toNat=[] then [123,32] else zcX ((v.l.take j.toNat).map (txt h t.types x.of)) ++ [44,32]))⟩:GNpr)) (λJ21 k21=>T.br (λhe=>?_) λhe=>?_) λg hg=>?_
     ·have he:=zOT he
      refine T.eq (put1 _ _ (by dsimp only;rw [zLa];simp only [zLc,zLn];omega)) (k21 _ ?_)
      rw [if_pos he,he]
      simp [zcX]
     ·have he:=zOF he
      refine T.eq (put1 _ _ (by dsimp only;rw [zLa];simp only [zLc,zLn];omega)) (k21 _ ?_)
      rw [if_neg he]
      simp
     ·subst hg
      refine T.eq (y:=(true,⟨t,b ++ zcX ((v.l.take (j + 1).toNat).map (txt h t.types x.of))⟩)) ?_ (T.br (λ_=>k19 _ rfl) λh=>by cases h)
      refine T.eqs ?_
      rw [zqW]
      unfold zcj
      have hpre:(if v.l.take j.toNat=[] then ([123,32]:List UInt8) else zcX ((v.l.take j.toNat).map (txt h t.types x.of)) ++ [44,32]).length <= (zcX ((v.l.take j.toNat).map (txt h t.types x.of))).length + 2:=by
       split
       ·simp
       ·simp
      refine T.eq egw (T.eq (ih (by omega) (h3 w hwm) (hkb w hwm) (hI.kid w hwm) (hF.kid w hwm) (by have:=zdh hwm;omega) (by rw [zLa];omega)) (T.some ?_))
      have hif:(if (v.l.take j.toNat).map (txt h t.types x.of)=[] then ([123,32]:List UInt8) else zcX ((v.l.take j.toNat).map (txt h t.types x.of)) ++ [44,32])=if v.l.take j.toNat=[] then [123,32] else zcX ((v.l.take j.toNat).map (txt h t.types x.of)) ++ [44,32]:=by
       by_cases he:v.l.take j.toNat=[]
       ·rw [if_pos he,if_pos (by rw [he];rfl)]
       ·rw [if_neg he,if_neg (by simpa using he)]
      rw [etk,List.map_append,List.map_singleton,zoD,hif,zLA]
    ·subst hq
     refine T.ck (by omega) (hJ _ ⟨j + 1,by omega,by omega,?_⟩ (by dsimp only;omega))
     rw [zDF (show ¬ v.l.take (j + 1).toNat=[] by rw [etk];simp)]
   ·have hj:=zOF hj
    have et:v.l.take j.toNat=v.l:=zTl (by omega)
    rw [et] at hol hs ⊢
    rw [zqC]
    refine T.br (λhe=>?_) λhe=>?_
    ·have he:=zOT he
     rw [he]
     refine T.eq (put1 _ _ (by simp [zcX];omega)) (T.some ?_)
     simp [zcX]
    ·have he:=zOF he
     rw [if_neg (by simpa using he)]
     refine T.eq (put1 _ _ (by dsimp only;rw [zLa];simp only [zLc,zLn];omega)) (T.some ?_)
     rw [zLA]
  ·rw [if_neg (by omega),if_neg (by omega),if_pos k,h3,h4]
   dsimp only
   have hw:w ∈ v.l:=by rw [h4];exact zMo.2 rfl
   have hwl:=zgV hB h5 (hkb w hw) (hI.kid w hw)
   have hnm:=hB.fn x hxm f (List.mem_of_getElem? h3)
   have hc:cnt w + 1 <= cnt v:=zdh hw
   have hlt2:=(List.getElem?_eq_some_iff.1 h3).1
   refine T.br (λh=>absurd (zOT h) (by omega)) λ_=>T.br (λh=>absurd (zOT h) (by omega)) λ_=>T.br (λ_=>?_) λh=>absurd k (zOF h)
   refine T.eq (y:=f) (by rw [zbF h2 (by omega)];exact congrArg some (List.getElem?_eq_some_iff.1 h3).2) (T.eq (put2 _ _ _ (by simp only [zLc,zLn];omega)) (T.eq (y:=w) (by first | rfl | (rw [h4];rfl)) ?_))
   refine T.eq (ih (by omega) h5 (hkb w hw) (hI.kid w hw) (hF.kid w hw) (by omega) (by dsimp only;simp only [zLa,zLc,zLn];omega)) (T.some ?_)
   simp
  ·rw [if_neg (by omega),if_neg (by omega),if_neg (by omega),if_pos k]
   rw [if_neg (by omega),if_neg (by omega),if_neg (by omega),if_pos k] at hlen
   refine T.br (λh=>absurd (zOT h) (by omega)) λ_=>T.br (λh=>absurd (zOT h) (by omega)) λ_=>T.br (λh=>absurd (zOT h) (by omega)) λ_=>?_
   refine T.jp (λb=>b=true) (λJ2 k2=>T.br (λh=>k2 _ h) λh=>k2 _ (zDT (k.resolve_left (zOF h)))) λb78 hb78=>?_
   subst hb78
   refine T.br (λ_=>?_) λh=>by cases h
   refine T.eq (y:=⟨t,b ++ brc (parts (txt h t.types) x.fields v.l)⟩) ?_ (T.some rfl)
   refine T.eqs ?_
   rw [zq3]
   unfold zci
   have hcv:=zhk v
   have htake:∀ j:Nat,((v.l.take j).map cnt).sum <= (v.l.map cnt).sum:=λj=>by
    have:=congrArg (λl=>(l.map cnt).sum) (List.take_append_drop j v.l)
    simp only [List.map_append,List.sum_append] at this
    omega
   have hpart:∀ j:Nat,((parts (txt h t.types) (x.fields.take j) (v.l.take j)).map λp=>p.length + 2).sum <= 150000 * ((v.l.take j).map cnt).sum:=λj =>
    zke (f:=txt h t.types) (λy hy=>hB.fn x hxm y (List.mem_of_mem_take hy)) (by rw [zLt,zLt,h3]) λm y w h8 h9 h10=>by
     have e8:x.fields[m]?=some y:=by
      rw [List.getElem?_take] at h8
      split at h8
      ·exact h8
      ·cases h8
     have e9:v.l[m]?=some w:=by
      rw [List.getElem?_take] at h9
      split at h9
      ·exact h9
      ·cases h9
     rcases h4 m y w e8 e9 with ⟨z,_⟩ | ⟨_,z,_⟩
     ·exact absurd z h10
     ·exact zgV hB z (hkb w (List.mem_of_getElem? e9)) (hI.kid w (List.mem_of_getElem? e9))
   refine T.lp (ι:=Bool × Int × GNpr) (λq=>∃ j:Int,0 <= j/\j <= (v.l.length:Int)/\q=(decide (parts (txt h t.types) (x.fields.take j.toNat) (v.l.take j.toNat)=[]),j,⟨t,b ++ zcX (parts (txt h t.types) (x.fields.take j.toNat) (v.l.take j.toNat))⟩)) (λq=>((v.l.length:Int) - q.2.1).toNat) ⟨0,zIl _,by omega,by simp [zcX,parts]⟩ (by dsimp only;omega) λJ q ⟨j,q0,q1,eq⟩ hJ=>?_
   subst eq
   dsimp only at hJ ⊢
   have hol:=zpG (parts (txt h t.types) (x.fields.take j.toNat) (v.l.take j.toNat))
   have hs:=hpart j.toNat
   have htj:=htake j.toNat
   rw [hcv,Nat.mul_add] at hL
   refine T.br (λhj=>?_) λhj=>?_
   ·have hj:=zOT hj
    obtain ⟨w,hw⟩:∃ w,v.l[j.toNat]?=some w:=⟨_,List.getElem?_eq_getElem (by omega)⟩
    obtain ⟨y,hy⟩:∃ y,x.fields[j.toNat]?=some y:=⟨_,List.getElem?_eq_getElem (by omega)⟩
    have hwm:=List.mem_of_getElem? hw
    have hwc:cnt w <= (v.l.map cnt).sum:=zmU (f:=cnt) hwm
    have egw:getI v.l j=some w:=by rw [zbF q0 hj];exact congrArg some (List.getElem?_eq_some_iff.1 hw).2
    have egy:getI x.fields j=some y:=by rw [zbF q0 (by omega)];exact congrArg some (List.getElem?_eq_some_iff.1 hy).2
    have hyn:=hB.fn x hxm y (List.mem_of_getElem? hy)
    have ej:(j + 1).toNat=j.toNat + 1:=by omega
    have etk:v.l.take (j + 1).toNat=v.l.take j.toNat ++ [w]:=by rw [ej,List.take_add_one,hw];rfl
    have etf:x.fields.take (j + 1).toNat=x.fields.take j.toNat ++ [y]:=by rw [ej,List.take_add_one,hy];rfl
    have hcs:((v.l.take j.toNat).map cnt).sum + cnt w <= (v.l.map cnt).sum:=by
     have:=htake (j + 1).toNat
     rw [etk] at this
     simpa using this
    have hsn:=zk1 (txt h t.types) y w (x.fields.take j.toNat) (v.l.take j.toNat) (by rw [zLt,zLt,h3])
    rw [<- etk,<- etf] at hsn
    generalize parts (txt h t.types) (x.fields.take j.toNat) (v.l.take j.toNat)=ps at hsn hol hs ⊢
    refine T.jp (λq=>q=(decide (parts (txt h t.types) (x.fields.take (j + 1).toNat) (v.l.take (j + 1).toNat)=[]),⟨t,b ++ zcX (parts (txt h t.types) (x.fields.take (j + 1).toNat) (v.l.take (j + 1).toNat))⟩)) (λJ19 k19=>?_) λq hq=>?_
    ·refine T.jp (λg=>g=(⟨t,(b ++ (if ps=[] then [123,32] else zcX ps ++ [44,32]))⟩:GNpr)) (λJ21 k21=>T.br (λhe=>?_) λhe=>?_) λg hg=>?_
     ·have he:=zOT he
      refine T.eq (put1 _ _ (by dsimp only;rw [zLa];simp only [zLc,zLn];omega)) (k21 _ ?_)
      rw [if_pos he,he]
      simp [zcX]
     ·have he:=zOF he
      refine T.eq (put1 _ _ (by dsimp only;rw [zLa];simp only [zLc,zLn];omega)) (k21 _ ?_)
      rw [if_neg he]
      simp
     ·subst hg
      have hpre:(if ps=[] then ([123,32]:List UInt8) else zcX ps ++ [44,32]).length <= (zcX ps).length + 2:=by
       split
       ·simp
       ·simp
      rcases h4 j.toNat y w hy hw with ⟨z1,z2,_⟩ | ⟨z1,z2,_⟩
      ·rw [if_pos z1] at hsn
       refine T.eq (y:=(false,(⟨t,(b ++ (if ps=[] then [123,32] else zcX ps ++ [44,32]))⟩:GNpr))) ?_ (T.br (λh=>by cases h) λ_=>T.asd ?_ (k19 _ ?_))
       ·refine T.eqs ?_
        rw [znI]
        unfold zbO
        refine T.eq egw (T.eq (zkr w) (T.br (λ_=>T.some rfl) λh=>?_))
        rw [zlV.2 z2] at h
        cases h
       ·dsimp only
        simp only [zLa]
        have:(zcX ps).length <= (if ps=[] then ([123,32]:List UInt8) else zcX ps ++ [44,32]).length:=by
         split
         ·rename_i he;rw [he];simp [zcX]
         ·simp
        omega
       ·rw [hsn]
        congr 2
        rw [Int.toNat_natCast,zLa]
        by_cases he:ps=[]
        ·rw [if_pos he,he]
         simp [zcX]
        ·rw [if_neg he,<- zLA]
         show List.take (b.length + (zcX ps).length) (b ++ zcX ps ++ [44,32])=_
         rw [<- zLa,List.take_left]
      ·rw [if_neg z1] at hsn
       refine T.eq (y:=(true,⟨t,b ++ zcX (parts (txt h t.types) (x.fields.take (j + 1).toNat) (v.l.take (j + 1).toNat))⟩)) ?_ (T.br (λ_=>k19 _ ?_) λh=>by cases h)
       ·refine T.eqs ?_
        rw [znI]
        unfold zbO
        refine T.eq egw (T.eq (zkr w) (T.br (λh=>?_) λ_=>?_))
        ·rw [zDF z1] at h;cases h
        refine T.eq egy (T.eq (put2 _ _ _ (by dsimp only;simp only [zLa,zLc,zLn];omega)) (T.eq egy (T.eq egw (T.eq (ih (by omega) z2 (hkb w hwm) (hI.kid w hwm) (hF.kid w hwm) (by have:=zdh hwm;omega) (by dsimp only;simp only [zLa,zLc,zLn];omega)) (T.some ?_)))))
        rw [hsn,zoD]
        congr 2
        simp only [zLA]
        rfl
       ·rw [hsn,zDF (by simp)]
    ·subst hq
     exact T.ck (by omega) (hJ _ ⟨j + 1,by omega,by omega,rfl⟩ (by dsimp only;omega))
   ·have hj:=zOF hj
    have et:v.l.take j.toNat=v.l:=zTl (by omega)
    have et2:x.fields.take j.toNat=x.fields:=zTl (by omega)
    rw [et,et2] at hol
    rw [et] at hs
    rw [et2] at hs
    rw [et,et2,zqC]
    refine T.br (λhe=>?_) λhe=>?_
    ·have he:=zOT he
     rw [he]
     refine T.eq (put1 _ _ (by simp [zcX];omega)) (T.some ?_)
     simp [zcX]
    ·have he:=zOF he
     rw [if_neg he]
     refine T.eq (put1 _ _ (by dsimp only;rw [zLa];simp only [zLc,zLn];omega)) (T.some ?_)
     rw [zLA]
end Go.Proofs.Q


namespace Go.Proofs.Q
open Go.Sy
set_option linter.unusedVariables false

end Go.Proofs.Q


namespace Go.Proofs.Q
open Go.Sy
set_option linter.unusedVariables false

end Go.Proofs.Q


namespace Go.Proofs.Q
open Go.Sy
set_option linter.unusedVariables false

end Go.Proofs.Q


namespace Go.Proofs.Q
open Go.Sy
set_option linter.unusedVariables false

end Go.Proofs.Q


namespace Go.Proofs.Q
open Go.Sy
set_option maxRecDepth 4000
def zfm :Option (Bool) :=
 cal (zbD (Str.mk [77,32,68,69,70,73,78,73,84,73,79,78,83,32,58,58,61,32,66,69,71,73,78,32,65,32,58,58,61,32,83,69,81,85,69,78,67,69,32,123,32,97,32,73,78,84,69,71,69,82,44,32,98,32,66,79,79,76,69,65,78,32,79,80,84,73,79,78,65,76,32,125,32,69,78,68])) λy1=>cal (zd9 y1.1 (0:Int) (Val.mk (7:Int) (0:Int) ([]:(List UInt8)) ([(Val.mk (2:Int) (5:Int) ([]:(List UInt8)) ([]:(List Val)) (0:Int) ([]:(List Raw))),(Val.mk (1:Int) (1:Int) ([]:(List UInt8)) ([]:(List Val)) (0:Int) ([]:(List Raw)))]:(List Val)) (0:Int) ([]:(List Raw)))) λy4=>jp (ι:=Bool) (λJ6=>br y1.2 (J6 ((decide (y4.2=(0:Int))))) (J6 (false))) (λq5=>jp (ι:=Bool) (λJ9=>br q5 (J9 ((decide (y4.1=(Str.mk [123,32,97,32,53,44,32,98,32,84,82,85,69,32,125]))))) (J9 (false))) (λq8=>some (q8)))
end Go.Proofs.Q


namespace Go.Proofs.Q
open Go.Sy
set_option maxRecDepth 4000
end Go.Proofs.Q


namespace Go.Proofs.Q
open Go.Sy
set_option linter.unusedVariables false

def leafV (k n:Int) (b:List UInt8) (l:List Val):Val:=Val.mk k n b l 0 []
section small
variable {L:List GTok} {a:Int} {ts:List GTok} {t:GTab} {p:Int}
def st (L:List GTok) (t:GTab) (p:Int) (a:Int):GNps:=⟨⟨L,a⟩,t,p,0⟩
end small
end Go.Proofs.Q


namespace Go.Proofs.Q
open Go.Sy
set_option linter.unusedVariables false

structure TOk (l:List GTyp):Prop where
 len:l.length <= 1000
 fl:∀ x ∈ l,x.fields.length <= 1000
 il:∀ x ∈ l,x.items.length <= 100000
 kf:∀ x ∈ l,∀ f ∈ x.fields,0 <= f.ty/\f.ty < l.length
 ko:∀ x ∈ l,x.kind=10->0 <= x.of/\x.of < l.length
 kd:∀ x ∈ l,1 <= x.kind/\x.kind <= 10
theorem zoa {k n:Int} {b:List UInt8} {l:List Val} (hb:b.length <= 68719476736) (hl:l.length <= 68719476736) (hk:∀ w ∈ l,Fine w):Fine (leafV k n b l) :=
 .mk hb hl (zNz _) (λr hr=>by cases hr) hk
end Go.Proofs.Q


namespace Go.Proofs.Q
open Go.Sy
set_option linter.unusedVariables false

section leaf
variable {L:List GTok} {t:GTab} {p0 a:Int} {ts:List GTok}
end leaf
end Go.Proofs.Q


namespace Go.Proofs.Q
open Go.Sy
set_option linter.unusedVariables false

end Go.Proofs.Q


namespace Go.Proofs.Q
open Go.Sy
set_option linter.unusedVariables false

abbrev KS:=List (Int × List UInt8)
/-! ### Names -/
def nmOk (s:List UInt8):Bool:=zcm (hd s) && nmAll s 0 && !decide (s.getLast?=some 45) && decide (s.length <= 60) && decide (kindN s=2)
theorem zrv {c:UInt8} {r s:List UInt8} (h:c ≠ 45):inName c r=inName c s:=by
 unfold inName
 rw [zDF h];rfl
theorem zn9:∀ {w:List UInt8} {d e:UInt8},w.getLast? ≠ some 45->nmAll w d=nmAll w e
 | [],_,_,_=>rfl
 | [c],d,e,h=>by
  have hc:c ≠ 45:=λh2=>h (by rw [h2];rfl)
  show (inName c [d] && true)=(inName c [e] && true)
  rw [zrv hc]
 | c :: a :: w,d,e,h=>by
  have ih:=zn9 (w:=a :: w) (d:=d) (e:=e) (by rw [List.getLast?_cons_cons] at h;exact h)
  show (inName c ((a :: w) ++ [d]) && nmAll (a :: w) d)=(inName c ((a :: w) ++ [e]) && nmAll (a :: w) e)
  rw [ih,zog (show hd ((a :: w) ++ [d])=hd ((a :: w) ++ [e]) from rfl)]
/-! ### Values within braces -/
def cm:List KS->KS
 | []=>[]
 | [p]=>p
 | p :: q :: r=>p ++ (6,[44]) :: cm (q :: r)
structure NmW (l:List GTyp):Prop where
 fn:∀ x ∈ l,∀ f ∈ x.fields,nmOk f.name.b=true
 inm:∀ x ∈ l,∀ it ∈ x.items,nmOk it.name.b=true
 fd:∀ x ∈ l,(x.fields.map λf=>f.name).Nodup
 id:∀ x ∈ l,(x.items.map λit=>it.name).Nodup
end Go.Proofs.Q


namespace Go.Proofs.Q
open Go.Sy
set_option linter.unusedVariables false

end Go.Proofs.Q


namespace Go.Proofs.Q
open Go.Sy
set_option linter.unusedVariables false

theorem zqx:∀ {k n:Nat} {v:Val},cnt v <= k->4 * k <= n->Fine v->zes n v=some (bare v):=by
 intro k
 induction k with
 | zero=>intro n v h;have:=zgp v;omega
 | succ k ih =>
  intro n v hk hn hf
  obtain ⟨n,rfl⟩:∃ n',n=n' + 4:=⟨n - 4,by omega⟩
  have hfl:=hf.l
  have hc:zav (n + 3) v.l=some (!(v.l.map bare).all id):=by
   refine T.eqs ?_
   show T _ (zaE (zeR (n + 2)) (zes (n + 2)) (zav (n + 2)) (zaO (n + 2)) v.l)
   unfold zaE
   refine T.cal (Q:=λ(r:Int)=>decide (0 <= r)=!(v.l.map bare).all id) ?_ λy _ hy=>T.some hy
   show T _ (zaJ (zeR (n + 1)) (zes (n + 1)) (zav (n + 1)) (zaO (n + 1)) v.l)
   unfold zaJ
   refine T.lp (ι:=Int) (λq=>0 <= q/\q <= (v.l.length:Int)/\((v.l.take q.toNat).map bare).all id=true) (λq=>((v.l.length:Int) - q).toNat) ⟨zIl _,by omega,rfl⟩ (by omega) λL q ⟨q1,q2,q3⟩ hL=>T.br (λhb=>?_) λhb=>T.some ?_
   ·have hb:=zOT hb
    refine T.get q1 hb λy hy=>?_
    have hm:=List.mem_of_getElem? hy
    have hk:=zdh hm
    refine T.eq (y:=!bare y) ?_ (T.br (λh2=>T.some ?_) λh2=>T.ck (by omega) (hL _ ⟨by omega,by omega,?_⟩ (by omega)))
    ·refine T.eqs ?_
     show T _ (zec (zeR n) (zes n) (zav n) (zaO n) y)
     unfold zec
     exact T.eq (ih (by omega) (by omega) (hf.kid y hm)) (T.some rfl)
    ·have h2:bare y=false:=by simpa using h2
     have:(v.l.map bare).all id=false:=by
      rw [List.all_eq_false]
      exact ⟨bare y,List.mem_map.2 ⟨y,hm,rfl⟩,by rw [h2];decide⟩
     rw [this,zDT q1];rfl
    ·have h2:bare y=true:=by simpa using h2
     have e:(q + 1).toNat=q.toNat + 1:=by omega
     rw [e,List.take_add_one,hy,List.map_append,List.all_append,q3]
     show (true && (bare y && true))=true
     rw [h2];rfl
   ·have hb:=zOF hb
    rw [zTl (by omega)] at q3
    rw [q3];rfl
  refine T.eqs ?_
  show T _ (zfW (zeR (n + 3)) (zes (n + 3)) (zav (n + 3)) (zaO (n + 3)) v)
  unfold zfW
  rw [zoF]
  have e0:(!(decide (v.kind=12) || decide (0 < v.more.length)))=(!decide (v.kind=12) && decide ((v.more.length:Int)=0)):=by
   rw [Bool.not_or]
   congr 1
   cases h:decide (0 < v.more.length) with
   | true=>have:=zOT h;rw [zDF (by omega)];rfl
   | false=>have:=zOF h;rw [zDT (by omega)];rfl
  rw [e0]
  refine T.andJ (d:=decide ((v.more.length:Int)=0)) (λJ kk=>kk) ?_
  refine T.andJ (d:=(v.l.map bare).all id) (λJ kk=>T.eq hc ?_) (T.some rfl)
  rw [Bool.not_not]
  exact kk
def pTxt (l:List GTyp) (i:Int) (v:Val):Str × Int:=if 8000 < (txt 17 l i v).length then (⟨[]⟩,5) else (⟨txt 17 l i v⟩,0)
end Go.Proofs.Q


namespace Go.Proofs.Q
open Go.Sy
set_option linter.unusedVariables false

def FitKX (t:GTab) (i:Int) (x:GTyp) (v:Val) (F:Int->Val->Prop):Prop :=
 if x.kind=1 then pln v true false false false=true/\(decide (v.n=0) || decide (v.n=1))=true
 else if x.kind=2 then pln v true false false false=true/\(x.con.more || wthn x.con v.n)=true
 else if x.kind=3 then pln v true false false false=true/\hasI x v.n=true
 else if x.kind=4 then pln v false false false false=true
 else if x.kind=5 \/ x.kind=6 then (pln v false true false false=true/\(v.b.length:Int) <= 70000/\(x.con.more || wthn x.con (v.b.length:Int))=true)/\(x.kind=5 \/ zcs v.b=some true)
 else if x.kind=10 then pln v false false true false=true/\(x.con.more || wthn x.con (v.l.length:Int))=true/\∀ w ∈ v.l,F x.of w
 else if x.kind=9 then pln v true false true false=true/\0 <= v.n/\∃ f w,x.fields[v.n.toNat]?=some f/\v.l=[w]/\F f.ty w
 else if x.kind=7 \/ x.kind=8 then pln v false false true true=true/\v.l.length=x.fields.length/\rwP t i x v=true/\(∀ (k:Nat) f w,x.fields[k]?=some f->v.l[k]?=some w->FldF x F k f w)/\∀ s ∈ slots x,Grp x v s
 else False
def FitX (t:GTab):Nat->Int->Val->Prop
 | 0,_,_=>False
 | h + 1,i,v=>0 <= i/\∃ x:GTyp,t.types[i.toNat]?=some x/\((v.kind=12/\unkP t x v=true) \/ (v.kind ≠ 12/\v.kind=x.kind/\FitKX t i x v (FitX t h)))
theorem zpx {t:GTab}:∀ {h:Nat} {i:Int} {v:Val},FitX t h i v->bare v=true->Fit t h i v:=by
 intro h
 induction h with
 | zero=>intro i v hF;cases hF
 | succ h ih =>
  intro i v ⟨h0,x,hx,hk⟩ hb
  obtain ⟨hk12,hmore,hkb⟩:=zkb hb
  rcases hk with ⟨k,_⟩ | ⟨_,hkk,hK⟩
  ·exact absurd k hk12
  refine ⟨h0,x,hx,.inr ⟨hkk,?_⟩⟩
  unfold FitKX at hK
  split at hK
  ·rename_i k;exact .inl ⟨k,hK⟩
  split at hK
  ·rename_i k;exact .inr (.inl ⟨k,hK⟩)
  split at hK
  ·rename_i k
   obtain ⟨it,i1,i2⟩:=List.any_eq_true.1 hK.2
   exact .inr (.inr (.inl ⟨k,hK.1,it,i1,zOT i2⟩))
  split at hK
  ·rename_i k;exact .inr (.inr (.inr (.inl ⟨k,hK⟩)))
  split at hK
  ·rename_i k;exact .inr (.inr (.inr (.inr (.inl ⟨k,hK.1.1,hK.1.2.1,hK.1.2.2,hK.2⟩))))
  split at hK
  ·rename_i k;exact .inr (.inr (.inr (.inr (.inr (.inl ⟨k,hK.1,hK.2.1,λw hw=>ih (hK.2.2 w hw) (hkb w hw)⟩)))))
  split at hK
  ·rename_i k
   obtain ⟨k1,k2,f,w,k3,k4,k5⟩:=hK
   exact .inr (.inr (.inr (.inr (.inr (.inr (.inl ⟨k,k1,k2,f,w,k3,k4,ih k5 (hkb w (by rw [k4];exact zMo.2 rfl))⟩))))))
  split at hK
  ·rename_i k
   obtain ⟨k1,k2,k3,k4,k5⟩:=hK
   refine .inr (.inr (.inr (.inr (.inr (.inr (.inr ⟨k,k1,λ_=>?_,k2,λm f w hm hw=>?_,k5⟩))))))
   ·unfold rwP at k3
    rw [if_pos hmore] at k3
    exact zOT k3
   ·rcases k4 m f w hm hw with h | ⟨h1,h2,h3⟩
    ·exact .inl h
    ·exact .inr ⟨h1,ih h2 (hkb w (List.mem_of_getElem? hw)),h3⟩
  ·exact hK.elim
theorem zlI {x:GTyp} {F:Int->Val->Prop} {q:Int} {f:GFld} {w:Val} (q0:0 <= q) (hz:w.kind=0):FldF x F q.toNat f w ↔ w=zeroV/\(f.optional || f.has || decide (x.root <= q))=true:=by
 have e:((q.toNat:Nat):Int)=q:=by omega
 constructor
 ·rintro (⟨_,h1,h2⟩ | ⟨h,_⟩)
  ·refine ⟨h1,?_⟩
   rcases h2 with h2 | h2 | h2
   ·rw [h2];rfl
   ·rw [h2];simp
   ·rw [zDT (show x.root <= q by omega)];simp
  ·exact absurd hz h
 ·rintro ⟨h1,h2⟩
  rw [Bool.or_eq_true,Bool.or_eq_true] at h2
  refine .inl ⟨hz,h1,?_⟩
  rcases h2 with (h2 | h2) | h2
  ·exact .inl h2
  ·exact .inr (.inl h2)
  ·have:=zOT h2;exact .inr (.inr (by omega))
theorem zmR {x:GTyp} {F:Int->Val->Prop} {k:Nat} {f:GFld} {w:Val} (hz:w.kind ≠ 0):FldF x F k f w ↔ F f.ty w/\(f.has=true->w ≠ f.dflt) :=
 ⟨λh=>h.elim (λh=>absurd h.1 hz) λh=>h.2,λh=>.inr ⟨hz,h⟩⟩
def AllF (x:GTyp) (v:Val) (F:Int->Val->Prop):Prop:=∀ (k:Nat) f w,x.fields[k]?=some f->v.l[k]?=some w->FldF x F k f w
theorem groupsX {t:GTab} (ht:TabOk t) {b:Bool} {i:Int} {x:GTyp} {v:Val} (h0:0 <= i) (hx:t.types[i.toNat]?=some x) (hk:x.kind=7 \/ x.kind=8) (hlen:v.l.length=x.fields.length)
    (hw:∀ w ∈ v.l,w.kind=0->w=zeroV) (hfl:x.fields.length <= 1000) (hr0:0 <= x.root):T (λr=>r.2=zjl t b/\(r.1=true ↔ ∀ s ∈ slots x,Grp x v s)) (zc3 (zjl t b) i v):=by
  unfold zc3
  have hlt:=(List.getElem?_eq_some_iff.1 hx).1
  have e:getI t.types i=some x:=by rw [zbF h0 (by omega)];exact congrArg some (List.getElem?_eq_some_iff.1 hx).2
  refine T.eq e (T.eq (zoo ht i) ?_)
  rw [zn8 h0 hx hk]
  have hsl:=zmf hr0
  refine T.lp (ι:=Int) (λ(q:Int)=>0 <= q/\q <= ((slots x).length:Int)/\∀ (k:Nat),(k:Int) < q->∀ s,(slots x)[k]?=some s->Grp x v s) (λ(q:Int)=>(((slots x).length:Int) - q).toNat) ⟨zIl _,by omega,λk hk=>by omega⟩ (by omega) λL q ⟨q1,q2,q3⟩ hL=>T.br (λhb=>?_) λhb=>T.some ⟨rfl,λ_ s hs=>?_,λ_=>rfl⟩
  · have hb := zOT hb
    obtain ⟨s,hs⟩:∃ s,(slots x)[q.toNat]?=some s:=⟨_,List.getElem?_eq_getElem (by omega)⟩
    have hsm:=List.mem_of_getElem? hs
    refine T.jp (ι:=Unit) (λ_=>Grp x v s) (λJ kk=>?_) λ_ hG=>T.ck (by omega) (hL _ ⟨by omega,by omega,λn hn s' hs'=>?_⟩ (by omega))
    · refine T.get q1 hb λs' hs'=>?_
      rw [hs] at hs';cases hs'
      obtain ⟨k0,r,e0,e1,e2⟩:=zp3 hr0 s hsm
      have hsl2:=znf hr0 s hsm
      obtain ⟨k1,k2⟩:=e2 k0 (by rw [e0];exact zMs)
      refine T.get (zIl _) (by rw [e0,zLc];omega) λk hk'=>?_
      have ek:k=k0:=by rw [e0] at hk';simpa using hk'.symm
      subst ek
      have eh:s.headD 0=k:=by rw [e0];rfl
      refine T.get (by omega) k2 λf hff=>?_
      have eg:grp x.fields k=f.group:=by unfold grp;rw [hff];rfl
      refine T.br (λhgz=>kk _ ?_) λhgz=>?_
      · have hgz:=zOT hgz
        unfold Grp
        rw [eh,eg,hgz];rfl
      refine T.lp (ι:=Bool × Bool × Int) (λp=>0 <= p.2.2/\p.2.2 <= (s.length:Int)/\p.1=(s.take p.2.2.toNat).any (thr v)/\p.2.1=(s.take p.2.2.toNat).any (lck x v)) (λp=>((s.length:Int) - p.2.2).toNat) ⟨zIl _,by dsimp only;omega,rfl,rfl⟩ (by dsimp only;omega) λL2 p ⟨p1,p2,p3,p4⟩ hL2=>T.br (λhc2=>?_) λhc2=>?_
      · obtain ⟨so,la,m⟩:=p
        dsimp only at p1 p2 p3 p4 hL2 hc2 ⊢
        have hc2:=zOT hc2
        have em:(m + 1).toNat=m.toNat + 1:=by omega
        refine T.get p1 hc2 λk hk=>?_
        obtain ⟨k1,k2⟩:=e2 k (List.mem_of_getElem? hk)
        refine T.get (by omega) (by omega) λw hwk=>T.eq (zkr w) ?_
        have ea:(decide (w.kind=0) && pln w false false false false)=decide (w.kind=0):=by
          by_cases hz:w.kind=0
          · rw [zlV.2 (hw w (List.mem_of_getElem? hwk) hz),zDT hz]
          · rw [zDF hz];rfl
        rw [ea]
        obtain ⟨f',hf'⟩:∃ f,x.fields[k.toNat]?=some f:=⟨_,List.getElem?_eq_getElem (by omega)⟩
        have e':getI x.fields k=some f':=by rw [zbF (by omega) (by omega)];exact congrArg some (List.getElem?_eq_some_iff.1 hf').2
        have eth:(!decide (w.kind=0))=thr v k:=by unfold thr;rw [hwk]
        have elk:(!(!decide (w.kind=0)) && (!f'.optional) && (!f'.has))=lck x v k:=by
          unfold lck
          rw [<- eth,hf']
          show _=(!(!decide (w.kind=0)) && !(f'.optional || f'.has))
          cases decide (w.kind=0) <;> cases f'.optional <;> cases f'.has <;> rfl
        refine T.or' (T.orJ (d:=lck x v k) (λJ h2=>T.andJ (d:=!f'.optional) (λJ3 h3=>T.eq e' h3) (T.andJ (d:=!f'.has) (λJ3 h3=>T.eq e' h3) ?_)) (T.ck (by omega) (hL2 _ ⟨by dsimp only;omega,by dsimp only;omega,?_,?_⟩ (by dsimp only;omega))))
        · rw [elk];exact h2
        · dsimp only;rw [em,zlt hk,p3,eth]
        · dsimp only;rw [em,zlt hk,p4]
      · obtain ⟨so,la,m⟩:=p
        dsimp only at p1 p2 p3 p4 hL2 hc2 ⊢
        have hc2:=zOF hc2
        rw [zTl (by omega)] at p3 p4
        refine T.and' (T.br (λh=>T.some ⟨rfl,λh=>(by cases h),λhall=>?_⟩) λh=>kk _ ?_)
        · exfalso
          rcases e1 with e1 | e1
          · rw [p3,p4,e0,e1] at h
            unfold lck at h
            revert h
            show ((thr v k || false) && ((!thr v k && _) || false))=true->False
            cases thr v k <;> simp
          · have h9:=hall s hsm
            unfold Grp at h9
            rw [eh,zDT e1,Bool.true_and,<- p3,<- p4,h] at h9
            cases h9
        · unfold Grp
          rw [p3,p4] at h
          rw [Bool.and_assoc,h,Bool.and_false]
    · rcases Int.lt_or_le (n:Int) q with h4 | h4
      · exact q3 n h4 s' hs'
      · have:n=q.toNat:=by omega
        subst this
        rw [hs] at hs';cases hs'
        exact hG
  · have hb:=zOF hb
    obtain ⟨n,hn⟩:=List.mem_iff_getElem?.1 hs
    exact q3 n (by have:=(List.getElem?_eq_some_iff.1 hn).1;omega) s hn
theorem zr4 {t:GTab} {h:Nat} {i:Int} {x:GTyp} {v:Val} (i0:0 <= i) (hx:t.types[i.toNat]?=some x) (h12:v.kind ≠ 12) (hkk:v.kind=x.kind):FitX t (h + 1) i v ↔ FitKX t i x v (FitX t h):=by
 constructor
 ·rintro ⟨_,y,hy,k⟩
  rw [hx] at hy;cases hy
  exact k.elim (λk=>absurd k.1 h12) λk=>k.2.2
 ·exact λk=>⟨i0,x,hx,.inr ⟨h12,hkk,k⟩⟩
theorem zrT {t:GTab} {h:Nat} {i:Int} {x:GTyp} {v:Val} (hx:t.types[i.toNat]?=some x) (h12:v.kind ≠ 12) (hkk:v.kind ≠ x.kind):¬ FitX t (h + 1) i v:=by
 rintro ⟨_,y,hy,k⟩
 rw [hx] at hy;cases hy
 exact k.elim (λk=>h12 k.1) λk=>hkk k.2.1
theorem zrH {t:GTab} {h:Nat} {i:Int} {x:GTyp} {v:Val} (i0:0 <= i) (hx:t.types[i.toNat]?=some x) (h12:v.kind=12):FitX t (h + 1) i v ↔ unkP t x v=true:=by
 constructor
 ·rintro ⟨_,y,hy,k⟩
  rw [hx] at hy;cases hy
  exact k.elim (λk=>k.2) λk=>absurd h12 k.1
 ·exact λk=>⟨i0,x,hx,.inl ⟨h12,k⟩⟩
theorem zlC {t:GTab} {h:Nat} {i:Int} {v:Val} (hq:i < 0 \/ (t.types.length:Int) <= i):¬ FitX t (h + 1) i v:=by
 rintro ⟨i0,y,hy,_⟩
 have:=(List.getElem?_eq_some_iff.1 hy).1
 omega
theorem fitsXC {t:GTab} (ht:TabOk t):∀ {h n:Nat} {i:Int} {v:Val} {d:Int},0 <= d->d + h=18->6 * h + 6 <= n->Fine v->cnt v <= 100000->T (λr=>r.2=zjl t false/\(r.1=true ↔ FitX t h i v)) (za3 n (zjl t false) i v d):=by
 intro h
 induction h with
 | zero =>
  intro n i v d d0 hd hn hf hc
  obtain ⟨n,rfl⟩:∃ n',n=n' + 1:=⟨n - 1,by omega⟩
  show T _ (zbT (zbl n) (za3 n) (zbW n) (zai n) (zam n) (zbx n) (zjl t false) i v d)
  unfold zbT
  refine T.or' (T.or' (T.br (λ_=>T.some ⟨rfl,λh=>(by cases h),λh=>h.elim⟩) λhq=>?_))
  rw [Bool.or_eq_false_iff] at hq
  have:=zOF hq.2
  omega
 | succ h ih =>
  intro n i v d d0 hd hn hf hc
  obtain ⟨n,rfl⟩:∃ n',n=n' + 6:=⟨n - 6,by omega⟩
  have htl:=ht.types
  have hvl:=hf.l
  show T _ (zbT (zbl (n + 5)) (za3 (n + 5)) (zbW (n + 5)) (zai (n + 5)) (zam (n + 5)) (zbx (n + 5)) (zjl t false) i v d)
  unfold zbT
  refine T.or' (T.or' (T.br (λhq=>T.some ⟨rfl,λh=>(by cases h),λhX=>?_⟩) λhq=>?_))
  ·rw [Bool.or_eq_true,Bool.or_eq_true] at hq
   rcases hq with (hq | hq) | hq
   ·exact absurd hX (zlC (.inl (zOT hq)))
   ·exact absurd hX (zlC (.inr (zOT hq)))
   ·have:=zOT hq;omega
  rw [Bool.or_eq_false_iff,Bool.or_eq_false_iff] at hq
  have i0:0 <= i:=by have:=zOF hq.1.1;omega
  have i1:i < t.types.length:=by have h9:¬ ((t.types.length:Int) <= i):=zOF hq.1.2;omega
  obtain ⟨x,hT⟩:=ztB ht i0 i1
  have hx:=hT.at_
  have hok:=hT.ok
  have hfl:=hT.fl
  have hil:=hok.ilen
  refine T.eq hT.get (T.br (λh12=>T.eq (unkC ht hT hf) (T.some ⟨rfl,(zrH i0 hx (zOT h12)).symm⟩)) λh12=>T.br (λhne=>T.some ⟨rfl,λh=>(by cases h),λhX=>absurd hX (zrT hx (zOF h12) (by simpa using hne))⟩) λhkk=>?_)
  have h12:=zOF h12
  have hkk:v.kind=x.kind:=by simpa using hkk
  have eX:=zr4 (h:=h) i0 hx h12 hkk
  refine T.br (λk1=>?_) λk1=>T.br (λk2=>?_) λk2=>T.br (λk3=>?_) λk3=>T.br (λk4=>?_) λk4=>?_
  ·refine T.eq (zeF _ _ (by decide)) (T.andJ (d:=decide (v.n=0) || decide (v.n=1)) (λJ hh=>T.or' hh) (T.some ⟨rfl,?_⟩))
   rw [eX];unfold FitKX;rw [if_pos (zOT k1),zBa];exact Iff.rfl
  ·have k1:=zOF k1
   refine T.eq (zeF _ _ (by decide)) (T.andJ (d:=x.con.more || wthn x.con v.n) (λJ hh=>T.orJ (d:=wthn x.con v.n) (λJ2 h2=>T.eq (zk2 _ _) h2) hh) (T.some ⟨rfl,?_⟩))
   rw [eX];unfold FitKX;rw [if_neg k1,if_pos (zOT k2),zBa];exact Iff.rfl
  ·have k1:=zOF k1
   have k2:=zOF k2
   refine T.eq (zeF _ _ (by decide)) (T.andJ (d:=hasI x v.n) (λJ hh=>T.cal (zon x v.n (by omega)) λy _ hy=>?_) (T.some ⟨rfl,?_⟩))
   ·have:decide (0 <= y)=hasI x v.n:=by
     by_cases h0:y < 0
     ·rw [zDT h0] at hy;rw [zDF (by omega)];simpa using hy
     ·rw [zDF h0] at hy;rw [zDT (by omega)];simpa using hy
    rw [this];exact hh
   ·rw [eX];unfold FitKX;rw [if_neg k1,if_neg k2,if_pos (zOT k3),zBa];exact Iff.rfl
  ·have k1:=zOF k1
   have k2:=zOF k2
   have k3:=zOF k3
   refine T.eq (zeF _ _ (by decide)) (T.some ⟨rfl,?_⟩)
   rw [eX];unfold FitKX;rw [if_neg k1,if_neg k2,if_neg k3,if_pos (zOT k4)];exact Iff.rfl
  have k1:=zOF k1
  have k2:=zOF k2
  have k3:=zOF k3
  have k4:=zOF k4
  refine T.jp (λb=>b=true ↔ (x.kind=5 \/ x.kind=6)) (λJ kk=>T.br (λh5=>kk _ ⟨λ_=>.inl (zOT h5),λ_=>h5⟩) λh5=>kk _ (by rw [decide_eq_true_iff];exact ⟨.inr,λh=>h.resolve_left (zOF h5)⟩)) λb56 h56=>T.br (λhb=>?_) λhb=>?_
  ·have k56:=h56.1 hb
   refine T.cal (Q:=λr=>r.2=zjl t false/\(r.1=true ↔ (pln v false true false false=true/\(v.b.length:Int) <= 70000/\(x.con.more || wthn x.con (v.b.length:Int))=true)/\(x.kind=5 \/ zcs v.b=some true))) ?_ λy _ hy=>T.some ⟨hy.1,?_⟩
   ·unfold zdy
    refine T.eq (zeF _ _ (by decide)) (T.and' (T.andJ (d:=x.con.more || wthn x.con (v.b.length:Int)) (λJ hh=>T.orJ (d:=wthn x.con (v.b.length:Int)) (λJ2 h2=>T.eq (zk2 _ _) h2) hh) ?_))
    refine T.jp (λb=>b=true ↔ (pln v false true false false=true/\(v.b.length:Int) <= 70000/\(x.con.more || wthn x.con (v.b.length:Int))=true)/\(x.kind=5 \/ zcs v.b=some true)) (λJ kk=>T.br (λhp=>?_) λhp=>kk _ ⟨λh=>(by cases h),λh=>?_⟩) λb hb2=>T.some ⟨rfl,hb2⟩
    ·rw [zBa,zBa] at hp
     have hp1:=zOT hp.1.2
     refine T.jp (λb=>b=true ↔ (x.kind=5 \/ zcs v.b=some true)) (λJ2 k2=>T.br (λh5=>k2 _ ⟨λ_=>.inl (zOT h5),λ_=>rfl⟩) λh5=>T.cal (zm2 v.b (by omega)) λy hy _=>k2 _ ?_) λb hb3=>kk _ ⟨λh=>⟨⟨hp.1.1,hp1,hp.2⟩,hb3.1 h⟩,λh=>hb3.2 h.2⟩
     rw [hy]
     exact ⟨λh=>.inr (by rw [h]),λh=>by have:=h.resolve_left (zOF h5);injection this⟩
    ·exfalso
     rw [zDT h.1.2.1,h.1.2.2] at hp
     have:=h.1.1
     change pln v (!decide (andI 2 1=0)) (!decide (andI 2 2=0)) (!decide (andI 2 4=0)) (!decide (andI 2 8=0))=true at this
     rw [this] at hp
     cases hp
   ·rw [hy.2,eX];unfold FitKX;rw [if_neg k1,if_neg k2,if_neg k3,if_neg k4,if_pos k56]
  have k56:¬ (x.kind=5 \/ x.kind=6):=λh=>by rw [h56.2 h] at hb;cases hb
  refine T.br (λk10=>?_) λk10=>T.br (λk9=>?_) λk9=>?_
  ·have k10:=zOT k10
   refine T.cal (Q:=λr=>r.2=zjl t false/\(r.1=true ↔ pln v false false true false=true/\(x.con.more || wthn x.con (v.l.length:Int))=true/\∀ w ∈ v.l,FitX t h x.of w)) ?_ λy _ hy=>T.some ⟨hy.1,by rw [hy.2,eX];unfold FitKX;rw [if_neg k1,if_neg k2,if_neg k3,if_neg k4,if_neg k56,if_pos k10]⟩
   show T _ (zc8 (zbl (n + 4)) (za3 (n + 4)) (zbW (n + 4)) (zai (n + 4)) (zam (n + 4)) (zbx (n + 4)) (zjl t false) x v d)
   unfold zc8
   refine T.eq (zeF _ _ (by decide)) (T.andJ (d:=x.con.more || wthn x.con (v.l.length:Int)) (λJ hh=>T.orJ (d:=wthn x.con (v.l.length:Int)) (λJ2 h2=>T.eq (zk2 _ _) h2) hh) ?_)
   refine T.jp (ι:=Bool × GChk) (λr=>r.2=zjl t false/\(r.1=true ↔ pln v false false true false=true/\(x.con.more || wthn x.con (v.l.length:Int))=true/\∀ w ∈ v.l,FitX t h x.of w)) (λJ kk=>T.br (λhp=>?_) λhp=>kk _ ⟨rfl,λh=>(by cases h),λh=>?_⟩) λp hp=>T.some hp
   ·rw [zBa] at hp
    refine T.cal (Q:=λr=>r.2=zjl t false/\(r.1=false ↔ ∀ w ∈ v.l,FitX t h x.of w)) ?_ λy _ hy=>kk _ ⟨hy.1,by rw [Bool.not_eq_true',hy.2];exact ⟨λh=>⟨hp.1,hp.2,h⟩,λh=>h.2.2⟩⟩
    show T _ (zaG (zbl (n + 3)) (za3 (n + 3)) (zbW (n + 3)) (zai (n + 3)) (zam (n + 3)) (zbx (n + 3)) v.l (zjl t false) x d)
    unfold zaG
    refine T.cal (Q:=λr=>r.2=zjl t false/\(¬ 0 <= r.1 ↔ ∀ w ∈ v.l,FitX t h x.of w)) ?_ λy _ hy=>T.some ⟨hy.1,by rw [decide_eq_false_iff_not];exact hy.2⟩
    show T _ (zaP (zbl (n + 2)) (za3 (n + 2)) (zbW (n + 2)) (zai (n + 2)) (zam (n + 2)) (zbx (n + 2)) v.l (zjl t false) x d)
    unfold zaP
    refine T.lp (ι:=Int × GChk) (λq=>0 <= q.1/\q.1 <= (v.l.length:Int)/\q.2=zjl t false/\∀ (k:Nat),(k:Int) < q.1->∀ w,v.l[k]?=some w->FitX t h x.of w) (λq=>((v.l.length:Int) - q.1).toNat) ⟨zIl _,by dsimp only;omega,rfl,λk hk=>by dsimp only at hk;omega⟩ (by dsimp only;omega) λL q ⟨q1,q2,q3,q4⟩ hL=>?_
    obtain ⟨q,c⟩:=q
    dsimp only at q1 q2 q3 q4 hL ⊢
    subst q3
    refine T.br (λhb2=>?_) λhb2=>T.some ⟨rfl,λ_ w hw=>?_,λ_=>show ¬ (0:Int) <= -1 by decide⟩
    ·have hb2:=zOT hb2
     refine T.get q1 hb2 λw hw=>?_
     have hwm:=List.mem_of_getElem? hw
     refine T.cal (Q:=λr=>r.2=zjl t false/\(r.1=false ↔ FitX t h x.of w)) ?_ λy _ hy=>?_
     ·show T _ (zcl (zbl (n + 1)) (za3 (n + 1)) (zbW (n + 1)) (zai (n + 1)) (zam (n + 1)) (zbx (n + 1)) w (zjl t false) x d)
      unfold zcl
      exact T.ck (by omega) (T.cal (ih (by omega) (by omega) (by omega) (hf.kid w hwm) (by have:=zdh hwm;omega)) λy _ hy=>T.some ⟨hy.1,by rw [Bool.not_eq_false',hy.2]⟩)
     ·refine T.br (λhy1=>T.some ⟨hy.1,λh=>absurd q1 h,λhall=>?_⟩) λhy2=>?_
      ·have:=hy.2.2 (hall w hwm)
       rw [hy1] at this;cases this
      rw [hy.1]
      refine T.ck (by omega) (hL _ ⟨by dsimp only;omega,by dsimp only;omega,rfl,λk hk w' hw'=>?_⟩ (by dsimp only;omega))
      dsimp only at hk
      rcases Int.lt_or_le (k:Int) q with h4 | h4
      ·exact q4 k h4 w' hw'
      ·have:k=q.toNat:=by omega
       subst this
       rw [hw] at hw';cases hw'
       exact hy.2.1 hy2
    ·have hb2:=zOF hb2
     obtain ⟨k,hk⟩:=List.mem_iff_getElem?.1 hw
     exact q4 k (by have:=(List.getElem?_eq_some_iff.1 hk).1;omega) w hk
   ·exfalso
    rw [h.2.1,Bool.and_true] at hp
    have:=h.1
    change pln v (!decide (andI 4 1=0)) (!decide (andI 4 2=0)) (!decide (andI 4 4=0)) (!decide (andI 4 8=0))=true at this
    rw [this] at hp
    cases hp
  ·have k10:=zOF k10
   have k9:=zOT k9
   refine T.eq (zeF _ _ (by decide)) (T.and' (T.and' (T.and' ?_)))
   have eK:FitKX t i x v (FitX t h) ↔ pln v true false true false=true/\0 <= v.n/\∃ f w,x.fields[v.n.toNat]?=some f/\v.l=[w]/\FitX t h f.ty w:=by
    unfold FitKX;rw [if_neg k1,if_neg k2,if_neg k3,if_neg k4,if_neg k56,if_neg k10,if_pos k9]
   refine T.jp (ι:=Bool × GChk) (λr=>r.2=zjl t false/\(r.1=true ↔ FitKX t i x v (FitX t h))) (λJ kk=>T.br (λhp=>?_) λhp=>kk _ ⟨rfl,λh=>(by cases h),λh=>?_⟩) λp hp=>T.some ⟨hp.1,by rw [eX];exact hp.2⟩
   ·rw [zBa,zBa,zBa] at hp
    have hn0:=zOT hp.1.1.2
    have hnl:=zOT hp.1.2
    have hl1:=zOT hp.2
    obtain ⟨w,hw⟩:=List.length_eq_one_iff.1 (show v.l.length=1 by omega)
    have hwm:w ∈ v.l:=by rw [hw];exact zMo.2 rfl
    refine T.get hn0 hnl λf hff=>T.eq (y:=w) (by rw [hw];rfl) (T.ck (by omega) (T.cal (ih (by omega) (by omega) (by omega) (hf.kid w hwm) (by have:=zdh hwm;omega)) λy _ hy=>kk _ ⟨hy.1,?_⟩))
    rw [hy.2,eK]
    constructor
    ·exact λhr=>⟨hp.1.1.1,hn0,f,w,hff,hw,hr⟩
    ·rintro ⟨_,_,f',w',h1,h2,h3⟩
     rw [hff] at h1;cases h1
     rw [hw] at h2
     have:w=w':=by simpa using h2
     rw [this];exact h3
   ·exfalso
    obtain ⟨h1,h2,f,w,h3,h4,_⟩:=eK.1 h
    have hlt:=(List.getElem?_eq_some_iff.1 h3).1
    rw [zDT h2,zDT (show v.n < (x.fields.length:Int) by omega),h4] at hp
    change pln v (!decide (andI 5 1=0)) (!decide (andI 5 2=0)) (!decide (andI 5 4=0)) (!decide (andI 5 8=0))=true at h1
    rw [h1] at hp
    cases hp
  ·have k10:=zOF k10
   have k9:=zOF k9
   refine T.jp (λb=>b=true ↔ (x.kind=7 \/ x.kind=8)) (λJ kk=>T.br (λh5=>kk _ ⟨λ_=>.inl (zOT h5),λ_=>h5⟩) λh5=>kk _ (by rw [decide_eq_true_iff];exact ⟨.inr,λh=>h.resolve_left (zOF h5)⟩)) λb78 h78=>T.br (λhb=>?_) λhb=>T.some ⟨rfl,λh=>(by cases h),λhX=>?_⟩
   ·have k78:=h78.1 hb
    have eK:FitKX t i x v (FitX t h) ↔ pln v false false true true=true/\v.l.length=x.fields.length/\rwP t i x v=true/\AllF x v (FitX t h)/\∀ s ∈ slots x,Grp x v s:=by
     unfold FitKX;rw [if_neg k1,if_neg k2,if_neg k3,if_neg k4,if_neg k56,if_neg k10,if_neg k9,if_pos k78];exact Iff.rfl
    refine T.cal (Q:=λr=>r.2=zjl t false/\(r.1=true ↔ FitKX t i x v (FitX t h))) ?_ λy _ hy=>T.some ⟨hy.1,by rw [eX];exact hy.2⟩
    rw [eK]
    show T _ (zcu (zbl (n + 4)) (za3 (n + 4)) (zbW (n + 4)) (zai (n + 4)) (zam (n + 4)) (zbx (n + 4)) (zjl t false) i v d)
    unfold zcu
    refine T.eq hT.get (T.eq (zeF _ _ (by decide)) (T.or' ?_))
    refine T.jp (ι:=Bool × GChk) (λp=>p.2=zjl t false/\(p.1=false ↔ pln v false false true true=true/\v.l.length=x.fields.length/\rwP t i x v=true)) (λJ kk=>T.br (λh1=>kk _ ⟨rfl,λh=>(by cases h),λh=>?_⟩) λh1=>T.eq (rawsC ht hT hf) (kk _ ⟨rfl,?_⟩)) λp hp=>?_
    ·exfalso
     have h9:=h.1
     change pln v (!decide (andI 12 1=0)) (!decide (andI 12 2=0)) (!decide (andI 12 4=0)) (!decide (andI 12 8=0))=true at h9
     rw [h9,h.2.1,zDT rfl] at h1
     cases h1
    ·rw [Bool.or_eq_false_iff] at h1
     rw [Bool.not_eq_false']
     exact ⟨λh=>⟨nt h1.1,zps h1.2,h⟩,λh=>h.2.2⟩
    obtain ⟨p1,c⟩:=p
    obtain ⟨pc,hp⟩:=hp
    dsimp only at pc hp ⊢
    subst pc
    refine T.br (λhp1=>T.some ⟨rfl,λh=>(by cases h),λh=>?_⟩) λhp1=>?_
    ·have:=hp.2 ⟨h.1,h.2.1,h.2.2.1⟩
     rw [hp1] at this;cases this
    obtain ⟨hpl,hlen,hrule⟩:=hp.1 hp1
    refine T.lp (ι:=Int × GChk) (λq=>0 <= q.1/\q.1 <= (x.fields.length:Int)/\q.2=zjl t false/\∀ (k:Nat),(k:Int) < q.1->∀ f w,x.fields[k]?=some f->v.l[k]?=some w->FldF x (FitX t h) k f w) (λq=>((x.fields.length:Int) - q.1).toNat) ⟨zIl _,by dsimp only;omega,rfl,λk hk=>by dsimp only at hk;omega⟩ (by dsimp only;omega) λL q ⟨q1,q2,q3,q4⟩ hL=>?_
    obtain ⟨q,c⟩:=q
    dsimp only at q1 q2 q3 q4 hL ⊢
    subst q3
    refine T.br (λhb2=>?_) λhb2=>?_
    ·have hb2:=zOT hb2
     refine T.jp (ι:=GChk) (λc=>c=zjl t false/\∀ f w,x.fields[q.toNat]?=some f->v.l[q.toNat]?=some w->FldF x (FitX t h) q.toNat f w) (λJ kk=>?_) λc hc2=>T.ck (by omega) (hL _ ⟨by dsimp only;omega,by dsimp only;omega,hc2.1,λk hk f w hkf hkw=>?_⟩ (by dsimp only;omega))
     ·refine T.get q1 hb2 λf hff=>T.get q1 (by omega) λw hw=>?_
      have hwm:=List.mem_of_getElem? hw
      have hcw:=zdh hwm
      have fin:FldF x (FitX t h) q.toNat f w->zjl t false=zjl t false/\∀ f w,x.fields[q.toNat]?=some f->v.l[q.toNat]?=some w->FldF x (FitX t h) q.toNat f w:=λhF=>⟨rfl,λf' w' hf' hw'=>by
       rw [hff] at hf';cases hf'
       rw [hw] at hw';cases hw'
       exact hF⟩
      refine T.br (λhz=>?_) λhz=>?_
      ·have hz:=zOT hz
       refine T.eq (zkr _) (T.orJ (d:=!(f.optional || f.has || decide (x.root <= q))) (λJ2 hh=>T.eq (zob q1 hff) hh) (T.br (λha=>T.some ⟨rfl,λh=>(by cases h),λh=>?_⟩) λha=>kk _ (fin ?_)))
       ·exfalso
        obtain ⟨g1,g2⟩:=(zlI q1 hz).1 (h.2.2.2.1 q.toNat f w hff hw)
        rw [zlV.2 g1,g2] at ha
        cases ha
       ·rw [Bool.or_eq_false_iff] at ha
        exact (zlI q1 hz).2 ⟨zlV.1 (nt ha.1),nt ha.2⟩
      ·have hz:=zOF hz
       refine T.ck (by omega) (T.cal (ih (by omega) (by omega) (by omega) (hf.kid w hwm) (by omega)) λy _ hy=>?_)
       refine T.jp (λb=>b=false ↔ y.1=true/\(f.has=true->w ≠ f.dflt)) (λJ2 k2=>T.br (λhy1=>k2 _ ⟨λh=>(by cases h),λh=>by rw [h.1] at hy1;cases hy1⟩) λhy2=>?_) λb hb2=>T.br (λhb3=>T.some ⟨hy.1,λh=>(by cases h),λh=>?_⟩) λhq=>?_
       ·have hy2:y.1=true:=by simpa using hy2
        refine T.jp (λb=>b=false ↔ (f.has=true->w ≠ f.dflt)) (λJ3 k3=>T.br (λhh=>T.cal (zsV (k:=100000) (n:=fuel) (by omega) (by unfold fuel;omega) (hf.kid w hwm) _) λr _ hr=>k3 _ ?_) λhh=>k3 _ ⟨λ_ h=>(by rw [hh] at h;cases h),λ_=>rfl⟩) λb hb3=>k2 _ ⟨λh=>⟨hy2,hb3.1 h⟩,λh=>hb3.2 h.2⟩
        constructor
        ·intro h1 _ h2
         rw [hr.2 h2] at h1;cases h1
        ·intro h1
         cases r with
         | false=>rfl
         | true=>exact absurd (hr.1 rfl) (h1 hh)
       ·exfalso
        obtain ⟨g1,g2⟩:=(zmR hz).1 (h.2.2.2.1 q.toNat f w hff hw)
        have:=hb2.2 ⟨hy.2.2 g1,g2⟩
        rw [hb3] at this;cases this
       ·obtain ⟨b1,b2⟩:=hb2.1 hq
        rw [hy.1]
        exact kk _ (fin ((zmR hz).2 ⟨hy.2.1 b1,b2⟩))
     ·dsimp only at hk
      rcases Int.lt_or_le (k:Int) q with h4 | h4
      ·exact q4 k h4 f w hkf hkw
      ·have:k=q.toNat:=by omega
       subst this
       exact hc2.2 f w hkf hkw
    ·have hb2:=zOF hb2
     have hfields:AllF x v (FitX t h):=λk f w h1 h2=>q4 k (by have:=(List.getElem?_eq_some_iff.1 h1).1;omega) f w h1 h2
     refine T.cal (groupsX ht i0 hx k78 hlen (λw hw hz=>?_) hfl hok.root0) λy _ hy=>T.some ⟨hy.1,by rw [hy.2];exact ⟨λh=>⟨hpl,hlen,hrule,hfields,h⟩,λh=>h.2.2.2.2⟩⟩
     obtain ⟨k,hk⟩:=List.mem_iff_getElem?.1 hw
     have hlt:=(List.getElem?_eq_some_iff.1 hk).1
     obtain ⟨f,hff⟩:∃ f,x.fields[k]?=some f:=⟨_,List.getElem?_eq_getElem (by omega)⟩
     exact (hfields k f w hff hk).elim (λh=>h.2.1) λh=>absurd hz h.1
   ·exfalso
    rw [eX] at hX
    unfold FitKX at hX
    rw [if_neg k1,if_neg k2,if_neg k3,if_neg k4,if_neg k56,if_neg k10,if_neg k9,if_neg (λh=>by rw [h78.2 h] at hb;cases hb)] at hX
    exact hX
end Go.Proofs.Q


namespace Go.Proofs.Q
open Go.Sy
set_option linter.unusedVariables false

theorem ztG {t:GTab} (ht:TabOk t) {h:Nat} {i:Int} {x:GTyp} {v:Val} {d:Int} {Fi Fs} (hT:TyF t i x) (hk:x.kind=7 \/ x.kind=8) (hf:Fine v) (hc:cnt v <= 100000) (hd:0 <= d/\d <= 17)
    (ih:∀ (j:Int) w,w ∈ v.l->T (λr=>r=true ↔ FitX t h j w) (Fi t j w (d + 1))):T (λr=>r=true ↔ pln v false false true true=true/\v.l.length=x.fields.length/\rwP t i x v=true/\AllF x v (FitX t h)/\∀ s ∈ slots x,Grp x v s) (zeH Fs Fi t i v d):=by
  unfold zeH
  have h0:=hT.i0
  have hi:=hT.i1
  have hx:=hT.at_
  have hok:=hT.ok
  have hfl:=hT.fl
  have hr0:=hok.root0
  have hvl:=hf.l
  refine T.eq hT.get (T.eq (zeA v _ _ _ _) (T.or' ?_))
  refine T.jp (λb=>b=false ↔ pln v false false true true=true/\v.l.length=x.fields.length/\rwP t i x v=true) (λJ kk=>T.br (λh1=>kk _ ⟨λh=>(by cases h),λh=>?_⟩) λh1=>T.eq (rawsR ht hT hf) (kk _ ?_)) λq7 h7=>T.br (λhq=>T.some ⟨λh=>(by cases h),λh=>?_⟩) λhq=>?_
  · exfalso
    rw [h.1,h.2.1,zDT rfl] at h1
    cases h1
  · rw [Bool.or_eq_false_iff] at h1
    rw [Bool.not_eq_false']
    exact ⟨λh=>⟨nt h1.1,zps h1.2,h⟩,λh=>h.2.2⟩
  · have:=h7.2 ⟨h.1,h.2.1,h.2.2.1⟩
    rw [hq] at this;cases this
  obtain ⟨hp,hlen,hrule⟩:=h7.1 hq
  refine T.lp (ι:=Int) (λ(q:Int)=>0 <= q/\q <= (x.fields.length:Int)/\∀ (k:Nat),(k:Int) < q->∀ f w,x.fields[k]?=some f->v.l[k]?=some w->FldF x (FitX t h) k f w) (λ(q:Int)=>((x.fields.length:Int) - q).toNat) ⟨zIl _,by omega,λk hk=>by omega⟩ (by omega) λL q ⟨q1,q2,q3⟩ hL=>T.br (λhb=>?_) λhb=>?_
  · have hb := zOT hb
    refine T.jp (ι:=Unit) (λ_=>∀ f w,x.fields[q.toNat]?=some f->v.l[q.toNat]?=some w->FldF x (FitX t h) q.toNat f w) (λJ kk=>?_) λ_ hu=>T.ck (by omega) (hL _ ⟨by omega,by omega,λk hk f w hkf hkw=>?_⟩ (by omega))
    · refine T.get q1 hb λf hff=>T.or' (T.get q1 (by omega) λw hw=>?_)
      have hwm:=List.mem_of_getElem? hw
      have hg:∀ {β:Type} {R:β->Prop} {K:Val->Option β},T R (K w)->T R (Sy.cal (getI v.l q) K):=λhK=>T.get q1 (by omega) λy hy=>by rw [hw] at hy;cases hy;exact hK
      have hcw:=zdh hwm
      have fin:FldF x (FitX t h) q.toNat f w->∀ f w,x.fields[q.toNat]?=some f->v.l[q.toNat]?=some w->FldF x (FitX t h) q.toNat f w:=λhF f' w' hf' hw'=>by
        rw [hff] at hf';cases hf'
        rw [hw] at hw';cases hw'
        exact hF
      refine T.br (λhz=>hg ?_) λhz=>hg ?_
      · have hz:=zOT hz
        refine T.cal (zny (k:=100000) (n:=fuel) (by omega) (by unfold fuel;omega) (hf.kid w hwm) _) λr _ hr=>T.orJ (d:=!(f.optional || f.has) && decide (q < x.root)) (λJ2 h2=>T.and' h2) (T.br (λha=>T.some ⟨λh=>(by cases h),λh=>?_⟩) λha=>kk _ (fin ?_))
        · exfalso
          obtain ⟨g1,g2⟩:=(zlI q1 hz).1 (h.2.2.2.1 q.toNat f w hff hw)
          rw [hr.2 g1,Bool.not_true,Bool.false_or,zBa] at ha
          have a2:=zOT ha.2
          rw [zDF (show ¬ x.root <= q by omega),Bool.or_false] at g2
          rw [g2] at ha
          cases ha.1
        · rw [Bool.or_eq_false_iff] at ha
          refine (zlI q1 hz).2 ⟨hr.1 (nt ha.1),?_⟩
          have h2:=ha.2
          rw [Bool.and_eq_false_iff] at h2
          rcases h2 with h2 | h2
          · rw [nt h2];rfl
          · rw [zDT (show x.root <= q by have:=zOF h2;omega)];simp
      · have hz:=zOF hz
        refine T.ck (by omega) (T.cal (ih f.ty w hwm) λy _ hy=>?_)
        refine T.jp (λb=>b=false ↔ y=true/\(f.has=true->w ≠ f.dflt)) (λJ2 k2=>T.br (λhy1=>k2 _ ⟨λh=>(by cases h),λh=>by rw [h.1] at hy1;cases hy1⟩) λhy2=>?_) λb hb2=>T.br (λhb3=>T.some ⟨λh=>(by cases h),λh=>?_⟩) λhq=>kk _ (fin ?_)
        · have hy2:y=true:=by simpa using hy2
          refine T.jp (λb=>b=false ↔ (f.has=true->w ≠ f.dflt)) (λJ3 k3=>T.br (λhh=>hg (T.cal (zny (k:=100000) (n:=fuel) (by omega) (by unfold fuel;omega) (hf.kid w hwm) _) λr _ hr=>k3 _ ?_)) λhh=>k3 _ ⟨λ_ h=>(by rw [hh] at h;cases h),λ_=>rfl⟩) λb hb3=>k2 _ ⟨λh=>⟨hy2,hb3.1 h⟩,λh=>hb3.2 h.2⟩
          constructor
          · intro h1 _ h2
            rw [hr.2 h2] at h1;cases h1
          · intro h1
            cases r with
            | false=>rfl
            | true=>exact absurd (hr.1 rfl) (h1 hh)
        · exfalso
          obtain ⟨g1,g2⟩:=(zmR hz).1 (h.2.2.2.1 q.toNat f w hff hw)
          have:=hb2.2 ⟨hy.2 g1,g2⟩
          rw [hb3] at this;cases this
        · obtain ⟨b1,b2⟩:=hb2.1 hq
          exact (zmR hz).2 ⟨hy.1 b1,b2⟩
    · rcases Int.lt_or_le (k:Int) q with h4 | h4
      · exact q3 k h4 f w hkf hkw
      · have:k=q.toNat:=by omega
        subst this
        exact hu f w hkf hkw
  have hb:=zOF hb
  have hfields:AllF x v (FitX t h):=λk f w h1 h2=>q3 k (by have:=(List.getElem?_eq_some_iff.1 h1).1;omega) f w h1 h2
  clear hL q3
  refine T.eq (zkY ht i) ?_
  rw [zn8 h0 hx hk]
  have hsl:=zmf hr0
  refine T.lp (ι:=Int) (λ(q:Int)=>0 <= q/\q <= ((slots x).length:Int)/\∀ (k:Nat),(k:Int) < q->∀ s,(slots x)[k]?=some s->Grp x v s) (λ(q:Int)=>(((slots x).length:Int) - q).toNat) ⟨zIl _,by omega,λk hk=>by omega⟩ (by omega) λL q ⟨q1,q2,q3⟩ hL=>T.br (λhb=>?_) λhb=>T.some ⟨λ_=>⟨hp,hlen,hrule,hfields,λs hs=>?_⟩,λ_=>rfl⟩
  · have hb:=zOT hb
    obtain ⟨s,hs⟩:∃ s,(slots x)[q.toNat]?=some s:=⟨_,List.getElem?_eq_getElem (by omega)⟩
    have hg:∀ {β:Type} {R:β->Prop} {K:List Int->Option β},T R (K s)->T R (Sy.cal (getI (slots x) q) K):=λhK=>T.get q1 hb λy hy=>by rw [hs] at hy;cases hy;exact hK
    have hsm:=List.mem_of_getElem? hs
    obtain ⟨k0,r,e0,e1,e2⟩:=zp3 hr0 s hsm
    have hsl2:=znf hr0 s hsm
    refine T.lp (ι:=Bool × Bool × Int) (λp=>0 <= p.2.2/\p.2.2 <= (s.length:Int)/\p.1=(s.take p.2.2.toNat).any (thr v)/\p.2.1=(s.take p.2.2.toNat).any (lck x v)) (λp=>((s.length:Int) - p.2.2).toNat) ⟨zIl _,by dsimp only;omega,rfl,rfl⟩ (by dsimp only;omega) λL2 p ⟨p1,p2,p3,p4⟩ hL2=>hg (T.br (λhc2=>?_) λhc2=>?_)
    · obtain ⟨so,la,m⟩:=p
      dsimp only at p1 p2 p3 p4 hL2 hc2 ⊢
      have hc2:=zOT hc2
      have em:(m + 1).toNat=m.toNat + 1:=by omega
      refine hg (T.get p1 hc2 λk hk=>?_)
      obtain ⟨k1,k2⟩:=e2 k (List.mem_of_getElem? hk)
      refine T.get (by omega) k2 λf hff=>hg (T.get p1 hc2 λk' hk'=>?_)
      rw [hk] at hk';cases hk'
      refine T.get (by omega) (by omega) λw hw=>T.or' ?_
      have eth:(!decide (w.kind=0))=thr v k:=by unfold thr;rw [hw]
      have elk:(!(!decide (w.kind=0)) && (!f.optional) && (!f.has))=lck x v k:=by
        unfold lck
        rw [<- eth,hff]
        show _=(!(!decide (w.kind=0)) && !(f.optional || f.has))
        cases decide (w.kind=0) <;> cases f.optional <;> cases f.has <;> rfl
      refine T.orJ (d:=lck x v k) (λJ h2=>T.and' (T.and' ?_)) (T.ck (by omega) (hL2 _ ⟨by dsimp only;omega,by dsimp only;omega,?_,?_⟩ (by dsimp only;omega)))
      · rw [elk];exact h2
      · dsimp only;rw [em,zlt hk,p3,eth]
      · dsimp only;rw [em,zlt hk,p4]
    · obtain ⟨so,la,m⟩:=p
      dsimp only at p1 p2 p3 p4 hL2 hc2 ⊢
      have hc2:=zOF hc2
      rw [zTl (by omega)] at p3 p4
      refine hg (T.get (zIl _) (by rw [e0,zLc];omega) λk hk=>?_)
      have ek:k=k0:=by rw [e0] at hk;simpa using hk.symm
      subst ek
      obtain ⟨k1,k2⟩:=e2 k (by rw [e0];exact zMs)
      have eg:∀ f,x.fields[k.toNat]?=some f->grp x.fields (s.headD 0)=f.group:=λf hff=>by
        rw [e0]
        show grp x.fields k=_
        unfold grp
        rw [hff];rfl
      refine T.get (by omega) k2 λf hff=>T.and' (T.and' (T.br (λhb3=>T.some ⟨λh=>(by cases h),λh=>?_⟩) λhq=>T.ck (by omega) (hL _ ⟨by omega,by omega,λn hn s' hs'=>?_⟩ (by omega))))
      · exfalso
        have h9:=h.2.2.2.2 s hsm
        unfold Grp at h9
        rw [eg f hff,<- p3,<- p4] at h9
        rw [h9] at hb3
        cases hb3
      rcases Int.lt_or_le (n:Int) q with h4 | h4
      · exact q3 n h4 s' hs'
      · have:n=q.toNat:=by omega
        subst this
        rw [hs] at hs';cases hs'
        unfold Grp
        rw [eg f hff,<- p3,<- p4]
        exact hq
  · have hb:=zOF hb
    obtain ⟨n,hn⟩:=List.mem_iff_getElem?.1 hs
    exact q3 n (by have:=(List.getElem?_eq_some_iff.1 hn).1;omega) s hn
theorem fitsXR {t:GTab} (ht:TabOk t):∀ {h n:Nat} {i:Int} {v:Val} {d:Int},0 <= d->d + h=18->2 * h + 2 <= n->Fine v->cnt v <= 100000->T (λr=>r=true ↔ FitX t h i v) (zgG n t i v d):=by
 intro h
 induction h with
 | zero =>
  intro n i v d d0 hd hn hf hc
  obtain ⟨n,rfl⟩:∃ n',n=n' + 1:=⟨n - 1,by omega⟩
  show T _ (zfa (zi0 n) (zgG n) t i v d)
  unfold zfa
  refine T.or' (T.or' (T.br (λ_=>T.some ⟨λh=>(by cases h),λh=>h.elim⟩) λhq=>?_))
  rw [Bool.or_eq_false_iff] at hq
  have:=zOF hq.2
  omega
 | succ h ih =>
  intro n i v d d0 hd hn hf hc
  obtain ⟨n,rfl⟩:∃ n',n=n' + 2:=⟨n - 2,by omega⟩
  show T _ (zfa (zi0 (n + 1)) (zgG (n + 1)) t i v d)
  unfold zfa
  have htl:=ht.types
  have hvl:=hf.l
  refine T.or' (T.or' (T.br (λhq=>T.some ⟨λh=>(by cases h),λhX=>?_⟩) λhq=>?_))
  ·rw [Bool.or_eq_true,Bool.or_eq_true] at hq
   rcases hq with (hq | hq) | hq
   ·exact absurd hX (zlC (.inl (zOT hq)))
   ·exact absurd hX (zlC (.inr (zOT hq)))
   ·have:=zOT hq;omega
  rw [Bool.or_eq_false_iff,Bool.or_eq_false_iff] at hq
  have i0:0 <= i:=by have:=zOF hq.1.1;omega
  have i1:i < t.types.length:=by have:=zOF hq.1.2;omega
  obtain ⟨x,hT⟩:=ztB ht i0 i1
  have hx:=hT.at_
  have hok:=hT.ok
  have hil:=hok.ilen
  have kid:∀ (j:Int) w,w ∈ v.l->T (λr=>r=true ↔ FitX t h j w) (zgG (n + 1) t j w (d + 1)):=λj w hw=>ih (by omega) (by omega) (by omega) (hf.kid w hw) (by have:=zdh hw;omega)
  refine T.eq hT.get (T.br (λh12=>T.eq (unkR ht hT hf) (T.some (zrH i0 hx (zOT h12)).symm)) λh12=>T.br (λhne=>T.some ⟨λh=>(by cases h),λhX=>absurd hX (zrT hx (zOF h12) (by simpa using hne))⟩) λhkk=>?_)
  have h12:=zOF h12
  have hkk:v.kind=x.kind:=by simpa using hkk
  have eX:=zr4 (h:=h) i0 hx h12 hkk
  refine T.br (λk1=>?_) λk1=>T.br (λk2=>?_) λk2=>T.br (λk3=>?_) λk3=>T.br (λk4=>?_) λk4=>?_
  ·refine T.eq (zeA v _ _ _ _) (T.andJ (d:=decide (v.n=0) || decide (v.n=1)) (λJ hh=>T.or' hh) (T.some ?_))
   rw [eX];unfold FitKX;rw [if_pos (zOT k1),zBa]
  ·have k1:=zOF k1
   refine T.eq (zeA v _ _ _ _) (T.andJ (d:=x.con.more || wthn x.con v.n) (λJ hh=>T.orJ (d:=wthn x.con v.n) (λJ2 h2=>T.eq (zk5 _ _) h2) hh) (T.some ?_))
   rw [eX];unfold FitKX;rw [if_neg k1,if_pos (zOT k2),zBa]
  ·have k1:=zOF k1
   have k2:=zOF k2
   refine T.eq (zeA v _ _ _ _) (T.andJ (d:=hasI x v.n) (λJ hh=>T.cal (znK x v.n (by omega)) λy _ hy=>?_) (T.some ?_))
   ·have:decide (0 <= y)=hasI x v.n:=by
     by_cases h0:y < 0
     ·rw [zDT h0] at hy;rw [zDF (by omega)];simpa using hy
     ·rw [zDF h0] at hy;rw [zDT (by omega)];simpa using hy
    rw [this];exact hh
   ·rw [eX];unfold FitKX;rw [if_neg k1,if_neg k2,if_pos (zOT k3),zBa]
  ·have k1:=zOF k1
   have k2:=zOF k2
   have k3:=zOF k3
   refine T.eq (zeA v _ _ _ _) (T.some ?_)
   rw [eX];unfold FitKX;rw [if_neg k1,if_neg k2,if_neg k3,if_pos (zOT k4)]
  have k1:=zOF k1
  have k2:=zOF k2
  have k3:=zOF k3
  have k4:=zOF k4
  refine T.jp (λb=>b=true ↔ (x.kind=5 \/ x.kind=6)) (λJ kk=>T.br (λh5=>kk _ ⟨λ_=>.inl (zOT h5),λ_=>h5⟩) λh5=>kk _ (by rw [decide_eq_true_iff];exact ⟨.inr,λh=>h.resolve_left (zOF h5)⟩)) λb56 h56=>T.br (λhb=>?_) λhb=>?_
  ·have k56:=h56.1 hb
   refine T.eq (zeA v _ _ _ _) (T.and' (T.andJ (d:=x.con.more || wthn x.con (v.b.length:Int)) (λJ hh=>T.orJ (d:=wthn x.con (v.b.length:Int)) (λJ2 h2=>T.eq (zk5 _ _) h2) hh) ?_))
   refine T.jp (λb=>b=true ↔ (pln v false true false false=true/\(v.b.length:Int) <= 70000/\(x.con.more || wthn x.con (v.b.length:Int))=true)/\(x.kind=5 \/ zcs v.b=some true)) (λJ kk=>T.br (λhp=>?_) λhp=>kk _ ⟨λh=>(by cases h),λh=>?_⟩) λb hb2=>T.some (by rw [hb2,eX];unfold FitKX;rw [if_neg k1,if_neg k2,if_neg k3,if_neg k4,if_pos k56])
   ·rw [zBa,zBa] at hp
    have hp1:=zOT hp.1.2
    refine T.jp (λb=>b=true ↔ (x.kind=5 \/ zcs v.b=some true)) (λJ2 k2=>T.br (λh5=>k2 _ ⟨λ_=>.inl (zOT h5),λ_=>rfl⟩) λh5=>T.cal (zm2 v.b (by omega)) λy hy _=>k2 _ ?_) λb hb3=>kk _ ⟨λh=>⟨⟨hp.1.1,hp1,hp.2⟩,hb3.1 h⟩,λh=>hb3.2 h.2⟩
    rw [hy]
    exact ⟨λh=>.inr (by rw [h]),λh=>by have:=h.resolve_left (zOF h5);injection this⟩
   ·exfalso
    rw [zDT h.1.2.1,h.1.2.2,h.1.1] at hp
    cases hp
  have k56:¬ (x.kind=5 \/ x.kind=6):=λh=>by rw [h56.2 h] at hb;cases hb
  refine T.br (λk10=>?_) λk10=>T.br (λk9=>?_) λk9=>?_
  ·have k10:=zOT k10
   have eK:FitX t (h + 1) i v ↔ pln v false false true false=true/\(x.con.more || wthn x.con (v.l.length:Int))=true/\∀ w ∈ v.l,FitX t h x.of w:=by
    rw [eX];unfold FitKX;rw [if_neg k1,if_neg k2,if_neg k3,if_neg k4,if_neg k56,if_pos k10]
   refine T.eq (zeA v _ _ _ _) (T.orJ (d:=!x.con.more && !wthn x.con (v.l.length:Int)) (λJ hh=>T.andJ (d:=!wthn x.con (v.l.length:Int)) (λJ2 h2=>T.eq (zk5 _ _) h2) hh) (T.br (λhq2=>T.some ⟨λh=>(by cases h),λhX=>?_⟩) λhq2=>?_))
   ·exfalso
    obtain ⟨g1,g2,_⟩:=eK.1 hX
    rw [g1,Bool.not_true,Bool.false_or,<- Bool.not_or,g2] at hq2
    cases hq2
   rw [Bool.or_eq_false_iff] at hq2
   have hp:pln v false false true false=true:=by simpa using hq2.1
   have hw:(x.con.more || wthn x.con (v.l.length:Int))=true:=by
    have:=hq2.2
    cases h1:x.con.more <;> cases h2:wthn x.con (v.l.length:Int) <;> simp_all
   refine T.lp (ι:=Int) (λ(q:Int)=>0 <= q/\q <= (v.l.length:Int)/\∀ (k:Nat),(k:Int) < q->∀ w,v.l[k]?=some w->FitX t h x.of w) (λ(q:Int)=>((v.l.length:Int) - q).toNat) ⟨zIl _,by omega,λk hk=>by omega⟩ (by omega) λL q ⟨q1,q2,q3⟩ hL=>T.br (λhb=>?_) λhb=>T.some ⟨λ_=>eK.2 ⟨hp,hw,λw hw=>?_⟩,λ_=>rfl⟩
   ·have hb:=zOT hb
    refine T.get q1 hb λw hw=>T.ck (by omega) (T.cal (kid x.of w (List.mem_of_getElem? hw)) λy _ hy=>T.br (λhy1=>T.some ⟨λh=>(by cases h),λhX=>?_⟩) λhy2=>T.ck (by omega) (hL _ ⟨by omega,by omega,λk hk w' hw'=>?_⟩ (by omega)))
    ·exfalso
     have:=hy.2 ((eK.1 hX).2.2 w (List.mem_of_getElem? hw))
     rw [this] at hy1;cases hy1
    rcases Int.lt_or_le (k:Int) q with h4 | h4
    ·exact q3 k h4 w' hw'
    ·have:k=q.toNat:=by omega
     subst this
     rw [hw] at hw';cases hw'
     exact hy.1 (by simpa using hy2)
   ·have hb:=zOF hb
    obtain ⟨k,hk⟩:=List.mem_iff_getElem?.1 hw
    exact q3 k (by have:=(List.getElem?_eq_some_iff.1 hk).1;omega) w hk
  ·have k10:=zOF k10
   have k9:=zOT k9
   have eK:FitX t (h + 1) i v ↔ pln v true false true false=true/\0 <= v.n/\∃ f w,x.fields[v.n.toNat]?=some f/\v.l=[w]/\FitX t h f.ty w:=by
    rw [eX];unfold FitKX;rw [if_neg k1,if_neg k2,if_neg k3,if_neg k4,if_neg k56,if_neg k10,if_pos k9]
   refine T.eq (zeA v _ _ _ _) (T.and' (T.and' (T.and' ?_)))
   refine T.jp (λb=>b=true ↔ FitX t (h + 1) i v) (λJ kk=>T.br (λhp=>?_) λhp=>kk _ ⟨λh=>(by cases h),λhX=>?_⟩) λb hb=>T.some hb
   ·rw [zBa,zBa,zBa] at hp
    have hn0:=zOT hp.1.1.2
    have hnl:=zOT hp.1.2
    have hl1:=zOT hp.2
    obtain ⟨w,hw⟩:=List.length_eq_one_iff.1 (show v.l.length=1 by omega)
    have hwm:w ∈ v.l:=by rw [hw];exact zMo.2 rfl
    refine T.get hn0 hnl λf hff=>T.eq (y:=w) (by rw [hw];rfl) (T.ck (by omega) (T.cal (kid f.ty w hwm) λy _ hy=>kk _ ?_))
    rw [hy,eK]
    constructor
    ·exact λhr=>⟨hp.1.1.1,hn0,f,w,hff,hw,hr⟩
    ·rintro ⟨_,_,f',w',h1,h2,h3⟩
     rw [hff] at h1;cases h1
     rw [hw] at h2
     have:w=w':=by simpa using h2
     rw [this];exact h3
   ·exfalso
    obtain ⟨h1,h2,f,w,h3,h4,_⟩:=eK.1 hX
    have hlt:=(List.getElem?_eq_some_iff.1 h3).1
    rw [zDT h2,zDT (show v.n < (x.fields.length:Int) by omega),h4,h1] at hp
    cases hp
  ·have k10:=zOF k10
   have k9:=zOF k9
   refine T.jp (λb=>b=true ↔ (x.kind=7 \/ x.kind=8)) (λJ kk=>T.br (λh5=>kk _ ⟨λ_=>.inl (zOT h5),λ_=>h5⟩) λh5=>kk _ (by rw [decide_eq_true_iff];exact ⟨.inr,λh=>h.resolve_left (zOF h5)⟩)) λb78 h78=>T.br (λhb=>?_) λhb=>T.some ⟨λh=>(by cases h),λhX=>?_⟩
   ·have k78:=h78.1 hb
    have eK:FitX t (h + 1) i v ↔ pln v false false true true=true/\v.l.length=x.fields.length/\rwP t i x v=true/\AllF x v (FitX t h)/\∀ s ∈ slots x,Grp x v s:=by
     rw [eX];unfold FitKX;rw [if_neg k1,if_neg k2,if_neg k3,if_neg k4,if_neg k56,if_neg k10,if_neg k9,if_pos k78];exact Iff.rfl
    refine T.cal (Q:=λr=>r=true ↔ FitX t (h + 1) i v) ?_ λy _ hy=>T.some hy
    rw [eK]
    show T _ (zeH (zi0 n) (zgG n) t i v d)
    exact ztG ht hT k78 hf hc (by omega) λj w hw=>ih (by omega) (by omega) (by omega) (hf.kid w hw) (by have:=zdh hw;omega)
   ·exfalso
    rw [eX] at hX
    unfold FitKX at hX
    rw [if_neg k1,if_neg k2,if_neg k3,if_neg k4,if_neg k56,if_neg k10,if_neg k9,if_neg (λh=>by rw [h78.2 h] at hb;cases hb)] at hX
    exact hX
end Go.Proofs.Q


namespace Go.Proofs.Q
open Go.Sy
set_option linter.unusedVariables false

/-! ### Numbers as the laws' helper writes them -/
theorem zqJ (v:UInt64) (h:v.toNat < 10):((48:UInt64) + v).toUInt8=UInt8.ofNat (48 + v.toNat):=by
 refine UInt8.toNat_inj.1 ?_
 rw [UInt64.toNat_toUInt8,UInt64.toNat_add,UInt8.toNat_ofNat',show (48:UInt64).toNat=48 from rfl]
 omega
theorem zsg:∀ (k m:Nat) (v:UInt64),v.toNat < 10 ^ (k + 1)->k + 1 <= m->k <= 100->zgv m v=some ⟨Lib.decDigits v.toNat⟩:=by
 intro k
 induction k with
 | zero =>
  intro m v hv hm _
  obtain ⟨m,rfl⟩:∃ m',m=m' + 1:=⟨m - 1,by omega⟩
  refine T.eqs ?_
  show T _ (zfd (zgv m) v)
  unfold zfd
  have hv:v.toNat < 10:=by simpa using hv
  refine T.br (λ_=>T.some ?_) λh=>absurd (UInt64.lt_iff_toNat_lt.2 (by exact hv)) (zOF h)
  rw [Lib.decDigits_one hv,zqJ v hv]
 | succ k ih =>
  intro m v hv hm hk
  obtain ⟨m,rfl⟩:∃ m',m=m' + 1:=⟨m - 1,by omega⟩
  refine T.eqs ?_
  show T _ (zfd (zgv m) v)
  unfold zfd
  refine T.br (λh=>T.some ?_) λh=>?_
  ·have hv:v.toNat < 10:=UInt64.lt_iff_toNat_lt.1 (zOT h)
   rw [Lib.decDigits_one hv,zqJ v hv]
  ·have hv10:¬ v.toNat < 10:=λh2=>zOF h (UInt64.lt_iff_toNat_lt.2 h2)
   have e1:(v / 10).toNat=v.toNat / 10:=by rw [UInt64.toNat_div];rfl
   have e2:(v % 10).toNat=v.toNat % 10:=by rw [UInt64.toNat_mod];rfl
   have hd:(v / 10).toNat < 10 ^ (k + 1):=by
    rw [e1];rw [Nat.pow_succ] at hv;omega
   have hl:=zle k (v / 10).toNat hd
   refine T.jp (ι:=Str) (λz=>z=⟨Lib.decDigits v.toNat⟩) (λJ kk=>T.asr rfl (T.asr rfl (T.eq (ih m (v / 10) hd (by omega) (by omega)) (T.abl (by simp only [zLc,zLn];omega) (kk _ ?_))))) λz hz=>T.some hz
   conv=>rhs;rw [Lib.decDigits,dif_neg hv10]
   rw [e1,zqJ _ (by rw [e2];omega),e2]
theorem zpO (v:UInt64):zgv fuel v=some ⟨Lib.decDigits v.toNat⟩:=zsg 19 fuel v (by
 have:=v.toNat_lt
 have h9:(10:Nat) ^ (19 + 1)=100000000000000000000:=by decide
 omega) (by unfold fuel;decide) (by decide)
theorem zuD {n:Int} (hn:inI64 n):zjt n=some ⟨Lib.itoa n⟩:=by
 unfold inI64 at hn
 refine T.eqs ?_
 unfold zjt Lib.itoa
 refine T.br (λh=>?_) λh=>?_
 ·have h:=zOT h
  rw [if_pos h]
  have e:(UInt64.ofNat ((-(n + 1)) % 18446744073709551616).toNat + 1).toNat=n.natAbs:=by
   rw [UInt64.toNat_add,UInt64.toNat_ofNat',show (1:UInt64).toNat=1 from rfl];omega
  have hl:=zle 19 n.natAbs (by
   have h9:(10:Nat) ^ (19 + 1)=100000000000000000000:=by decide
   omega)
  refine T.ck (by omega) (T.ck (by omega) (T.eq (zpO _) ?_))
  rw [e]
  exact T.abl (by simp only [zLc,zLn];omega) (T.some rfl)
 ·have h:=zOF h
  rw [if_neg h]
  have e:(UInt64.ofNat (n % 18446744073709551616).toNat).toNat=n.toNat:=by rw [UInt64.toNat_ofNat'];omega
  refine T.eq (zpO _) ?_
  rw [e]
  exact T.some rfl

end Go.Proofs.Q


namespace Go.Proofs.Q
open Go.Sy
set_option maxRecDepth 4000
def zk8 (a_b:(List UInt8)):Option (Str) :=
 lp (ι:=Str × Int) (λL2 q1=>br (decide (q1.2 < (a_b.length:Int))) (cal (getI a_b q1.2) λy14=>asr (Nat.ble (4:UInt64).toNat 8) <| cal (getI a_b q1.2) λy16=>asr (Nat.ble (4:UInt64).toNat 8) <| asr (decide (((shr8 y14 (4:UInt64).toNat).toNat:Int) <= (((shr8 y16 (4:UInt64).toNat) + (1:UInt8)).toNat:Int)/\(((shr8 y16 (4:UInt64).toNat) + (1:UInt8)).toNat:Int) <= ((Str.mk [48,49,50,51,52,53,54,55,56,57,65,66,67,68,69,70]).b.length:Int))) <| asr (Nat.ble (q1.1.b.length + (Str.mk (((Str.mk [48,49,50,51,52,53,54,55,56,57,65,66,67,68,69,70]).b.take ((((shr8 y16 (4:UInt64).toNat) + (1:UInt8)).toNat:Int)).toNat).drop (((shr8 y14 (4:UInt64).toNat).toNat:Int)).toNat)).b.length) 4611686018427387904) <| cal (getI a_b q1.2) λy20=>cal (getI a_b q1.2) λy21=>asr (decide (((y20 &&& (15:UInt8)).toNat:Int) <= (((y21 &&& (15:UInt8)) + (1:UInt8)).toNat:Int)/\(((y21 &&& (15:UInt8)) + (1:UInt8)).toNat:Int) <= ((Str.mk [48,49,50,51,52,53,54,55,56,57,65,66,67,68,69,70]).b.length:Int))) <| asr (Nat.ble ((Str.mk (q1.1.b ++ (Str.mk (((Str.mk [48,49,50,51,52,53,54,55,56,57,65,66,67,68,69,70]).b.take ((((shr8 y16 (4:UInt64).toNat) + (1:UInt8)).toNat:Int)).toNat).drop (((shr8 y14 (4:UInt64).toNat).toNat:Int)).toNat)).b)).b.length + (Str.mk (((Str.mk [48,49,50,51,52,53,54,55,56,57,65,66,67,68,69,70]).b.take ((((y21 &&& (15:UInt8)) + (1:UInt8)).toNat:Int)).toNat).drop (((y20 &&& (15:UInt8)).toNat:Int)).toNat)).b.length) 4611686018427387904) <| ck ((q1.2 + (1:Int))) <| L2 ((Str.mk ((Str.mk (q1.1.b ++ (Str.mk (((Str.mk [48,49,50,51,52,53,54,55,56,57,65,66,67,68,69,70]).b.take ((((shr8 y16 (4:UInt64).toNat) + (1:UInt8)).toNat:Int)).toNat).drop (((shr8 y14 (4:UInt64).toNat).toNat:Int)).toNat)).b)).b ++ (Str.mk (((Str.mk [48,49,50,51,52,53,54,55,56,57,65,66,67,68,69,70]).b.take ((((y21 &&& (15:UInt8)) + (1:UInt8)).toNat:Int)).toNat).drop (((y20 &&& (15:UInt8)).toNat:Int)).toNat)).b)),(q1.2 + (1:Int)))) (some (q1.1))) (((Str.mk []),(0:Int)))

def zgd (a_v:Val):Option (Str) :=
 br (decide (a_v.kind=(1:Int))) (br (!decide (a_v.n=(0:Int))) (some ((Str.mk [84,82,85,69]))) (some ((Str.mk [70,65,76,83,69])))) (br (decide (a_v.kind=(4:Int))) (some ((Str.mk [78,85,76,76]))) (br (decide (a_v.kind=(2:Int))) (cal (zjt a_v.n) λy1=>some (y1)) (br (decide (a_v.kind=(3:Int))) (some ((Str.mk a_v.b))) (br (decide (a_v.kind=(5:Int))) (cal (zk8 a_v.b) λy2=>asr (Nat.ble ((Str.mk [39]).b.length + y2.b.length) 4611686018427387904) <| asr (Nat.ble ((Str.mk ((Str.mk [39]).b ++ y2.b)).b.length + (Str.mk [39,72]).b.length) 4611686018427387904) <| some ((Str.mk ((Str.mk ((Str.mk [39]).b ++ y2.b)).b ++ (Str.mk [39,72]).b)))) (br (decide (a_v.kind=(6:Int))) (lp (ι:=Str × Int) (λL6 q5=>br (decide (q5.2 < (a_v.b.length:Int))) (jp (ι:=Str) (λJ17=>ck ((q5.2 + (1:Int))) <| asr (decide (0 <= q5.2/\q5.2 <= (q5.2 + (1:Int))/\(q5.2 + (1:Int)) <= (a_v.b.length:Int))) <| asr (Nat.ble (q5.1.b.length + (Str.mk ((a_v.b.take ((q5.2 + (1:Int))).toNat).drop (q5.2).toNat)).b.length) 4611686018427387904) <| cal (getI a_v.b q5.2) λy21=>br (decide (y21=(34:UInt8))) (asr (Nat.ble ((Str.mk (q5.1.b ++ (Str.mk ((a_v.b.take ((q5.2 + (1:Int))).toNat).drop (q5.2).toNat)).b)).b.length + (Str.mk [34]).b.length) 4611686018427387904) <| J17 ((Str.mk ((Str.mk (q5.1.b ++ (Str.mk ((a_v.b.take ((q5.2 + (1:Int))).toNat).drop (q5.2).toNat)).b)).b ++ (Str.mk [34]).b)))) (J17 ((Str.mk (q5.1.b ++ (Str.mk ((a_v.b.take ((q5.2 + (1:Int))).toNat).drop (q5.2).toNat)).b))))) (λq16=>ck ((q5.2 + (1:Int))) <| L6 (q16,(q5.2 + (1:Int))))) (asr (Nat.ble (q5.1.b.length + (Str.mk [34]).b.length) 4611686018427387904) <| some ((Str.mk (q5.1.b ++ (Str.mk [34]).b))))) (((Str.mk [34]),(0:Int)))) (some ((Str.mk []))))))))

def zhx (zgY:GTab->Int->Val->Option (Str)) (a_t:GTab) (a_i:Int) (a_v:Val):Option (Str) :=
 cal (getI a_t.types a_i) λy1=>br (decide (y1.kind=(3:Int))) (cal (zex y1 a_v.n) λy3=>cal (getI y1.items y3) λy4=>some (y4.name)) (br (decide (y1.kind=(10:Int))) (br (decide ((a_v.l.length:Int)=(0:Int))) (some ((Str.mk [123,125]))) (lp (ι:=Str × Int) (λL6 q5=>br (decide (q5.2 < (a_v.l.length:Int))) (jp (ι:=Str) (λJ16=>br (decide ((0:Int) < q5.2)) (asr (Nat.ble (q5.1.b.length + (Str.mk [44,32]).b.length) 4611686018427387904) <| J16 ((Str.mk (q5.1.b ++ (Str.mk [44,32]).b)))) (J16 (q5.1))) (λq15=>cal (getI a_v.l q5.2) λy18=>cal (zgY a_t y1.of y18) λy19=>asr (Nat.ble (q15.b.length + y19.b.length) 4611686018427387904) <| ck ((q5.2 + (1:Int))) <| L6 ((Str.mk (q15.b ++ y19.b)),(q5.2 + (1:Int))))) (asr (Nat.ble (q5.1.b.length + (Str.mk [32,125]).b.length) 4611686018427387904) <| some ((Str.mk (q5.1.b ++ (Str.mk [32,125]).b))))) (((Str.mk [123,32]),(0:Int))))) (br (decide (y1.kind=(9:Int))) (cal (getI y1.fields a_v.n) λy24=>asr (Nat.ble (y24.name.b.length + (Str.mk [32,58,32]).b.length) 4611686018427387904) <| cal (getI y1.fields a_v.n) λy26=>cal (getI a_v.l (0:Int)) λy27=>cal (zgY a_t y26.ty y27) λy28=>asr (Nat.ble ((Str.mk (y24.name.b ++ (Str.mk [32,58,32]).b)).b.length + y28.b.length) 4611686018427387904) <| some ((Str.mk ((Str.mk (y24.name.b ++ (Str.mk [32,58,32]).b)).b ++ y28.b)))) (jp (ι:=Bool) (λJ31=>br (decide (y1.kind=(7:Int))) (J31 ((decide (y1.kind=(7:Int))))) (J31 ((decide (y1.kind=(8:Int)))))) (λq30=>br q30 (lp (ι:=Str × Int) (λL33 q32=>br (decide (q32.2 < (a_v.l.length:Int))) (jp (ι:=Str) (λJ51=>cal (getI a_v.l q32.2) λy52=>br (decide (y52.kind=(0:Int))) (J51 (q32.1)) (jp (ι:=Str) (λJ54=>br (!decide (q32.1=(Str.mk []))) (asr (Nat.ble (q32.1.b.length + (Str.mk [44,32]).b.length) 4611686018427387904) <| J54 ((Str.mk (q32.1.b ++ (Str.mk [44,32]).b)))) (J54 (q32.1))) (λq53=>cal (getI y1.fields q32.2) λy56=>asr (Nat.ble (q53.b.length + y56.name.b.length) 4611686018427387904) <| asr (Nat.ble ((Str.mk (q53.b ++ y56.name.b)).b.length + (Str.mk [32]).b.length) 4611686018427387904) <| cal (getI y1.fields q32.2) λy59=>cal (getI a_v.l q32.2) λy60=>cal (zgY a_t y59.ty y60) λy61=>asr (Nat.ble ((Str.mk ((Str.mk (q53.b ++ y56.name.b)).b ++ (Str.mk [32]).b)).b.length + y61.b.length) 4611686018427387904) <| J51 ((Str.mk ((Str.mk ((Str.mk (q53.b ++ y56.name.b)).b ++ (Str.mk [32]).b)).b ++ y61.b)))))) (λq50=>ck ((q32.2 + (1:Int))) <| L33 (q50,(q32.2 + (1:Int))))) (br (decide (q32.1=(Str.mk []))) (some ((Str.mk [123,125]))) (asr (Nat.ble ((Str.mk [123,32]).b.length + q32.1.b.length) 4611686018427387904) <| asr (Nat.ble ((Str.mk ((Str.mk [123,32]).b ++ q32.1.b)).b.length + (Str.mk [32,125]).b.length) 4611686018427387904) <| some ((Str.mk ((Str.mk ((Str.mk [123,32]).b ++ q32.1.b)).b ++ (Str.mk [32,125]).b)))))) (((Str.mk []),(0:Int)))) (cal (zgd a_v) λy67=>some (y67))))))
def zlM:Nat->(GTab->Int->Val->Option (Str))
 | 0=>(λ_ _ _=>none)
 | n + 1=>let p:=zlM n;(zhx p)
def zjU (n:Nat):GTab->Int->Val->Option (Str):=(zlM n)

def zgf (a_t:GTab) (a_i:Int) (a_v:Val):Option (Str × Int) :=
 cal (zjY a_t a_i a_v) λy1=>br (!y1) (some ((Str.mk []),(13:Int))) (cal (zjV fuel a_v) λy2=>br (!y2) (some ((Str.mk []),(16:Int))) (cal (zjU fuel a_t a_i a_v) λy3=>br (decide ((8000:Int) < (y3.b.length:Int))) (some ((Str.mk []),(5:Int))) (some (y3,(0:Int)))))

def zeG (zbV:Str) (zgt:Int) (a_v:Val):Option (Bool) :=
 cal (zbD zbV) λy1=>cal (zer y1.1 zgt) λy3=>jp (ι:=Bool) (λJ5=>br (!y1.2) (J5 (true)) (J5 ((!y3.2)))) (λq4=>jp (ι:=Bool) (λJ8=>br q4 (J8 (true)) (cal (zlz a_v (2000:Int)) λy10=>J8 ((!y10)))) (λq7=>br q7 (cal (zfm ) λy11=>some (y11)) (cal (zd9 y1.1 y3.1 a_v) λy12=>cal (zgf y1.1 y3.1 a_v) λy13=>cal (zfm ) λy14=>jp (ι:=Bool) (λJ16=>br y14 (J16 ((decide (y12.1=y13.1)))) (J16 (false))) (λq15=>jp (ι:=Bool) (λJ19=>br q15 (J19 ((decide (y12.2=y13.2)))) (J19 (false))) (λq18=>some (q18))))))
end Go.Proofs.Q


namespace Go.Proofs.Q
open Go.Sy
set_option linter.unusedVariables false

def dgt16:List UInt8:=[48,49,50,51,52,53,54,55,56,57,65,66,67,68,69,70]
theorem zt3:∀ X:Fin 256,(((shr8 (UInt8.ofNat X.val) (4:UInt64).toNat).toNat:Int) <= (((shr8 (UInt8.ofNat X.val) (4:UInt64).toNat) + (1:UInt8)).toNat:Int)/\(((shr8 (UInt8.ofNat X.val) (4:UInt64).toNat) + (1:UInt8)).toNat:Int) <= (dgt16.length:Int)) /\
    ((dgt16.take ((((shr8 (UInt8.ofNat X.val) (4:UInt64).toNat) + (1:UInt8)).toNat:Int)).toNat).drop (((shr8 (UInt8.ofNat X.val) (4:UInt64).toNat).toNat:Int)).toNat)=[hiD (UInt8.ofNat X.val)] /\
    (((UInt8.ofNat X.val &&& (15:UInt8)).toNat:Int) <= (((UInt8.ofNat X.val &&& (15:UInt8)) + (1:UInt8)).toNat:Int)/\(((UInt8.ofNat X.val &&& (15:UInt8)) + (1:UInt8)).toNat:Int) <= (dgt16.length:Int)) /\
    ((dgt16.take ((((UInt8.ofNat X.val &&& (15:UInt8)) + (1:UInt8)).toNat:Int)).toNat).drop (((UInt8.ofNat X.val &&& (15:UInt8)).toNat:Int)).toNat)=[loD (UInt8.ofNat X.val)]:=by decide +kernel
structure Hx6 (y:UInt8):Prop where
 a:(((shr8 y (4:UInt64).toNat).toNat:Int) <= (((shr8 y (4:UInt64).toNat) + (1:UInt8)).toNat:Int)/\(((shr8 y (4:UInt64).toNat) + (1:UInt8)).toNat:Int) <= (dgt16.length:Int))
 b:((dgt16.take ((((shr8 y (4:UInt64).toNat) + (1:UInt8)).toNat:Int)).toNat).drop (((shr8 y (4:UInt64).toNat).toNat:Int)).toNat)=[hiD y]
 c:(((y &&& (15:UInt8)).toNat:Int) <= (((y &&& (15:UInt8)) + (1:UInt8)).toNat:Int)/\(((y &&& (15:UInt8)) + (1:UInt8)).toNat:Int) <= (dgt16.length:Int))
 d:((dgt16.take ((((y &&& (15:UInt8)) + (1:UInt8)).toNat:Int)).toNat).drop (((y &&& (15:UInt8)).toNat:Int)).toNat)=[loD y]
theorem hx6 (c:UInt8):Hx6 c:=by
 have:=zt3 ⟨c.toNat,c.toNat_lt⟩
 simp only [UInt8.ofNat_toNat] at this
 exact ⟨this.1,this.2.1,this.2.2.1,this.2.2.2⟩
theorem ztd (b:List UInt8) (c:UInt8):hexE (b ++ [c])=hexE b ++ [hiD c] ++ [loD c]:=by
 unfold hexE
 rw [List.map_append,List.flatten_append,zLA];rfl
theorem zvd (b:List UInt8) (hb:b.length <= 1000000):zk8 b=some ⟨hexE b⟩:=by
 refine T.eqs ?_
 unfold zk8
 refine T.lp (ι:=Str × Int) (λq=>0 <= q.2/\q.2 <= (b.length:Int)/\q.1=⟨hexE (b.take q.2.toNat)⟩) (λq=>((b.length:Int) - q.2).toNat) ⟨zIl _,by dsimp only;omega,rfl⟩ (by dsimp only;omega) λL q ⟨q1,q2,q3⟩ hL=>?_
 obtain ⟨s,k⟩:=q
 dsimp only at q1 q2 q3 hL ⊢
 subst q3
 refine T.br (λhc=>?_) λhc=>T.some ?_
 ·have hc:=zOT hc
  obtain ⟨y,hy⟩:∃ y,b[k.toNat]?=some y:=⟨_,List.getElem?_eq_getElem (by omega)⟩
  have eg:getI b k=some y:=by rw [zbF q1 hc];exact congrArg some (List.getElem?_eq_some_iff.1 hy).2
  have hh:=hx6 y
  have hl:=zmZ (b.take k.toNat)
  rw [zLt] at hl
  refine T.eq eg (T.asr rfl (T.eq eg (T.asr rfl (T.asd hh.a ?_))))
  have e1:(([48,49,50,51,52,53,54,55,56,57,65,66,67,68,69,70]:List UInt8).take ((((shr8 y (4:UInt64).toNat) + (1:UInt8)).toNat:Int)).toNat).drop (((shr8 y (4:UInt64).toNat).toNat:Int)).toNat=[hiD y]:=hh.b
  have e2:(([48,49,50,51,52,53,54,55,56,57,65,66,67,68,69,70]:List UInt8).take ((((y &&& (15:UInt8)) + (1:UInt8)).toNat:Int)).toNat).drop (((y &&& (15:UInt8)).toNat:Int)).toNat=[loD y]:=hh.d
  dsimp only
  rw [e1]
  refine T.abl (by simp only [zLc,zLn];omega) (T.eq eg (T.eq eg (T.asd hh.c ?_)))
  rw [e2]
  refine T.abl (by simp only [zLa,zLc,zLn];omega) (T.ck (by omega) (hL _ ⟨by dsimp only;omega,by dsimp only;omega,?_⟩ (by dsimp only;omega)))
  dsimp only
  rw [show (k + 1).toNat=k.toNat + 1 by omega,List.take_add_one,hy]
  show _=Str.mk (hexE (b.take k.toNat ++ [y]))
  rw [ztd]
 ·have hc:=zOF hc
  rw [zTl (by omega)]
theorem zqw:∀ (b:List UInt8) (c:UInt8),esc (b ++ [c])=esc b ++ (if c=34 then [34,34] else [c])
 | [],c=>by
  show (if c=34 then 34 :: 34 :: esc [] else c :: esc [])=_
  split <;> rfl
 | d :: b,c=>by
  have ih:=zqw b c
  show (if d=34 then 34 :: 34 :: esc (b ++ [c]) else d :: esc (b ++ [c]))=(if d=34 then 34 :: 34 :: esc b else d :: esc b) ++ _
  rw [ih]
  split <;> rfl
theorem zrQ {v:Val} (h0:-9223372036854775808 <= v.n) (h1:v.n <= 9223372036854775807) (hb:v.b.length <= 70000) (hk:v.kind ≠ 3):zgd v=some ⟨leafT v⟩:=by
 refine T.eqs ?_
 unfold zgd leafT
 refine T.br (λh=>?_) λh=>?_
 ·rw [if_pos (zOT h)]
  refine T.br (λh=>?_) λh=>?_
  ·rw [if_neg (show ¬ v.n=0 by simpa using h)];exact T.some rfl
  ·rw [if_pos (show v.n=0 by simpa using h)];exact T.some rfl
 rw [if_neg (zOF h)]
 refine T.br (λh=>?_) λh=>?_
 ·rw [if_pos (zOT h)];exact T.some rfl
 rw [if_neg (zOF h)]
 refine T.br (λh=>?_) λh=>?_
 ·rw [if_pos (zOT h)];exact T.eq (zuD ⟨h0,h1⟩) (T.some rfl)
 rw [if_neg (zOF h)]
 refine T.br (λh=>absurd (zOT h) hk) λ_=>T.br (λh=>?_) λh=>?_
 ·rw [if_pos (zOT h)]
  have hl:=zmZ v.b
  exact T.eq (zvd v.b (by omega)) (T.abl (by simp only [zLc,zLn];omega) (T.abl (by simp only [zLa,zLc,zLn];omega) (T.some rfl)))
 rw [if_neg (zOF h)]
 refine T.br (λh=>?_) λh=>?_
 ·rw [if_pos (zOT h)]
  refine T.lp (ι:=Str × Int) (λq=>0 <= q.2/\q.2 <= (v.b.length:Int)/\q.1=⟨34 :: esc (v.b.take q.2.toNat)⟩) (λq=>((v.b.length:Int) - q.2).toNat) ⟨zIl _,by dsimp only;omega,rfl⟩ (by dsimp only;omega) λL q ⟨q1,q2,q3⟩ hL=>?_
  obtain ⟨s,k⟩:=q
  dsimp only at q1 q2 q3 hL ⊢
  subst q3
  have hel:=zjZ (v.b.take k.toNat)
  rw [zLt] at hel
  refine T.br (λhc=>?_) λhc=>?_
  ·have hc:=zOT hc
   obtain ⟨y,hy⟩:∃ y,v.b[k.toNat]?=some y:=⟨_,List.getElem?_eq_getElem (by omega)⟩
   have eg:getI v.b k=some y:=by rw [zbF q1 hc];exact congrArg some (List.getElem?_eq_some_iff.1 hy).2
   have es:((v.b.take (k + 1).toNat).drop k.toNat)=[y]:=by
    rw [show (k + 1).toNat=k.toNat + 1 by omega,List.take_add_one,hy,List.drop_append_of_le_length (by rw [zLt];omega),zDn (by rw [zLt];omega)];rfl
   have et:esc (v.b.take (k + 1).toNat)=esc (v.b.take k.toNat) ++ (if y=34 then [34,34] else [y]):=by
    rw [show (k + 1).toNat=k.toNat + 1 by omega,List.take_add_one,hy];exact zqw _ _
   refine T.jp (ι:=Str) (λz=>z=⟨34 :: esc (v.b.take (k + 1).toNat)⟩) (λJ kk=>T.ck (by omega) (T.asd (by omega) ?_)) λz hz=>T.ck (by omega) (hL _ ⟨by dsimp only;omega,by dsimp only;omega,hz⟩ (by dsimp only;omega))
   rw [es]
   refine T.abl (by simp only [zLc,zLn];omega) (T.eq eg (T.br (λh34=>T.abl (by simp only [zLa,zLc,zLn];omega) (kk _ ?_)) λh34=>kk _ ?_))
   ·have h34:=zOT h34
    rw [et,if_pos h34,h34,zLA];rfl
   ·rw [et,if_neg (zOF h34)];rfl
  ·have hc:=zOF hc
   rw [zTl (by omega)] at hel ⊢
   exact T.abl (by simp only [zLc,zLn];omega) (T.some rfl)
 rw [if_neg (zOF h)]
 exact T.some rfl
theorem zn7:∀ {ps:List (List UInt8)},(∀ p ∈ ps,p ≠ [])->(joinC ps=[] ↔ ps=[])
 | [],_=>⟨λ_=>rfl,λ_=>rfl⟩
 | [p],h=>⟨λe=>absurd e (h p zMs),λe=>by cases e⟩
 | p :: q :: r,h=>⟨λe=>by
  have:p ++ 44 :: 32 :: joinC (q :: r)=[]:=e
  exact absurd (List.append_eq_nil_iff.1 this).1 (h p zMs),λe=>by cases e⟩
theorem zlw {f:Int->Val->List UInt8}:∀ {fs:List GFld} {ws:List Val},∀ p ∈ parts f fs ws,p ≠ []
 | [],ws,p,h=>by cases ws <;> cases h
 | _ :: _,[],p,h=>by cases h
 | y :: fs,w :: ws,p,h=>by
  change p ∈ (if w.kind=0 then parts f fs ws else _ :: parts f fs ws) at h
  by_cases h0:w.kind=0
  ·rw [if_pos h0] at h;exact zlw p h
  ·rw [if_neg h0] at h
   rcases List.mem_cons.1 h with e | e
   ·rw [e];simp
   ·exact zlw p e
theorem zsj (x:GTyp) (n:Int) (hl:x.items.length <= 1000000) (hi:∃ it ∈ x.items,it.number=n):T (λr=>∃ it,getI x.items r=some it/\x.items.find? (λit=>decide (it.number=n))=some it) (zex x n):=by
 obtain ⟨it,h1,h2,h3⟩:=zmh hi
 unfold zex
 refine T.lp (ι:=Int) (λq=>0 <= q/\q <= (x.items.length:Int)/\∀ (j:Nat) y,(j:Int) < q->x.items[j]?=some y->y.number ≠ n) (λq=>((x.items.length:Int) - q).toNat) ⟨zIl _,by omega,λj y h=>by omega⟩ (by omega) λJ q ⟨q0,q1,q2⟩ hJ=>T.br (λhb=>?_) λhb=>?_
 ·have hb:=zOT hb
  refine T.get q0 hb λy hy=>T.br (λh=>T.some ⟨y,by rw [zbF q0 hb];exact congrArg some (List.getElem?_eq_some_iff.1 hy).2,zo1 hy (zOT h) λj z hj hz=>q2 j z (by omega) hz⟩) λh=>T.ck (by omega) (hJ _ ⟨by omega,by omega,λj z hj hz=>?_⟩ (by omega))
  rcases Int.lt_or_le (j:Int) q with h5 | h5
  ·exact q2 j z h5 hz
  ·have:j=q.toNat:=by omega
   subst this
   rw [hy] at hz;cases hz
   exact zOF h
 ·have hb:=zOF hb
  obtain ⟨k,hk⟩:=List.mem_iff_getElem?.1 h2
  exact absurd h3 (q2 k it (by have:=(List.getElem?_eq_some_iff.1 hk).1;omega) hk)
theorem zv1 {t:GTab} (hB:NmB t.types):∀ {h n:Nat} {i:Int} {v:Val},h + 1 <= n->Fit t h i v->bare v=true->I64V v->Fine v->cnt v <= 100000->zjU n t i v=some ⟨txt h t.types i v⟩:=by
 intro h
 induction h with
 | zero=>intro n i v _ hF;cases hF
 | succ h ih =>
  intro n i v hn hF hb hI hFn hc
  obtain ⟨n,rfl⟩:∃ n',n=n' + 1:=⟨n - 1,by omega⟩
  have hlen:=zgV hB hF hb hI
  obtain ⟨h0,x,hx,hk⟩:=hF
  obtain ⟨hk12,hmore,hkb⟩:=zkb hb
  obtain ⟨e,hK⟩:=hk.resolve_left hk12
  have hxm:x ∈ t.types:=List.mem_of_getElem? hx
  have hvl:=hFn.l
  have hlt:=(List.getElem?_eq_some_iff.1 hx).1
  have eg:getI t.types i=some x:=by rw [zbF h0 (by omega)];exact congrArg some (List.getElem?_eq_some_iff.1 hx).2
  rw [zq2 hx] at hlen ⊢
  refine T.eqs ?_
  show T _ (zhx (zjU n) t i v)
  unfold zhx
  refine T.eq eg ?_
  unfold txtK at hlen ⊢
  have hcl:∀ w ∈ v.l,cnt w <= 100000:=λw hw=>by have:=zdh hw;omega
  have leaf:x.kind ≠ 3->x.kind ≠ 10->x.kind ≠ 9->¬ (x.kind=7 \/ x.kind=8)->v.b.length <= 70000->T (λr=>r=Str.mk (leafT v)) (Sy.br (decide (x.kind=3)) (Sy.cal (zex x v.n) λy3=>Sy.cal (getI x.items y3) λy4=>some y4.name) (Sy.br (decide (x.kind=10)) (none) (Sy.br (decide (x.kind=9)) none (Sy.jp (λJ31=>Sy.br (decide (x.kind=7)) (J31 (decide (x.kind=7))) (J31 (decide (x.kind=8)))) λq30=>Sy.br q30 none (Sy.cal (zgd v) λy67=>some y67))))):=λh3 h10 h9 h78 hb7=>by
   refine T.br (λh=>absurd (zOT h) h3) λ_=>T.br (λh=>absurd (zOT h) h10) λ_=>T.br (λh=>absurd (zOT h) h9) λ_=>?_
   refine T.jp (λb=>b=false) (λJ k=>T.br (λh=>absurd (.inl (zOT h)) h78) λ_=>k _ (zDF λh=>h78 (.inr h))) λb hb2=>T.br (λh=>by rw [hb2] at h;cases h) λ_=>T.eq (zrQ hI.lo hI.hi hb7 (by omega)) (T.some rfl)
  have leaf':∀ {A B C:Option Str},x.kind ≠ 3->x.kind ≠ 10->x.kind ≠ 9->¬ (x.kind=7 \/ x.kind=8)->v.b.length <= 70000->T (λr=>r=Str.mk (leafT v)) (Sy.br (decide (x.kind=3)) (Sy.cal (zex x v.n) λy3=>Sy.cal (getI x.items y3) λy4=>some y4.name) (Sy.br (decide (x.kind=10)) A (Sy.br (decide (x.kind=9)) B (Sy.jp (λJ31=>Sy.br (decide (x.kind=7)) (J31 (decide (x.kind=7))) (J31 (decide (x.kind=8)))) λq30=>Sy.br q30 C (Sy.cal (zgd v) λy67=>some y67))))):=λh3 h10 h9 h78 hb7=>by
   refine T.br (λh=>absurd (zOT h) h3) λ_=>T.br (λh=>absurd (zOT h) h10) λ_=>T.br (λh=>absurd (zOT h) h9) λ_=>?_
   refine T.jp (λb=>b=false) (λJ k=>T.br (λh=>absurd (.inl (zOT h)) h78) λ_=>k _ (zDF λh=>h78 (.inr h))) λb hb2=>T.br (λh=>by rw [hb2] at h;cases h) λ_=>T.eq (zrQ hI.lo hI.hi hb7 (by omega)) (T.some rfl)
  clear leaf
  have bnil:∀ {a c d:Bool},pln v a false c d=true->v.b.length <= 70000:=λhp=>by rw [znD hp];exact zNz _
  rcases hK with ⟨k,hp,_⟩ | ⟨k,hp,_⟩ | ⟨k,hp,hit⟩ | ⟨k,hp⟩ | ⟨k,hp,h7,_⟩ | ⟨k,hp,_,hl⟩ | ⟨k,hp,hn0,f,w,hf,hl,hfw⟩ | ⟨k,hp,hr,h3,h4,_⟩
  ·rw [if_neg (by omega),if_neg (by omega),if_neg (by omega),if_neg (by omega)]
   exact leaf' (by omega) (by omega) (by omega) (by omega) (bnil hp)
  ·rw [if_neg (by omega),if_neg (by omega),if_neg (by omega),if_neg (by omega)]
   exact leaf' (by omega) (by omega) (by omega) (by omega) (bnil hp)
  ·rw [if_pos k]
   refine T.br (λ_=>?_) λh=>absurd k (zOF h)
   refine T.cal (zsj x v.n (by have:=hB.il x hxm;omega) hit) λy _ ⟨it,e1,e2⟩=>T.eq e1 (T.some ?_)
   unfold itemN
   rw [e2]
  ·rw [if_neg (by omega),if_neg (by omega),if_neg (by omega),if_neg (by omega)]
   exact leaf' (by omega) (by omega) (by omega) (by omega) (bnil hp)
  ·rw [if_neg (by omega),if_neg (by omega),if_neg (by omega),if_neg (by omega)]
   exact leaf' (by omega) (by omega) (by omega) (by omega) (by omega)
  ·rw [if_neg (by omega),if_pos k] at hlen ⊢
   refine T.br (λh=>absurd (zOT h) (by omega)) λ_=>T.br (λ_=>?_) λh=>absurd k (zOF h)
   have hcv:=zhk v
   have hpl:∀ j:Nat,(joinC ((v.l.take j).map (txt h t.types x.of))).length <= 150000 * cnt v:=λj=>by
    have h1:=zil ((v.l.take j).map (txt h t.types x.of))
    have h2:(((v.l.take j).map (txt h t.types x.of)).map λp=>p.length + 2).sum <= 150000 * ((v.l.take j).map cnt).sum:=by
     rw [List.map_map,<- zmT]
     refine zoU λw hw=>?_
     have hw2:=List.mem_of_mem_take hw
     have:=zgV hB (hl w hw2) (hkb w hw2) (hI.kid w hw2)
     show (txt h t.types x.of w).length + 2 <= 150000 * cnt w
     omega
    have h5:((v.l.take j).map cnt).sum <= (v.l.map cnt).sum:=by
     have:=congrArg (λl=>(l.map cnt).sum) (List.take_append_drop j v.l)
     simp only [List.map_append,List.sum_append] at this
     omega
    have:=Nat.mul_le_mul_left 150000 (show ((v.l.take j).map cnt).sum <= cnt v by omega)
    omega
   refine T.br (λhz=>T.some ?_) λhz=>?_
   ·have:v.l=[]:=List.length_eq_zero_iff.1 (by have:=zOT hz;omega)
    rw [this];rfl
   have hne:v.l ≠ []:=λe=>zOF hz (by rw [e];rfl)
   refine T.lp (ι:=Str × Int) (λq=>0 <= q.2/\q.2 <= (v.l.length:Int)/\q.1=⟨123 :: 32 :: joinC ((v.l.take q.2.toNat).map (txt h t.types x.of))⟩) (λq=>((v.l.length:Int) - q.2).toNat) ⟨zIl _,by dsimp only;omega,rfl⟩ (by have:=hFn.l;dsimp only;omega) λL q ⟨q1,q2,q3⟩ hL=>?_
   obtain ⟨s,j⟩:=q
   dsimp only at q1 q2 q3 hL ⊢
   subst q3
   have hjl:=hpl j.toNat
   refine T.br (λhj=>?_) λhj=>?_
   ·have hj:=zOT hj
    obtain ⟨w,hw⟩:∃ w,v.l[j.toNat]?=some w:=⟨_,List.getElem?_eq_getElem (by omega)⟩
    have hwm:=List.mem_of_getElem? hw
    have egw:getI v.l j=some w:=by rw [zbF q1 hj];exact congrArg some (List.getElem?_eq_some_iff.1 hw).2
    have etk:v.l.take (j + 1).toNat=v.l.take j.toNat ++ [w]:=by rw [show (j + 1).toNat=j.toNat + 1 by omega,List.take_add_one,hw];rfl
    have htw:=zgV hB (hl w hwm) (hkb w hwm) (hI.kid w hwm)
    have hcw:cnt w <= cnt v:=Nat.le_of_lt (zdh hwm)
    have htw2:=Nat.le_trans htw (Nat.mul_le_mul_left 150000 hcw)
    refine T.jp (ι:=Str) (λz=>z=⟨if v.l.take j.toNat=[] then [123,32] else 123 :: 32 :: (joinC ((v.l.take j.toNat).map (txt h t.types x.of)) ++ [44,32])⟩) (λJ k2=>T.br (λhp2=>T.abl (by simp only [zLc,zLn];omega) (k2 _ ?_)) λhp2=>k2 _ ?_) λz hz2=>?_
    ·have hp2:=zOT hp2
     rw [if_neg (λe=>by have:=congrArg List.length e;rw [zLt,zLn] at this;omega)];rfl
    ·have hp2:=zOF hp2
     rw [show j.toNat=0 by omega];rfl
    subst hz2
    have hzl:(if v.l.take j.toNat=[] then ([123,32]:List UInt8) else 123 :: 32 :: (joinC ((v.l.take j.toNat).map (txt h t.types x.of)) ++ [44,32])).length <= 150000 * cnt v + 4:=by
     split
     ·simp only [zLc,zLn];omega
     ·simp only [zLc,zLa,zLn];omega
    refine T.eq egw (T.eq (ih (by omega) (hl w hwm) (hkb w hwm) (hI.kid w hwm) (hFn.kid w hwm) (hcl w hwm)) (T.abl (by dsimp only;omega) (T.ck (by omega) (hL _ ⟨by dsimp only;omega,by dsimp only;omega,?_⟩ (by dsimp only;omega)))))
    dsimp only
    rw [etk,List.map_append,List.map_singleton,ziZ]
    by_cases he:v.l.take j.toNat=[]
    ·rw [if_pos he,if_pos (by rw [he];rfl)];rfl
    ·rw [if_neg he,if_neg (by simpa using he)]
     simp
   ·have hj:=zOF hj
    rw [zTl (by omega)] at hjl ⊢
    refine T.abl (by simp only [zLc,zLn];omega) (T.some ?_)
    unfold brc
    rw [if_neg (by simpa using hne)];rfl
  ·rw [if_neg (by omega),if_neg (by omega),if_pos k,hf,hl] at hlen ⊢
   dsimp only at hlen ⊢
   have hw:w ∈ v.l:=by rw [hl];exact zMo.2 rfl
   have hlt2:=(List.getElem?_eq_some_iff.1 hf).1
   have egf:getI x.fields v.n=some f:=by rw [zbF hn0 (by omega)];exact congrArg some (List.getElem?_eq_some_iff.1 hf).2
   have egw:getI v.l (0:Int)=some w:=by rw [hl];rfl
   simp only [zLa,zLc] at hlen
   refine T.br (λh=>absurd (zOT h) (by omega)) λ_=>T.br (λh=>absurd (zOT h) (by omega)) λ_=>T.br (λ_=>?_) λh=>absurd k (zOF h)
   have egw':getI [w] (0:Int)=some w:=rfl
   refine T.eq egf (T.abl (by simp only [zLc,zLn];omega) (T.eq egf (T.eq (by first | exact egw | exact egw') (T.eq (ih (by omega) hfw (hkb w hw) (hI.kid w hw) (hFn.kid w hw) (hcl w hw)) (T.abl (by simp only [zLa,zLc,zLn];omega) (T.some ?_))))))
   simp
  ·rw [if_neg (by omega),if_neg (by omega),if_neg (by omega),if_pos k] at hlen ⊢
   refine T.br (λh=>absurd (zOT h) (by omega)) λ_=>T.br (λh=>absurd (zOT h) (by omega)) λ_=>T.br (λh=>absurd (zOT h) (by omega)) λ_=>?_
   refine T.jp (λb=>b=true) (λJ2 k2=>T.br (λh=>k2 _ h) λh=>k2 _ (zDT (k.resolve_left (zOF h)))) λb78 hb78=>?_
   subst hb78
   refine T.br (λ_=>?_) λh=>by cases h
   have hcv:=zhk v
   have hpl:∀ j:Nat,(joinC (parts (txt h t.types) (x.fields.take j) (v.l.take j))).length <= 150000 * cnt v:=λj=>by
    have h1:=zil (parts (txt h t.types) (x.fields.take j) (v.l.take j))
    have h2:=zke (f:=txt h t.types) (fs:=x.fields.take j) (ws:=v.l.take j) (λy hy=>hB.fn x hxm y (List.mem_of_mem_take hy)) (by rw [zLt,zLt,h3]) λm y w h8 h9 h10=>by
     have e8:x.fields[m]?=some y:=by
      rw [List.getElem?_take] at h8
      split at h8
      ·exact h8
      ·cases h8
     have e9:v.l[m]?=some w:=by
      rw [List.getElem?_take] at h9
      split at h9
      ·exact h9
      ·cases h9
     rcases h4 m y w e8 e9 with ⟨z,_⟩ | ⟨_,z,_⟩
     ·exact absurd z h10
     ·exact zgV hB z (hkb w (List.mem_of_getElem? e9)) (hI.kid w (List.mem_of_getElem? e9))
    have h5:((v.l.take j).map cnt).sum <= (v.l.map cnt).sum:=by
     have:=congrArg (λl=>(l.map cnt).sum) (List.take_append_drop j v.l)
     simp only [List.map_append,List.sum_append] at this
     omega
    have:=Nat.mul_le_mul_left 150000 (show ((v.l.take j).map cnt).sum <= cnt v by omega)
    omega
   refine T.lp (ι:=Str × Int) (λq=>0 <= q.2/\q.2 <= (v.l.length:Int)/\q.1=⟨joinC (parts (txt h t.types) (x.fields.take q.2.toNat) (v.l.take q.2.toNat))⟩) (λq=>((v.l.length:Int) - q.2).toNat) ⟨zIl _,by dsimp only;omega,rfl⟩ (by have:=hFn.l;dsimp only;omega) λL q ⟨q1,q2,q3⟩ hL=>?_
   obtain ⟨s,j⟩:=q
   dsimp only at q1 q2 q3 hL ⊢
   subst q3
   have hjl:=hpl j.toNat
   refine T.br (λhj=>?_) λhj=>?_
   ·have hj:=zOT hj
    obtain ⟨w,hw⟩:∃ w,v.l[j.toNat]?=some w:=⟨_,List.getElem?_eq_getElem (by omega)⟩
    obtain ⟨y,hy⟩:∃ y,x.fields[j.toNat]?=some y:=⟨_,List.getElem?_eq_getElem (by omega)⟩
    have hwm:=List.mem_of_getElem? hw
    have egw:getI v.l j=some w:=by rw [zbF q1 hj];exact congrArg some (List.getElem?_eq_some_iff.1 hw).2
    have egy:getI x.fields j=some y:=by rw [zbF q1 (by omega)];exact congrArg some (List.getElem?_eq_some_iff.1 hy).2
    have hyn:=hB.fn x hxm y (List.mem_of_getElem? hy)
    have ej:(j + 1).toNat=j.toNat + 1:=by omega
    have etk:v.l.take (j + 1).toNat=v.l.take j.toNat ++ [w]:=by rw [ej,List.take_add_one,hw];rfl
    have etf:x.fields.take (j + 1).toNat=x.fields.take j.toNat ++ [y]:=by rw [ej,List.take_add_one,hy];rfl
    have hsn:=zk1 (txt h t.types) y w (x.fields.take j.toNat) (v.l.take j.toNat) (by rw [zLt,zLt,h3])
    rw [<- etk,<- etf] at hsn
    have hne:=zlw (f:=txt h t.types) (fs:=x.fields.take j.toNat) (ws:=v.l.take j.toNat)
    generalize parts (txt h t.types) (x.fields.take j.toNat) (v.l.take j.toNat)=ps at hsn hjl hne ⊢
    refine T.jp (ι:=Str) (λz=>z=⟨joinC (parts (txt h t.types) (x.fields.take (j + 1).toNat) (v.l.take (j + 1).toNat))⟩) (λJ k2=>T.eq egw (T.br (λhz=>k2 _ ?_) λhz=>?_)) λz hz=>T.ck (by omega) (hL _ ⟨by dsimp only;omega,by dsimp only;omega,hz⟩ (by dsimp only;omega))
    ·rw [hsn,if_pos (zOT hz)]
    ·have hz:=zOF hz
     have hF:=(h4 j.toNat y w hy hw).resolve_left λg=>hz g.1
     have htw:=zgV hB hF.2.1 (hkb w hwm) (hI.kid w hwm)
     have hcw:cnt w <= cnt v:=Nat.le_of_lt (zdh hwm)
     have htw2:=Nat.le_trans htw (Nat.mul_le_mul_left 150000 hcw)
     refine T.jp (ι:=Str) (λz=>z=⟨if ps=[] then [] else joinC ps ++ [44,32]⟩) (λJ3 k3=>T.br (λhp2=>T.abl (by simp only [zLc,zLn];omega) (k3 _ ?_)) λhp2=>k3 _ ?_) λz hz2=>?_
     ·rw [if_neg (λe=>by rw [e,zDT (show Str.mk (joinC [])=Str.mk [] from rfl)] at hp2;cases hp2)]
     ·have hp2:Str.mk (joinC ps)=Str.mk []:=by simpa using hp2
      have hp3:joinC ps=[]:=by injection hp2
      rw [hp3,if_pos ((zn7 hne).1 hp3)]
     subst hz2
     have hzl:(if ps=[] then ([]:List UInt8) else joinC ps ++ [44,32]).length <= 150000 * cnt v + 2:=by
      split
      ·exact zNz _
      ·simp only [zLc,zLa,zLn];omega
     refine T.eq egy (T.abl (by dsimp only;omega) (T.abl (by simp only [zLa,zLc,zLn];omega) (T.eq egy (T.eq egw (T.eq (ih (by omega) hF.2.1 (hkb w hwm) (hI.kid w hwm) (hFn.kid w hwm) (hcl w hwm)) (T.abl (by simp only [zLa,zLc,zLn];omega) (k2 _ ?_)))))))
     rw [hsn,if_neg hz,ziZ]
     by_cases he:ps=[]
     ·rw [if_pos he,if_pos he]
      simp
     ·rw [if_neg he,if_neg he]
      simp
   ·have hj:=zOF hj
    have et:v.l.take j.toNat=v.l:=zTl (by omega)
    have et2:x.fields.take j.toNat=x.fields:=zTl (by omega)
    rw [et,et2] at hjl ⊢
    have hne:=zlw (f:=txt h t.types) (fs:=x.fields) (ws:=v.l)
    generalize parts (txt h t.types) x.fields v.l=ps at hjl hne ⊢
    refine T.br (λhz=>T.some ?_) λhz=>?_
    ·have hz:=zOT hz
     have hz:joinC ps=[]:=by injection hz
     unfold brc
     rw [if_pos ((zn7 hne).1 hz)]
    ·have hz:=zOF hz
     refine T.abl (by simp only [zLc,zLn];omega) (T.abl (by simp only [zLa,zLc,zLn];omega) (T.some ?_))
     unfold brc
     rw [if_neg (λe=>hz (by rw [e];rfl))];rfl
end Go.Proofs.Q


namespace Go.Proofs.Q
open Go.Sy
set_option linter.unusedVariables false

section
variable {α β ι:Type}
def W (R:β->Prop) (o:Option β):Prop:=∀ r,o=some r->R r
theorem W.some {R:β->Prop} {r:β} (h:R r):W R (some r):=λ_ e=>by injection e with e;subst e;exact h
theorem W.none {R:β->Prop}:W R (none:Option β):=λ_ e=>by cases e
theorem W.mono {R R':β->Prop} {o:Option β} (h:W R o) (k:∀ r,R r->R' r):W R' o:=λr e=>k r (h r e)
theorem W.cal {Q:α->Prop} {R:β->Prop} {m:Option α} {k:α->Option β} (h:W Q m) (hk:∀ y,Q y->W R (k y)):W R (Sy.cal m k):=λr e=>by
 cases hm:m with
 | none=>rw [hm] at e;cases e
 | some y=>rw [hm] at e;exact hk y (h y hm) r e
theorem W.cal0 {R:β->Prop} {m:Option α} {k:α->Option β} (hk:∀ y,m=Option.some y->W R (k y)):W R (Sy.cal m k):=W.cal (Q:=λy=>m=Option.some y) (λ_ e=>e) hk
theorem W.ck {R:β->Prop} {x:Int} {k:Option β} (h:W R k):W R (Sy.ck x k):=λr e=>zt e λ_ e=>h r e
theorem W.asr {R:β->Prop} {b:Bool} {k:Option β} (h:b=true->W R k):W R (Sy.asr b k):=λr e=>by
 cases b with
 | false=>cases e
 | true=>exact h rfl r e
theorem W.br {R:β->Prop} {b:Bool} {t e:Option β} (ht:b=true->W R t) (he:b=false->W R e):W R (Sy.br b t e):=by
 cases b with
 | false=>exact he rfl
 | true=>exact ht rfl
theorem W.jp (Q:ι->Prop) {R:β->Prop} {B:(ι->Option β)->Option β} {K:ι->Option β} (hB:∀ J,(∀ i,Q i->W R (J i))->W R (B J)) (hK:∀ i,Q i->W R (K i)):W R (Sy.jp B K):=hB K hK
theorem W.lp (I:ι->Prop) {R:β->Prop} {F:(ι->Option β)->ι->Option β} {i0:ι} (h0:I i0) (h:∀ (L:ι->Option β) i,I i->(∀ j,I j->W R (L j))->W R (F L i)):W R (Sy.lp F i0):=by
 have key:∀ n i,I i->W R (lpN F n i):=by
  intro n
  induction n with
  | zero=>intro i _ r e;cases e
  | succ n ih=>intro i hi;exact h _ i hi ih
 exact key _ _ h0
theorem zeV {l:List α} {i:Int} {y:α} (h:getI l i=Option.some y):y ∈ l/\0 <= i/\l[i.toNat]?=Option.some y:=by
 unfold getI at h
 cases i with
 | ofNat n=>exact ⟨List.mem_of_getElem? h,Int.natCast_nonneg n,h⟩
 | negSucc n=>cases h
end

/-! ### Signs of names -/
theorem zr1:∀ b:List UInt8,nmAll (b.take (nm b)) (hd (b.drop (nm b)))=true
 | []=>rfl
 | c :: r=>by
  rw [zmL]
  cases h:inName c r with
  | false=>rfl
  | true =>
   have ih:=zr1 r
   rw [zCt,List.take_succ_cons,List.drop_succ_cons]
   show (inName c (r.take (nm r) ++ [hd (r.drop (nm r))]) && nmAll (r.take (nm r)) (hd (r.drop (nm r))))=true
   rw [ih,Bool.and_true,<- h]
   refine zog ?_
   rw [<- zvK,List.take_append_drop]
theorem zsG {b t r:List UInt8} (h:oneS b=some (2,t,r)):nmOk t=true:=by
 unfold oneS at h
 simp only at h
 cases h1:zcm (hd b) with
 | false =>
  rw [h1,zCf] at h
  exfalso
  cases h2:(isDigit (hd b) || (decide (hd b=45) && isDigit (hd (b.drop 1)))) with
  | true =>
   rw [h2,zCt] at h
   cases hn:numLen b with
   | none=>rw [hn] at h;cases h
   | some n=>rw [hn] at h;injection h with h;injection h with h3 h;cases h3
  | false =>
   rw [h2,zCf] at h
   cases h3:decide (hd b=39) with
   | true =>
    rw [h3,zCt] at h
    cases h4:hexBad (b.drop 1) with
    | true=>rw [h4] at h;cases h
    | false=>rw [h4,zCf] at h;injection h with h;injection h with h5 h;cases h5
   | false =>
    rw [h3,zCf] at h
    cases h4:decide (hd b=34) with
    | true =>
     rw [h4,zCt] at h
     cases hq:qd false (b.drop 1) [] with
     | none=>rw [hq] at h;cases h
     | some q=>obtain ⟨t',r'⟩:=q;rw [hq] at h;injection h with h;injection h with h5 h;cases h5
    | false =>
     rw [h4,zCf] at h
     cases h5:decide (0 < sg b) with
     | false=>rw [h5] at h;cases h
     | true=>rw [h5,zCt] at h;injection h with h;injection h with h6 h;cases h6
 | true =>
  rw [h1,zCt] at h
  cases h2:nmBad b with
  | true=>rw [h2] at h;cases h
  | false =>
   rw [h2,zCf] at h
   injection h with h;injection h with h3 h;injection h with h4 h5
   subst h4
   unfold nmBad at h2
   rw [Bool.or_eq_false_iff] at h2
   have hlast:=zOF h2.1
   have hlen:=zOF h2.2
   have hh:hd (b.take (nm b))=hd b:=by
    cases b with
    | nil=>rfl
    | cons c r =>
     have:inName c r=true:=by
      unfold inName
      have h1:zcm c=true:=h1
      rw [h1];rfl
     rw [zmL,this];rfl
   unfold nmOk kindN
   rw [hh,h1,zDF hlast,<- zn9 (d:=hd (b.drop (nm b))) hlast,zr1,h3,zDT (show (b.take (nm b)).length <= 60 by rw [zLt];omega)]
   rfl
def NmT (l:List GTok):Prop:=∀ t ∈ l,t.kind=2->nmOk t.text.b=true
theorem zqG (n:Nat):∀ (f:Nat) (b:List UInt8) (acc:List GTok),NmT acc->NmT (toksF n f b acc).1
 | 0,b,acc,h=>λt ht=>by cases ht
 | f + 1,b,acc,h=>by
  rw [znu]
  cases hwh:wh .out b with
  | nil =>
   intro t ht hk
   rcases List.mem_append.1 ht with h1 | h1
   ·exact h t h1 hk
   ·rw [zMo.1 h1] at hk;cases hk
  | cons c r =>
   simp only
   cases ho:oneS (c :: r) with
   | none=>intro t ht;cases ht
   | some q =>
    obtain ⟨k,t,r'⟩:=q
    simp only
    refine zqG n f r' _ λy hy hk=>?_
    rcases List.mem_append.1 hy with h1 | h1
    ·exact h y h1 hk
    ·rw [zMo.1 h1] at hk ⊢
     have hk:k=2:=hk
     subst hk
     exact zsG ho
theorem zuB (b:List UInt8):NmT (toks b).1:=by
 unfold toks
 cases decide (8000 < b.length) with
 | true=>intro t ht;cases ht
 | false=>rw [zCf];exact zqG _ _ _ _ λt ht=>by cases ht

/-! ### The parser's small functions -/
structure SmP (x y:GPar):Prop where
 l:y.l=x.l
 m:y.m=x.m
 e:y.e=0->x.e=0
theorem SmP.refl (x:GPar):SmP x x:=⟨rfl,rfl,id⟩
theorem SmP.trans {x y z:GPar} (h:SmP x y) (k:SmP y z):SmP x z:=⟨k.l.trans h.l,k.m.trans h.m,λe=>h.e (k.e e)⟩
theorem zjs (x:GPar):W (λr=>r.2=x/\r.1 ∈ x.l) (zaw x):=by
 unfold zaw
 exact W.cal0 λy hy=>W.some ⟨rfl,(zeV hy).1⟩
theorem ziW (x:GPar) (e:Int) (t:GTok):W (λr=>SmP x r/\(e ≠ 0->r.e ≠ 0)) (zaK x e t):=by
 unfold zaK
 exact W.br (λh=>W.some ⟨⟨rfl,rfl,λ_=>zOT h⟩,id⟩) λh=>W.some ⟨.refl x,λ_=>zOF h⟩
theorem zkV (x:GPar):W (λr=>SmP x r.2/\r.1 ∈ x.l/\getI x.l x.at_=some r.1) (za9 x):=by
 unfold za9
 refine W.cal0 λy hy=>W.ck (W.jp (λq=>SmP x q) (λJ k=>W.br (λ_=>W.ck (k _ ⟨rfl,rfl,id⟩)) λ_=>k _ (.refl x)) λq hq=>W.some ⟨hq,(zeV hy).1,hy⟩)
theorem zm9 (x:GPar) (k:Int):W (λr=>SmP x r.2/\(r.2.e=0->∃ t ∈ x.l,t.kind=k/\r.1=t.text)) (za7 x k):=by
 unfold za7 zaw
 refine W.cal (Q:=λr=>r.2=x/\getI x.l x.at_=some r.1) (W.cal0 λy hy=>W.some ⟨rfl,hy⟩) λ⟨t,x'⟩ ⟨hx,ht⟩=>?_
 dsimp only at hx ht ⊢
 subst hx
 refine W.jp (λb=>b=false->t.kind=k) (λJ h=>W.br (λ_=>h _ λh=>by cases h) λ_=>h _ λh=>by simpa using h) λb hb=>W.br (λ_=>?_) λh=>?_
 ·exact W.cal (ziW _ _ _) λy hy=>W.some ⟨hy.1,λe=>absurd e (hy.2 (by decide))⟩
 ·refine W.cal (zkV _) λy hy=>W.some ⟨hy.1,λ_=>⟨t,(zeV ht).1,hb h,?_⟩⟩
  have:=hy.2.2
  rw [ht] at this
  injection this with this
  rw [this]
theorem zeg (x:GPar) (s:Str):W (λr=>SmP x r.2) (zH x s):=by
 unfold zH
 refine W.cal (zjs x) λ⟨t,x'⟩ ⟨hx,_⟩=>?_
 dsimp only at hx ⊢
 subst hx
 refine W.jp (λ_=>True) (λJ k=>W.br (λ_=>W.jp (λ_=>True) (λJ2 k2=>W.br (λ_=>k2 _ trivial) λ_=>k2 _ trivial) λ_ _=>k _ trivial) λ_=>k _ trivial) λb _=>W.jp (λ_=>True) (λJ k=>W.br (λ_=>k _ trivial) λ_=>k _ trivial) λb _=>W.br (λ_=>W.cal (zkV _) λy hy=>W.some hy.1) λ_=>W.some (.refl _)
theorem zds (x:GPar) (s:Str):W (λr=>SmP x r) (zP x s):=by
 unfold zP
 refine W.jp (λq=>SmP x q.2) (λJ k=>W.br (λ_=>W.cal (zeg x s) λy hy=>k _ hy) λ_=>k _ (.refl x)) λq hq=>W.br (λ_=>?_) λ_=>W.some hq
 exact W.cal (zjs _) λy hy=>W.cal (ziW _ _ _) λz hz=>W.some (hq.trans (hy.1 ▸ hz.1))
theorem zlk (x:GPar):W (λr=>SmP x r.2) (zbs x):=by
 unfold zbs
 exact W.cal (zm9 x 3) λy hy=>W.br (λ_=>W.some hy.1) λ_=>W.cal0 λz _=>W.some hy.1
theorem zqD (x:GPar):W (λr=>SmP x r.2) (zb3 x):=by
 unfold zb3
 refine W.cal (zeg x _) λy hy=>W.jp (λq=>SmP x q.1) (λJ k=>W.br (λ_=>W.cal (zlk _) λz hz=>k _ (hy.trans hz)) λ_=>k _ hy) λq hq=>?_
 refine W.jp (λq=>SmP x q.1) (λJ k=>W.cal (zeg _ _) λz hz=>W.br (λ_=>W.cal (zeg _ _) λu hu=>W.br (λ_=>W.cal (zlk _) λw hw=>k _ (((hq.trans hz).trans hu).trans hw)) λ_=>k _ ((hq.trans hz).trans hu)) λ_=>W.br (λ_=>k _ (hq.trans hz)) λ_=>k _ (hq.trans hz)) λq2 hq2=>?_
 exact W.cal (zeg _ _) λz hz=>W.jp (λq=>SmP x q.1) (λJ k=>W.br (λ_=>W.cal (zds _ _) λu hu=>k _ ((hq2.trans hz).trans hu)) λ_=>k _ (hq2.trans hz)) λq3 hq3=>W.some hq3
theorem zrl (x:GPar):W (λr=>SmP x r.2) (zcc x):=by
 unfold zcc
 exact W.cal (zeg x _) λy hy=>W.br (λ_=>W.some hy) λ_=>W.cal (zds _ _) λa ha=>W.cal (zds _ _) λb hb=>W.cal (zqD _) λc hc=>W.cal (zds _ _) λd hd=>W.cal (zds _ _) λf hf=>W.some (((((hy.trans ha).trans hb).trans hc).trans hd).trans hf)
theorem zuF (x:GPar):W (λr=>SmP x r.2) (zcV x):=by
 unfold zcV
 refine W.cal (zjs x) λ⟨t,x'⟩ ⟨hx,_⟩=>?_
 dsimp only at hx ⊢
 subst hx
 refine W.jp (λq=>SmP x' q) (λJ k=>W.br (λ_=>k _ (.refl _)) λ_=>?_) λq hq=>W.some hq
 refine W.cal (zeg _ _) λa ha=>W.br (λ_=>W.some ha) λ_=>W.cal (zeg _ _) λb hb=>W.br (λ_=>W.some (ha.trans hb)) λ_=>W.cal (zeg _ _) λc hc=>W.br (λ_=>W.some ((ha.trans hb).trans hc)) λ_=>?_
 have h3:=(ha.trans hb).trans hc
 refine W.br (λ_=>W.cal (zkV _) λd hd=>W.cal0 λz _=>W.some (h3.trans hd.1)) λ_=>W.br (λ_=>W.cal (zkV _) λd hd=>W.asr λ_=>W.some (h3.trans hd.1)) λ_=>W.br (λ_=>W.cal (zkV _) λd hd=>W.cal0 λz _=>W.some (h3.trans hd.1)) λ_=>W.br (λ_=>W.cal (zkV _) λd hd=>W.asr λ_=>W.some (h3.trans hd.1)) λ_=>?_
 exact W.cal (ziW _ _ _) λd hd=>k _ (h3.trans hd.1)
def FN (l:List GFld):Prop:=∀ f ∈ l,nmOk f.name.b=true
def IN (l:List GItem):Prop:=∀ it ∈ l,nmOk it.name.b=true
theorem zuT (x:GPar) (n:GNode) (hx:NmT x.l) (hn:n.items=[]):W (λr=>SmP x r.1/\r.2.kind=n.kind/\r.2.fields=n.fields/\(r.1.e=0->IN r.2.items)) (zcQ x n):=by
 unfold zcQ
 refine W.jp (λ(q:GPar × GNode)=>SmP x q.1/\q.2.kind=n.kind/\q.2.fields=n.fields/\(q.1.e=0->IN q.2.items)) (λJ k=>?_) λq hq=>W.br (λ_=>W.some hq) λ_=>W.some hq
 refine W.lp (λ(q:GPar × GNode)=>SmP x q.1/\q.2.kind=n.kind/\q.2.fields=n.fields/\(q.1.e=0->IN q.2.items)) ⟨.refl x,rfl,rfl,λ_ it hit=>by dsimp only at hit;rw [hn] at hit;cases hit⟩ λL q ⟨h1,h2,h3,h4⟩ hL=>W.br (λ_=>?_) λ_=>k _ ⟨h1,h2,h3,h4⟩
 refine W.jp (λ_=>True) (λJ2 k2=>W.br (λ_=>k2 _ trivial) λ_=>k2 _ trivial) λb _=>?_
 refine W.jp (λ(p:Bool × GPar)=>SmP q.1 p.2) (λJ2 k2=>W.br (λ_=>W.cal (zeg _ _) λy hy=>k2 _ hy) λ_=>k2 _ (.refl _)) λp hp=>?_
 refine W.jp (λ(q':GPar × GNode)=>SmP x q'.1/\q'.2.kind=n.kind/\q'.2.fields=n.fields/\(q'.1.e=0->IN q'.2.items)) (λJ4 k4=>W.br (λ_=>k4 _ ⟨h1.trans hp,h2,h3,λe=>h4 (hp.e e)⟩) λ_=>?_) λq4 hq4=>?_
 ·refine W.cal (zm9 _ 2) λy hy=>W.cal (zeg _ _) λz hz=>?_
  refine W.jp (λ(u:GPar × GItem)=>SmP y.2 u.1/\u.2.name=y.1) (λJ5 k5=>W.br (λ_=>W.cal (zlk _) λu hu=>W.cal (zds _ _) λw hw=>k5 _ ⟨(hz.trans hu).trans hw,rfl⟩) λ_=>k5 _ ⟨hz,rfl⟩) λu hu=>W.asr λ_=>k4 _ ⟨((h1.trans hp).trans hy.1).trans hu.1,h2,h3,λe it hit=>?_⟩
  have e1:=hu.1.e e
  rcases List.mem_append.1 hit with h | h
  ·exact h4 ((hp.trans hy.1).e e1) it h
  ·rw [zMo.1 h,hu.2]
   obtain ⟨t,ht,hk,he⟩:=hy.2 e1
   rw [he]
   exact hx t (by rw [<- (h1.trans hp).l];exact ht) hk
 ·exact W.cal (zeg _ _) λy hy=>W.br (λ_=>k _ ⟨hq4.1.trans hy,hq4.2.1,hq4.2.2.1,λe=>hq4.2.2.2 (hy.e e)⟩) λ_=>hL _ ⟨hq4.1.trans hy,hq4.2.1,hq4.2.2.1,λe=>hq4.2.2.2 (hy.e e)⟩

/-! ### Trees -/
/-- A node of a known kind, with names. -/
structure NN (n:GNode):Prop where
 k1:1 <= n.kind
 k2:n.kind <= 11
 f:FN n.fields
 i:IN n.items
structure Gw (x y:GPar):Prop where
 l:y.l=x.l
 e:y.e=0->x.e=0
 le:x.m.nodes.length <= y.m.nodes.length
 pre:∀ p,p < x.m.nodes.length->y.m.nodes[p]?=x.m.nodes[p]?
 new:y.e=0->∀ (p:Nat) n,x.m.nodes.length <= p->y.m.nodes[p]?=some n->NN n
theorem SmP.gw {x y:GPar} (h:SmP x y):Gw x y:=⟨h.l,h.e,by rw [h.m];exact zNl _,λp _=>by rw [h.m],λ_ p n h1 h2=>by
 have:=(List.getElem?_eq_some_iff.1 h2).1
 rw [h.m] at this;omega⟩
theorem Gw.trans {x y z:GPar} (h:Gw x y) (k:Gw y z):Gw x z:=⟨k.l.trans h.l,λe=>h.e (k.e e),Nat.le_trans h.le k.le,λp hp=>(k.pre p (Nat.lt_of_lt_of_le hp h.le)).trans (h.pre p hp),λe p n h1 h2=>by
 by_cases hp:p < y.m.nodes.length
 ·rw [k.pre p hp] at h2;exact h.new (k.e e) p n h1 h2
 ·exact k.new e p n (by omega) h2⟩
structure GrpW (n:Nat):Prop where
 field:∀ (x:GPar) (nd:GNode) (d g:Int),NmT x.l->W (λr=>Gw x r.1/\r.2.kind=nd.kind/\r.2.items=nd.items/\(r.1.e=0->FN nd.fields->FN r.2.fields)) (zbo n x nd d g)
 typ:∀ (x:GPar) (d:Int),NmT x.l->W (λr=>Gw x r.2) (za2 n x d)
 base:∀ (x:GPar) (nd:GNode) (d:Int),NmT x.l->nd.items=[]->nd.fields=[]->W (λr=>Gw x r.1/\(r.1.e=0->NN r.2)) (zbC n x nd d)
 fields:∀ (x:GPar) (nd:GNode) (d:Int),NmT x.l->W (λr=>Gw x r.1/\r.2.kind=nd.kind/\r.2.items=nd.items/\(r.1.e=0->FN nd.fields->FN r.2.fields)) (zba n x nd d)
theorem grpW:∀ n,GrpW n:=by
 intro n
 induction n with
 | zero=>exact ⟨λ_ _ _ _ _=>W.none,λ_ _ _=>W.none,λ_ _ _ _ _ _=>W.none,λ_ _ _ _=>W.none⟩
 | succ n ih =>
  refine ⟨λx nd d g hx=>?_,λx d hx=>?_,λx nd d hx hi hf=>?_,λx nd d hx=>?_⟩
  ·show W _ (zcf (zbo n) (za2 n) (zbC n) (zba n) x nd d g)
   unfold zcf
   refine W.cal (zm9 x 2) λy hy=>W.ck (W.cal (ih.typ _ _ (by rw [hy.1.l];exact hx)) λz hz=>?_)
   refine W.jp (λ(q:GFld × GPar)=>Gw y.2 q.2/\q.1.name=y.1) (λJ k=>W.br (λ_=>k _ ⟨hz,rfl⟩) λ_=>W.cal (zeg _ _) λa ha=>W.br (λ_=>k _ ⟨hz.trans ha.gw,rfl⟩) λ_=>W.cal (zeg _ _) λb hb=>W.br (λ_=>W.cal (zuF _) λc hc=>k _ ⟨((hz.trans ha.gw).trans hb.gw).trans hc.gw,rfl⟩) λ_=>k _ ⟨(hz.trans ha.gw).trans hb.gw,rfl⟩) λq hq=>W.asr λ_=>W.some ⟨hy.1.gw.trans hq.1,rfl,rfl,λe hF f hf=>?_⟩
   rcases List.mem_append.1 hf with h | h
   ·exact hF f h
   ·rw [zMo.1 h,hq.2]
    obtain ⟨t,ht,hk,he⟩:=hy.2 (hq.1.e e)
    rw [he]
    exact hx t ht hk
  ·show W _ (zcS (zbo n) (za2 n) (zbC n) (zba n) x d)
   unfold zcS
   refine W.br (λ_=>W.some (SmP.refl x).gw) λ_=>W.cal (zjs x) λ⟨t,x'⟩ ⟨hx',_⟩=>?_
   dsimp only at hx' ⊢
   subst hx'
   refine W.cal0 λb _=>W.br (λ_=>W.cal (zjs _) λy hy=>W.cal (ziW _ _ _) λz hz=>W.some (hy.1 ▸ hz.1).gw) λ_=>?_
   refine W.jp (λ_=>True) (λJ k=>W.br (λ_=>k _ trivial) λ_=>k _ trivial) λb _=>W.br (λ_=>W.cal (zjs _) λy hy=>W.cal (ziW _ _ _) λz hz=>W.some (hy.1 ▸ hz.1).gw) λ_=>W.asr λ_=>?_
   refine W.cal (zeg _ _) λy hy=>?_
   refine W.jp (λ(q:GPar × GNode)=>SmP y.2 q.1/\q.2.items=[]/\q.2.fields=[]) (λJ k=>W.br (λ_=>?_) λ_=>k _ ⟨.refl _,rfl,rfl⟩) λq hq=>?_
   ·refine W.cal (zjs _) λa ha=>W.cal (zlk _) λb hb=>?_
    have h1:SmP y.2 b.2:=ha.1 ▸ hb
    refine W.jp (λ_=>True) (λJ k=>W.br (λ_=>W.jp (λ_=>True) (λJ2 k2=>W.br (λ_=>k2 _ trivial) λ_=>k2 _ trivial) λ_ _=>k _ trivial) λ_=>k _ trivial) λc _=>?_
    refine W.jp (λz=>SmP y.2 z) (λJ k=>W.br (λ_=>W.cal (ziW _ _ _) λz hz=>k _ (h1.trans hz.1)) λ_=>k _ h1) λz hz=>?_
    exact W.cal (zds _ _) λu hu=>W.cal (zeg _ _) λv hv=>W.br (λ_=>k _ ⟨(hz.trans hu).trans hv,rfl,rfl⟩) λ_=>W.cal (zeg _ _) λw hw=>W.br (λ_=>k _ ⟨((hz.trans hu).trans hv).trans hw,rfl,rfl⟩) λ_=>k _ ⟨((hz.trans hu).trans hv).trans hw,rfl,rfl⟩
   have hs:=hy.trans hq.1
   refine W.cal (ih.base q.1 q.2 d (by rw [hs.l];exact hx) hq.2.1 hq.2.2) λz hz=>?_
   have hlen:q.1.m.nodes.length=x'.m.nodes.length + 1:=by rw [hs.m];show (x'.m.nodes ++ [_]).length=_;rw [zLa];rfl
   have hpre:∀ p,p < x'.m.nodes.length->z.1.m.nodes[p]?=x'.m.nodes[p]?:=λp hp=>by
    rw [hz.1.pre p (by omega),hs.m]
    exact List.getElem?_append_left hp
   have hl:z.1.l=x'.l:=hz.1.l.trans hs.l
   have he:z.1.e=0->x'.e=0:=λe=>hs.e (hz.1.e e)
   have hle:=hz.1.le
   refine W.br (λh=>W.some ⟨hl,he,by dsimp only;omega,hpre,λe=>absurd e (by simpa using h)⟩) λh=>W.asr λ_=>W.cal0 λw _=>W.some ?_
   refine ⟨hl,he,?_,λp hp=>?_,λe p nd h1 h2=>?_⟩
   ·dsimp only;rw [List.length_set];omega
   ·dsimp only
    rw [List.getElem?_set_ne (by rw [Int.toNat_natCast];omega)]
    exact hpre p hp
   ·dsimp only at e h2
    rw [Int.toNat_natCast] at h2
    by_cases hp:p=x'.m.nodes.length
    ·subst hp
     rw [List.getElem?_set_self (by omega)] at h2
     cases h2
     exact hz.2 e
    ·rw [List.getElem?_set_ne (by omega)] at h2
     exact hz.1.new e p nd (by omega) h2
  ·show W _ (zcv (zbo n) (za2 n) (zbC n) (zba n) x nd d)
   unfold zcv
   have leaf:∀ (y:GPar) (nd':GNode) (k:Int),SmP x y->nd'.kind=k->1 <= k->k <= 11->nd'.items=[]->nd'.fields=[]->Gw x y/\(y.e=0->NN nd'):=λy nd' k hs hk h1 h2 h3 h4=>⟨hs.gw,λ_=>⟨by omega,by omega,by rw [h4];exact λf hf=>(by cases hf),by rw [h3];exact λf hf=>(by cases hf)⟩⟩
   have flds:∀ (y:GPar) (k:Int),SmP x y->1 <= k->k <= 11->∀ r:GPar × GNode,(Gw y r.1/\r.2.kind=k/\r.2.items=nd.items/\(r.1.e=0->FN nd.fields->FN r.2.fields))->Gw x r.1/\(r.1.e=0->NN r.2):=λy k hs h1 h2 r ⟨g1,g2,g3,g4⟩=>⟨hs.gw.trans g1,λe=>⟨by rw [g2];exact h1,by rw [g2];exact h2,g4 e (by rw [hf];exact λf hf=>(by cases hf)),by rw [g3,hi];exact λf hf=>(by cases hf)⟩⟩
   have hxl:∀ {y:GPar},SmP x y->NmT y.l:=λh=>by rw [h.l];exact hx
   refine W.cal (zjs x) λ⟨t,x'⟩ ⟨hx',_⟩=>?_
   dsimp only at hx' ⊢
   subst hx'
   refine W.br (λh=>W.some ⟨(SmP.refl _).gw,λe=>absurd e (by simpa using h)⟩) λ_=>?_
   refine W.cal (zeg _ _) λa1 s1=>W.br (λ_=>W.some (leaf _ _ 1 s1 rfl (by decide) (by decide) hi hf)) λ_=>W.cal (zeg _ _) λa2 t2=>?_
   have s2:=s1.trans t2
   refine W.br (λ_=>W.some (leaf _ _ 4 s2 rfl (by decide) (by decide) hi hf)) λ_=>W.cal (zeg _ _) λa3 t3=>?_
   have s3:=s2.trans t3
   refine W.br (λ_=>W.cal (zrl _) λb hb=>W.some (leaf _ _ 6 (s3.trans hb) rfl (by decide) (by decide) hi hf)) λ_=>W.cal (zeg _ _) λa4 t4=>?_
   have s4:=s3.trans t4
   refine W.br (λ_=>W.cal (zeg _ _) λb hb=>W.br (λ_=>W.cal (zqD _) λc hc=>W.cal (zds _ _) λu hu=>W.some (leaf _ _ 2 (((s4.trans hb).trans hc).trans hu) rfl (by decide) (by decide) hi hf)) λ_=>W.some (leaf _ _ 2 (s4.trans hb) rfl (by decide) (by decide) hi hf)) λ_=>W.cal (zeg _ _) λa5 t5=>?_
   have s5:=s4.trans t5
   refine W.br (λ_=>W.cal (zds _ _) λb hb=>W.cal (zrl _) λc hc=>W.some (leaf _ _ 5 ((s5.trans hb).trans hc) rfl (by decide) (by decide) hi hf)) λ_=>W.cal (zeg _ _) λa6 t6=>?_
   have s6:=s5.trans t6
   refine W.br (λ_=>W.cal (zds _ _) λb hb=>W.cal (zuT _ _ (hxl (s6.trans hb)) hi) λc hc=>W.cal (zds _ _) λu hu=>W.some ⟨(((s6.trans hb).trans hc.1).trans hu).gw,λe=>⟨?_,?_,?_,hc.2.2.2 (hu.e e)⟩⟩) λ_=>W.cal (zeg _ _) λa7 t7=>?_
   ·rw [hc.2.1];show (1:Int) <= 3;decide
   ·rw [hc.2.1];show (3:Int) <= 11;decide
   ·rw [hc.2.2.1];show FN nd.fields;rw [hf];exact λf hf=>(by cases hf)
   have s7:=s6.trans t7
   refine W.br (λ_=>W.cal (zds _ _) λb hb=>W.cal (ih.fields _ _ _ (hxl (s7.trans hb))) λc hc=>W.some (flds _ 8 (s7.trans hb) (by decide) (by decide) c hc)) λ_=>W.cal (zeg _ _) λa8 t8=>?_
   have s8:=s7.trans t8
   refine W.br (λ_=>W.cal (zds _ _) λb hb=>W.cal (ih.fields _ _ _ (hxl (s8.trans hb))) λc hc=>W.some (flds _ 9 (s8.trans hb) (by decide) (by decide) c hc)) λ_=>W.cal (zeg _ _) λa9 t9=>?_
   have s9:=s8.trans t9
   refine W.br (λ_=>W.cal (zeg _ _) λb hb=>W.br (λ_=>W.cal (ih.fields _ _ _ (hxl (s9.trans hb))) λc hc=>W.some (flds _ 7 (s9.trans hb) (by decide) (by decide) c hc)) λ_=>?_) λ_=>?_
   ·refine W.cal (zrl _) λc hc=>W.cal (zds _ _) λu hu=>W.ck (W.cal (ih.typ _ _ (hxl (((s9.trans hb).trans hc).trans hu))) λw hw=>W.some ⟨(((s9.trans hb).trans hc).trans hu).gw.trans hw,λ_=>⟨show (1:Int) <= 10 by decide,show (10:Int) <= 11 by decide,?_,?_⟩⟩)
    ·show FN nd.fields;rw [hf];exact λf hf=>(by cases hf)
    ·show IN nd.items;rw [hi];exact λf hf=>(by cases hf)
   ·refine W.br (λ_=>W.cal (zkV _) λb hb=>W.some (leaf _ _ 11 (s9.trans hb.1) rfl (by decide) (by decide) hi hf)) λ_=>W.cal (ziW _ _ _) λb hb=>W.some ⟨(s9.trans hb.1).gw,λe=>absurd e (hb.2 (by decide))⟩
  ·show W _ (zb0 (zbo n) (za2 n) (zbC n) (zba n) x nd d)
   unfold zb0
   refine W.cal (zeg _ _) λa ha=>W.br (λ_=>W.some ⟨ha.gw,rfl,rfl,λ_ h=>h⟩) λ_=>?_
   refine W.jp (λ(q:GPar × GNode)=>Gw x q.1/\q.2.kind=nd.kind/\q.2.items=nd.items/\(q.1.e=0->FN nd.fields->FN q.2.fields)) (λJ k=>?_) λq hq=>W.cal (zds _ _) λu hu=>W.br (λ_=>W.some ⟨hq.1.trans hu.gw,hq.2.1,hq.2.2.1,λe=>hq.2.2.2 (hu.e e)⟩) λ_=>W.some ⟨hq.1.trans hu.gw,hq.2.1,hq.2.2.1,λe=>hq.2.2.2 (hu.e e)⟩
   refine W.lp (λ(q:Int × GPar × GNode)=>Gw x q.2.1/\q.2.2.kind=nd.kind/\q.2.2.items=nd.items/\(q.2.1.e=0->FN nd.fields->FN q.2.2.fields)) ⟨ha.gw,rfl,rfl,λ_ h=>h⟩ λL q ⟨h1,h2,h3,h4⟩ hL=>W.br (λ_=>?_) λ_=>k _ ⟨h1,h2,h3,h4⟩
   have hxl:∀ {y:GPar},Gw x y->NmT y.l:=λh=>by rw [h.l];exact hx
   refine W.jp (λ(q:Int × GPar × GNode)=>Gw x q.2.1/\q.2.2.kind=nd.kind/\q.2.2.items=nd.items/\(q.2.1.e=0->FN nd.fields->FN q.2.2.fields)) (λJ2 k2=>?_) λq2 hq2=>W.cal (zeg _ _) λu hu=>W.br (λ_=>k _ ⟨hq2.1.trans hu.gw,hq2.2.1,hq2.2.2.1,λe=>hq2.2.2.2 (hu.e e)⟩) λ_=>hL _ ⟨hq2.1.trans hu.gw,hq2.2.1,hq2.2.2.1,λe=>hq2.2.2.2 (hu.e e)⟩
   refine W.jp (λ(p:Bool × GPar)=>SmP q.2.1 p.2) (λJ3 k3=>W.br (λ_=>W.cal (zeg _ _) λy hy=>k3 _ hy) λ_=>k3 _ (.refl _)) λp hp=>?_
   refine W.br (λ_=>k2 _ ⟨h1.trans hp.gw,h2,h3,λe=>h4 (hp.e e)⟩) λ_=>?_
   refine W.jp (λ(r:Bool × GPar)=>SmP q.2.1 r.2) (λJ3 k3=>W.br (λ_=>W.cal (zeg _ _) λy hy=>k3 _ (hp.trans hy)) λ_=>k3 _ hp) λr hr=>W.br (λ_=>W.ck ?_) λ_=>?_
   ·refine W.jp (λ(q:GPar × GNode)=>Gw x q.1/\q.2.kind=nd.kind/\q.2.items=nd.items/\(q.1.e=0->FN nd.fields->FN q.2.fields)) (λJ4 k4=>?_) λz hz=>W.cal (zds _ _) λu hu=>k2 _ ⟨hz.1.trans hu.gw,hz.2.1,hz.2.2.1,λe=>hz.2.2.2 (hu.e e)⟩
    refine W.lp (λ(q:GPar × GNode)=>Gw x q.1/\q.2.kind=nd.kind/\q.2.items=nd.items/\(q.1.e=0->FN nd.fields->FN q.2.fields)) ⟨h1.trans hr.gw,h2,h3,λe=>h4 (hr.e e)⟩ λL2 z ⟨g1,g2,g3,g4⟩ hL2=>W.br (λ_=>?_) λ_=>k4 _ ⟨g1,g2,g3,g4⟩
    refine W.cal (ih.field _ _ _ _ (hxl g1)) λu hu=>W.cal (zeg _ _) λw hw=>?_
    have hh:Gw x w.2/\u.2.kind=nd.kind/\u.2.items=nd.items/\(w.2.e=0->FN nd.fields->FN u.2.fields):=⟨(g1.trans hu.1).trans hw.gw,hu.2.1.trans g2,hu.2.2.1.trans g3,λe h=>hu.2.2.2 (hw.e e) (g4 (hu.1.e (hw.e e)) h)⟩
    exact W.br (λ_=>k4 _ hh) λ_=>hL2 _ hh
   ·have g1:=h1.trans hr.gw
    exact W.cal (ih.field _ _ _ _ (hxl g1)) λu hu=>k2 _ ⟨g1.trans hu.1,hu.2.1.trans h2,hu.2.2.1.trans h3,λe h=>hu.2.2.2 e (h4 (hr.e (hu.1.e e)) h)⟩
def AN (m:GMod):Prop:=∀ n ∈ m.nodes,NN n
theorem Gw.an {x y:GPar} (h:Gw x y) (hx:x.e=0->AN x.m):y.e=0->AN y.m:=λe n hn=>by
 obtain ⟨p,hp⟩:=List.mem_iff_getElem?.1 hn
 by_cases h1:p < x.m.nodes.length
 ·rw [h.pre p h1] at hp
  exact hx (h.e e) n (List.mem_of_getElem? hp)
 ·exact h.new e p n (by omega) hp
theorem zvs (s:Str):W (λr=>r.2.2=0->AN r.1) (zeJ s):=by
 unfold zeJ
 rw [zod]
 have hT:=zuB s.b
 refine W.cal0 λy hy=>?_
 injection hy with hy
 subst hy
 refine W.br (λh=>W.some λe=>absurd e (by simpa using h)) λ_=>?_
 refine W.cal (zm9 _ _) λa ha=>W.cal (zds _ _) λb hb=>?_
 have P:∀ {y z:GPar},SmP y z->y.l=(toks s.b).1->y.m.nodes=[]->z.l=(toks s.b).1/\z.m.nodes=[]:=λhz h1 h2=>⟨hz.l.trans h1,by rw [hz.m];exact h2⟩
 have hA:a.2.l=(toks s.b).1/\a.2.m.nodes=[]:=P ha.1 rfl rfl
 have h0:=P hb hA.1 hA.2
 refine W.jp (λ(z:GPar)=>z.l=(toks s.b).1/\z.m.nodes=[]) (λJ k=>?_) λz hz=>?_
 ·refine W.cal (zeg _ _) λc hc=>?_
  have h00:=P hc h0.1 h0.2
  refine W.br (λ_=>W.cal (zds _ _) λu hu=>k _ (P hu h00.1 h00.2)) λ_=>W.cal (zeg _ _) λd hd=>?_
  have h1:=P hd h00.1 h00.2
  refine W.br (λ_=>W.cal (zds _ _) λu hu=>k _ (P hu h1.1 h1.2)) λ_=>W.cal (zeg _ _) λf hf=>?_
  have h2:=P hf h1.1 h1.2
  exact W.br (λ_=>W.cal (zds _ _) λu hu=>k _ (P hu h2.1 h2.2)) λ_=>k _ h2
 ·refine W.cal (zds _ _) λc hc=>W.cal (zds _ _) λd hd=>?_
  have hcc:=P hc hz.1 hz.2
  have h1:=P hd hcc.1 hcc.2
  refine W.lp (λ(q:GPar)=>q.l=(toks s.b).1/\(q.e=0->AN q.m)) ⟨h1.1,λ_ n hn=>by rw [h1.2] at hn;cases hn⟩ λL q ⟨q1,q2⟩ hL=>?_
  have S:∀ {y z:GPar},Gw y z->(y.l=(toks s.b).1/\(y.e=0->AN y.m))->z.l=(toks s.b).1/\(z.e=0->AN z.m):=λh ⟨h1,h2⟩=>⟨h.l.trans h1,h.an h2⟩
  refine W.jp (λ(p:Bool × GPar)=>p.2.l=(toks s.b).1/\(p.2.e=0->AN p.2.m)) (λJ k=>W.br (λ_=>W.cal (zeg _ _) λy hy=>k _ (S hy.gw ⟨q1,q2⟩)) λ_=>k _ ⟨q1,q2⟩) λp hp=>W.br (λ_=>?_) λ_=>?_
  ·refine W.cal (zjs _) λ⟨t,x'⟩ ⟨hx',_⟩=>?_
   dsimp only at hx' ⊢
   subst hx'
   refine W.cal (zm9 _ _) λf hf=>W.jp (λ_=>True) (λJ k=>W.br (λ_=>k _ trivial) λ_=>k _ trivial) λbb _=>?_
   have hf:=S hf.1.gw hp
   refine W.jp (λ(z:GPar)=>z.l=(toks s.b).1/\(z.e=0->AN z.m)) (λJ k=>W.br (λ_=>W.cal (ziW _ _ _) λz hz=>k _ (S hz.1.gw hf)) λ_=>k _ hf) λz hz=>W.cal (zds _ _) λu hu=>?_
   have hu:=S hu.gw hz
   refine W.cal ((grpW fuel).typ _ _ (by rw [hu.1];exact hT)) λw hw=>W.asr λ_=>W.asr λ_=>hL _ ?_
   have h9:=S hw hu
   exact ⟨h9.1,λe n hn=>h9.2 e n hn⟩
  ·refine W.jp (λ(r:Bool × GPar)=>r.2.l=(toks s.b).1/\(r.2.e=0->AN r.2.m)) (λJ k=>W.br (λ_=>W.cal (zjs _) λy hy=>k _ (by rw [hy.1];exact hp)) λ_=>k _ hp) λr hr=>?_
   refine W.jp (λ(z:GPar)=>z.l=(toks s.b).1/\(z.e=0->AN z.m)) (λJ k=>W.br (λ_=>W.cal (zjs _) λy hy=>W.cal (ziW _ _ _) λz hz=>k _ (S hz.1.gw (by rw [hy.1];exact hr))) λ_=>k _ hr) λz hz=>W.br (λh=>W.some λe=>?_) λh=>W.some λ_=>hz.2 (by simpa using h)
   exact absurd e (by simpa using h)
end Go.Proofs.Q


namespace Go.Proofs.Q
open Go.Sy
set_option linter.unusedVariables false

structure TN (t:GTyp):Prop where
 k1:1 <= t.kind
 k2:t.kind <= 10
 f:FN t.fields
 i:IN t.items
 fd:(t.fields.map λf=>f.name).Nodup
 id:(t.items.map λit=>it.name).Nodup
structure Mx (x y:GMk):Prop where
 m:y.m=x.m
 e:y.e=0->x.e=0
 t:y.e=0->(∀ t ∈ x.l,TN t)->∀ t ∈ y.l,TN t
theorem Mx.refl (x:GMk):Mx x x:=⟨rfl,id,λ_ h=>h⟩
theorem Mx.trans {x y z:GMk} (h:Mx x y) (k:Mx y z):Mx x z:=⟨k.m.trans h.m,λe=>h.e (k.e e),λe ht=>k.t e (h.t (k.e e) ht)⟩
theorem zgU (x:GMk) (e:Int):W (λr=>r.m=x.m/\r.l=x.l/\(r.e=0->x.e=0)/\(e ≠ 0->r.e ≠ 0)) (zaV x e):=by
 unfold zaV
 exact W.br (λh=>W.some ⟨rfl,rfl,λ_=>zOT h,id⟩) λh=>W.some ⟨rfl,rfl,id,λ_=>zOF h⟩
theorem ziL {x y:GMk} (h1:y.m=x.m) (h2:y.l=x.l) (h3:y.e=0->x.e=0):Mx x y:=⟨h1,h3,λ_ h=>by rw [h2];exact h⟩
theorem ztP (x:GMk) (i:Int):W (λr=>r.2=x) (zc2 x i):=by
 unfold zc2
 exact W.asr λ_=>W.cal0 λy _=>W.br (λ_=>W.some rfl) λ_=>W.some rfl
theorem zpm {l:List GTyp} {i:Nat} {t:GTyp} (h:∀ t ∈ l,TN t) (ht:TN t):∀ y ∈ l.set i t,TN y:=λy hy=>(List.mem_or_eq_of_mem_set hy).elim (h y) λe=>by rw [e];exact ht
theorem ztu (x:GMk) (i k m:Int):W (λr=>Mx x r) (zc9 x i k m):=by
 unfold zc9
 refine W.br (λ_=>W.some (.refl x)) λ_=>W.asr λ_=>W.cal0 λy _=>W.cal0 λz _=>W.br (λ_=>W.cal (zgU _ _) λu hu=>W.some (ziL hu.1 hu.2.1 hu.2.2.1)) λ_=>W.asr λ_=>W.cal0 λw hw=>W.some ⟨rfl,id,λ_ h=>?_⟩
 have hT:=h w (List.mem_of_getElem? hw)
 exact zpm h ⟨hT.k1,hT.k2,hT.f,hT.i,hT.fd,hT.id⟩
theorem zwe (x:GMk) (i:Int) (v:Val):W (λr=>Mx x r.2) (zce x i v):=by
 unfold zce
 refine W.asr λ_=>W.cal0 λy _=>?_
 refine W.jp (λ_=>True) (λJ k=>?_) λq _=>W.jp (λ(z:GMk)=>Mx x z) (λJ k=>W.br (λ_=>W.cal (zgU _ _) λu hu=>k _ (ziL hu.1 hu.2.1 hu.2.2.1)) λ_=>k _ (.refl x)) λz hz=>W.some hz
 refine W.jp (λ_=>True) (λJ2 k2=>W.br (λ_=>k2 _ trivial) λ_=>k2 _ trivial) λb _=>W.br (λ_=>k _ trivial) λ_=>?_
 refine W.br (λ_=>W.jp (λ_=>True) (λJ2 k2=>W.br (λ_=>W.cal0 λz _=>k2 _ trivial) λ_=>k2 _ trivial) λb _=>k _ trivial) λ_=>?_
 refine W.jp (λ_=>True) (λJ2 k2=>W.br (λ_=>k2 _ trivial) λ_=>k2 _ trivial) λb _=>W.br (λ_=>?_) λ_=>?_
 ·refine W.jp (λ_=>True) (λJ2 k2=>W.br (λ_=>W.cal0 λz _=>k2 _ trivial) λ_=>k2 _ trivial) λb _=>?_
  exact W.jp (λ_=>True) (λJ2 k2=>W.br (λ_=>W.jp (λ_=>True) (λJ3 k3=>W.br (λ_=>k3 _ trivial) λ_=>W.cal0 λz _=>k3 _ trivial) λ_ _=>k2 _ trivial) λ_=>k2 _ trivial) λb _=>k _ trivial
 ·refine W.br (λ_=>W.br (λ_=>?_) λ_=>k _ trivial) λ_=>k _ trivial
  refine W.lp (λ_=>True) trivial λL q _ hL=>W.jp (λ_=>True) (λJ2 k2=>W.br (λ_=>k2 _ trivial) λ_=>k2 _ trivial) λb _=>W.br (λ_=>?_) λ_=>k _ trivial
  exact W.jp (λ_=>True) (λJ2 k2=>W.cal0 λz _=>W.br (λ_=>W.cal0 λu _=>k2 _ trivial) λ_=>k2 _ trivial) λz _=>W.ck (hL _ trivial)
def NdTo (l:List GItem) (n:Int):Prop:=∀ (i k:Nat) a b,(i:Int) < n->k < i->l[i]?=some a->l[k]?=some b->b.name ≠ a.name
theorem zwi {l:List GItem} (h:NdTo l l.length):(l.map λit=>it.name).Nodup:=by
 rw [List.nodup_iff_pairwise_ne] at *
 rw [List.pairwise_iff_getElem]
 intro i j hi hj hij
 rw [List.length_map] at hi hj
 rw [List.getElem_map,List.getElem_map]
 exact h j i l[j] l[i] (by omega) hij (List.getElem?_eq_getElem hj) (List.getElem?_eq_getElem hi)
theorem zub (x:GMk) (n:GNode) (hn:IN n.items):W (λr=>r.2.m=x.m/\r.2.l=x.l/\(r.2.e=0->x.e=0/\IN r.1/\(r.1.map λit=>it.name).Nodup)) (zde x n):=by
 unfold zde
 have sn:∀ {l:List GItem} {it:GItem},IN l->nmOk it.name.b=true->IN (l ++ [it]):=λh k it' hit=>by
  rcases List.mem_append.1 hit with h1 | h1
  ·exact h it' h1
  ·rw [zMo.1 h1];exact k
 refine W.lp (λ(q:List GItem × Int × Int)=>IN q.1) (λit h=>by cases h) λL q hq hL=>W.br (λ_=>W.cal0 λy hy=>?_) λ_=>?_
 ·have hyn:=hn y (zeV hy).1
  refine W.jp (λ(z:Int × GItem)=>z.2.name=y.name) (λJ k=>W.br (λ_=>W.lp (λ_=>True) trivial λL2 z _ hL2=>W.asr λ_=>W.cal0 λu _=>W.br (λ_=>W.ck (hL2 _ trivial)) λ_=>W.ck (k _ rfl)) λ_=>k _ rfl) λz hz=>W.asr λ_=>W.ck (hL _ (sn hq ?_))
  show nmOk z.2.name.b=true
  rw [hz];exact hyn
 ·refine W.lp (λ(q:List GItem × Int × Bool × Bool × Int)=>IN q.1) hq λL q hq hL=>W.br (λ_=>W.cal0 λy hy=>?_) λ_=>?_
  ·have hyn:=hn y (zeV hy).1
   refine W.jp (λ(z:GItem)=>z.name=y.name) (λJ k=>W.br (λ_=>?_) λ_=>k _ rfl) λz hz=>?_
   ·refine W.lp (λ(z:Int × GItem)=>z.2.name=y.name) rfl λL2 z hz hL2=>W.br (λ_=>?_) λ_=>k _ hz
    refine W.jp (λ(u:GItem)=>u.name=y.name) (λJ3 k3=>W.cal0 λu _=>W.br (λ_=>W.cal (zgU _ _) λw hw=>W.some ⟨hw.1,hw.2.1,λe=>absurd e (hw.2.2.2 (by decide))⟩) λ_=>?_) λu hu=>W.ck (hL2 _ hu)
    exact W.jp (λ_=>True) (λJ4 k4=>W.br (λ_=>k4 _ trivial) λ_=>W.cal0 λw _=>k4 _ trivial) λb _=>W.br (λ_=>W.cal0 λw _=>W.ck (k3 _ hz)) λ_=>k3 _ hz
   ·refine W.jp (λ_=>True) (λJ k=>W.br (λ_=>k _ trivial) λ_=>W.jp (λ_=>True) (λJ2 k2=>W.br (λ_=>k2 _ trivial) λ_=>k2 _ trivial) λ_ _=>k _ trivial) λb _=>W.asr λ_=>W.ck (hL _ (sn hq ?_))
    show nmOk z.name.b=true
    rw [hz];exact hyn
  ·refine W.lp (λ(p:Bool × Int)=>0 <= p.2/\p.2 <= (q.1.length:Int)/\(p.1=false->NdTo q.1 p.2)) ⟨zIl _,by dsimp only;omega,λ_ i k a b h=>by dsimp only at h;omega⟩ λL2 p ⟨p0,p1,p2⟩ hL2=>W.br (λhb=>?_) λhb=>?_
   ·have hb:=zOT hb
    refine W.lp (λ(u:Bool × Int)=>0 <= u.2/\(u.1=false->NdTo q.1 p.2/\∀ (k:Nat) a b,(k:Int) < u.2->q.1[p.2.toNat]?=some a->q.1[k]?=some b->b.name ≠ a.name)) ⟨zIl _,λh=>⟨p2 h,λk a b hk=>by dsimp only at hk;omega⟩⟩ λL3 u ⟨u0,u1⟩ hL3=>W.br (λhc=>?_) λhc=>?_
    ·refine W.jp (λb=>b=false->u.1=false/\∀ a b,q.1[p.2.toNat]?=some a->q.1[u.2.toNat]?=some b->b.name ≠ a.name) (λJ k=>W.br (λ_=>k _ λh=>by cases h) λh1=>W.cal0 λy hy=>W.cal0 λz hz=>k _ λh=>⟨h1,λa b ha hb=>?_⟩) λb hb2=>?_
     ·have e1:=(zeV hy).2.2
      have e2:=(zeV hz).2.2
      rw [ha] at e2;rw [hb] at e1
      cases e1;cases e2
      exact zOF h
     ·refine W.jp (λc=>c=false->b=false) (λJ k=>W.br (λ_=>k _ λh=>by cases h) λh1=>W.cal0 λy hy=>W.cal0 λz hz=>k _ λ_=>h1) λc hc2=>W.ck (hL3 _ ⟨by dsimp only;omega,λh=>?_⟩)
      dsimp only at h
      obtain ⟨g1,g2⟩:=hb2 (hc2 h)
      refine ⟨(u1 g1).1,λk a b hk ha hb=>?_⟩
      dsimp only at hk
      by_cases hk2:(k:Int) < u.2
      ·exact (u1 g1).2 k a b hk2 ha hb
      ·have:k=u.2.toNat:=by omega
       subst this
       exact g2 a b ha hb
    ·have hc:=zOF hc
     refine W.ck (hL2 _ ⟨by dsimp only;omega,by dsimp only;omega,λh=>?_⟩)
     dsimp only at h ⊢
     obtain ⟨g1,g2⟩:=u1 h
     intro i k a b hi hk ha hb
     by_cases hi2:(i:Int) < p.2
     ·exact g1 i k a b hi2 hk ha hb
     ·have:i=p.2.toNat:=by omega
      subst this
      exact g2 k a b (by omega) ha hb
   ·have hb:=zOF hb
    refine W.jp (λ(z:GMk)=>z.m=x.m/\z.l=x.l/\(z.e=0->x.e=0/\p.1=false)) (λJ k=>W.br (λ_=>W.cal (zgU _ _) λu hu=>k _ ⟨hu.1,hu.2.1,λe=>absurd e (hu.2.2.2 (by decide))⟩) λh=>k _ ⟨rfl,rfl,λe=>⟨e,h⟩⟩) λz hz=>W.some ⟨hz.1,hz.2.1,λe=>⟨(hz.2.2 e).1,hq,zwi ?_⟩⟩
    have:=p2 (hz.2.2 e).2
    rwa [show p.2=(q.1.length:Int) by omega] at this
theorem zqK (x:GMk) (l:List GFld) (o:Bool):W (λr=>r.2=x) (zcb x l o):=by
 unfold zcb
 refine W.lp (λ_=>True) trivial λL q _ hL=>W.br (λ_=>W.cal0 λy _=>W.cal0 λz _=>?_) λ_=>W.cal0 λy _=>W.some rfl
 refine W.jp (λ_=>True) (λJ k=>W.br (λ_=>W.jp (λ_=>True) (λJ2 k2=>W.br (λ_=>k2 _ trivial) λ_=>k2 _ trivial) λ_ _=>k _ trivial) λ_=>k _ trivial) λb _=>W.br (λ_=>W.some rfl) λ_=>W.cal0 λu _=>W.cal0 λw _=>W.asr λ_=>W.ck (hL _ trivial)
theorem zuR (x:GMk) (t:GTyp):W (λr=>r.2=x) (zdd x t):=by
 unfold zdd
 refine W.br (λ_=>W.cal (zqK _ _ _) λy hy=>W.some hy) λ_=>W.cal0 λy _=>?_
 refine W.lp (λ(q:Int × GMk)=>q.2=x) rfl λL q hq hL=>W.br (λ_=>?_) λ_=>?_
 ·refine W.jp (λ(z:GMk)=>z=x) (λJ k=>W.cal0 λz _=>W.br (λ_=>k _ hq) λ_=>W.ck ?_) λz hz=>W.ck (hL _ hz)
  refine W.lp (λ_=>True) trivial λL2 u _ hL2=>W.jp (λ_=>True) (λJ2 k2=>W.br (λ_=>W.cal0 λw _=>k2 _ trivial) λ_=>k2 _ trivial) λb _=>W.br (λ_=>W.ck (hL2 _ trivial)) λ_=>W.ck (W.asr λ_=>W.cal (zqK _ _ _) λw hw=>W.br (λ_=>W.some (hw.trans hq)) λ_=>k _ (hw.trans hq))
 ·refine W.jp (λ(z:Bool × GMk)=>z.2=x) (λJ k=>W.br (λ_=>k _ hq) λ_=>W.cal0 λu _=>W.asr λ_=>W.cal (zqK _ _ _) λw hw=>k _ (hw.trans hq)) λz hz=>W.some hz
structure MkW (n:Nat):Prop where
 fields:∀ (x:GMk) (i:Int) (nd:GNode) (d:Int),AN x.m->NN nd->W (λr=>Mx x r) (zcp n x i nd d)
 node:∀ (x:GMk) (k d:Int),AN x.m->W (λr=>Mx x r.2) (zc6 n x k d)
 made:∀ (x:GMk) (nd:GNode) (d:Int),AN x.m->NN nd->nd.kind ≠ 11->W (λr=>Mx x r.2) (zc4 n x nd d)
theorem mkW:∀ n,MkW n:=by
 intro n
 induction n with
 | zero=>exact ⟨λ_ _ _ _ _ _=>W.none,λ_ _ _ _=>W.none,λ_ _ _ _ _ _=>W.none⟩
 | succ n ih =>
  refine ⟨λx i nd d hx hn=>?_,λx k d hx=>?_,λx nd d hx hn h11=>?_⟩
  ·show W _ (zcd (zcp n) (zc6 n) (zc4 n) x i nd d)
   unfold zcd
   refine W.lp (λ_=>True) trivial λL0 q0 _ hL0=>W.br (λ_=>W.cal0 λy _=>W.jp (λ_=>True) (λJ k=>W.br (λ_=>k _ trivial) λ_=>W.cal0 λz _=>k _ trivial) λb _=>W.ck (hL0 _ trivial)) λ_=>?_
   refine W.jp (λ_=>True) (λJ k=>W.br (λ_=>k _ trivial) λ_=>k _ trivial) λb _=>W.jp (λ_=>True) (λJ k=>W.br (λ_=>k _ trivial) λ_=>k _ trivial) λb2 _=>?_
   refine W.jp (λ(z:GMk)=>Mx x z) (λJ k=>W.br (λ_=>W.cal (zgU _ _) λu hu=>k _ (ziL hu.1 hu.2.1 hu.2.2.1)) λ_=>k _ (.refl x)) λz hz=>?_
   refine W.lp (λ(q:List GFld × Int × GMk)=>0 <= q.2.1/\q.2.1 <= (nd.fields.length:Int)/\Mx x q.2.2/\(q.2.2.e=0->q.1.map (λf=>f.name)=(nd.fields.take q.2.1.toNat).map (λf=>f.name)/\((nd.fields.take q.2.1.toNat).map λf=>f.name).Nodup)) ⟨zIl _,by dsimp only;omega,hz,λ_=>⟨rfl,List.nodup_nil⟩⟩ λL q ⟨q0,q1,q2,q3⟩ hL=>?_
   refine W.jp (λb=>(b=true->q.2.1 < (nd.fields.length:Int))/\(b=false->q.2.2.e=0->(nd.fields.length:Int) <= q.2.1)) (λJ k=>W.br (λh=>k _ ⟨λ_=>zOT h,λh2 e=>absurd e (zOF h2)⟩) λh=>k _ ⟨λh=>(by cases h),λ_ _=>by have:=zOF h;omega⟩) λb hb=>W.br (λh=>?_) λh=>?_
   ·have hlt:=hb.1 h
    refine W.cal0 λf hf=>?_
    have hfi:=(zeV hf).2.2
    refine W.lp (λ(p:Int × GMk)=>0 <= p.1/\p.2.m=q.2.2.m/\p.2.l=q.2.2.l/\(p.2.e=0->q.2.2.e=0/\∀ (j:Nat) g,(j:Int) < p.1->nd.fields[j]?=some g->g.name ≠ f.name)) ⟨zIl _,rfl,rfl,λe=>⟨e,λj g hj=>by dsimp only at hj;omega⟩⟩ λL2 p ⟨p0,p1,p2,p3⟩ hL2=>W.br (λhc=>?_) λhc=>?_
    ·refine W.jp (λ(z:GMk)=>z.m=q.2.2.m/\z.l=q.2.2.l/\(z.e=0->p.2.e=0/\∀ g,nd.fields[p.1.toNat]?=some g->g.name ≠ f.name)) (λJ k=>W.cal0 λg hg=>W.br (λ_=>W.cal (zgU _ _) λu hu=>k _ ⟨hu.1.trans p1,hu.2.1.trans p2,λe=>absurd e (hu.2.2.2 (by decide))⟩) λhne=>k _ ⟨p1,p2,λe=>⟨e,λg' hg'=>?_⟩⟩) λz hz=>W.ck (hL2 _ ⟨by dsimp only;omega,hz.1,hz.2.1,λe=>?_⟩)
     ·have:=(zeV hg).2.2
      rw [hg'] at this;cases this
      exact zOF hne
     ·dsimp only at e ⊢
      obtain ⟨e1,e2⟩:=hz.2.2 e
      refine ⟨(p3 e1).1,λj g hj hg=>?_⟩
      by_cases hj2:(j:Int) < p.1
      ·exact (p3 e1).2 j g hj2 hg
      ·have:j=p.1.toNat:=by omega
       subst this
       exact e2 g hg
    ·have hc:=zOF hc
     have hM:Mx x p.2:=q2.trans (ziL p1 p2 λe=>(p3 e).1)
     refine W.ck (W.cal (ih.node _ _ _ (by rw [hM.m];exact hx)) λy hy=>?_)
     refine W.jp (λ_=>True) (λJ k=>W.br (λ_=>k _ trivial) λ_=>k _ trivial) λb3 _=>?_
     refine W.jp (λ(u:GFld × GMk)=>Mx p.2 u.2/\u.1.name=f.name) (λJ k=>W.br (λ_=>W.cal (zwe _ _ _) λu hu=>k _ ⟨hy.trans hu,rfl⟩) λ_=>k _ ⟨hy,rfl⟩) λu hu=>?_
     refine W.jp (λ_=>True) (λJ k=>W.br (λ_=>k _ trivial) λ_=>k _ trivial) λb4 _=>?_
     refine W.jp (λ(w:GMk)=>Mx p.2 w) (λJ k=>W.br (λ_=>W.cal (ztP _ _) λw hw=>W.cal (ztu _ _ _ _) λv hv=>k _ (hu.1.trans (by rw [hw] at hv;exact hv))) λ_=>k _ hu.1) λw hw=>W.asr λ_=>W.ck (hL _ ⟨by dsimp only;omega,by dsimp only;omega,hM.trans hw,λe=>?_⟩)
     dsimp only at e ⊢
     obtain ⟨e1,e2⟩:=p3 (hw.e e)
     obtain ⟨g1,g2⟩:=q3 e1
     have et:(nd.fields.take (q.2.1 + 1).toNat).map (λf=>f.name)=(nd.fields.take q.2.1.toNat).map (λf=>f.name) ++ [f.name]:=by
      rw [show (q.2.1 + 1).toNat=q.2.1.toNat + 1 by omega,List.take_add_one,hfi,List.map_append];rfl
     rw [et]
     refine ⟨by rw [List.map_append,g1];show _ ++ [u.1.name]=_;rw [hu.2],?_⟩
     rw [List.nodup_append]
     refine ⟨g2,(List.nodup_cons.2 ⟨List.not_mem_nil,List.nodup_nil⟩),λa ha b hb=>?_⟩
     rw [zMo.1 hb]
     obtain ⟨g,hg,rfl⟩:=List.mem_map.1 ha
     obtain ⟨j,hj⟩:=List.mem_iff_getElem?.1 hg
     have hjl:=(List.getElem?_eq_some_iff.1 hj).1
     rw [zLt] at hjl
     rw [List.getElem?_take,if_pos (by omega)] at hj
     exact e2 j g (by omega) hj
   ·refine W.br (λhe=>W.asr λ_=>W.cal0 λy hy=>W.asr λ_=>W.cal0 λz _=>W.cal (zuR _ _) λu hu=>?_) λ_=>W.some q2
    have he:=zOT he
    have hlen:=hb.2 h he
    obtain ⟨g1,g2⟩:=q3 he
    rw [zTl (by omega)] at g1 g2
    have key:Mx x (GMk.mk q.2.2.m (q.2.2.l.set i.toNat { y with fields:=q.1 }) q.2.2.e):=⟨q2.m,q2.e,λe ht=>by
     have h1:=q2.t e ht
     have hT:=h1 y (List.mem_of_getElem? hy)
     refine zpm h1 ⟨hT.k1,hT.k2,λf hf=>?_,hT.i,by show (q.1.map _).Nodup;rw [g1];exact g2,hT.id⟩
     have:f.name ∈ nd.fields.map (λf=>f.name):=by rw [<- g1];exact List.mem_map.2 ⟨f,hf,rfl⟩
     obtain ⟨g,hg,e2⟩:=List.mem_map.1 this
     rw [<- e2];exact hn.f g hg⟩
    rw [hu]
    exact W.br (λ_=>W.cal (zgU _ _) λv hv=>W.some (key.trans (ziL hv.1 hv.2.1 hv.2.2.1))) λ_=>W.some key
  ·show W _ (zcN (zcp n) (zc6 n) (zc4 n) x k d)
   unfold zcN
   refine W.br (λ_=>W.some (.refl x)) λ_=>W.cal0 λy hy=>?_
   have hyn:=hx y (zeV hy).1
   refine W.jp (λ(q:Int × GMk)=>Mx x q.2) (λJ k=>W.br (λ_=>W.cal0 λa _=>W.cal0 λb _=>W.cal (ih.node _ _ _ hx) λc hc=>k _ hc) λh=>W.cal (ih.made _ _ _ hx hyn (zOF h)) λc hc=>k _ hc) λq hq=>?_
   refine W.jp (λ_=>True) (λJ k=>W.br (λ_=>k _ trivial) λ_=>k _ trivial) λb _=>?_
   refine W.jp (λ(z:GMk)=>Mx x z) (λJ k=>W.br (λ_=>?_) λ_=>k _ hq) λz hz=>W.some hz
   refine W.jp (λ(p:Int × GMk)=>p.2=q.2) (λJ2 k2=>W.br (λ_=>k2 _ rfl) λ_=>W.jp (λ_=>True) (λJ3 k3=>W.br (λ_=>k3 _ trivial) λ_=>k3 _ trivial) λc _=>W.br (λ_=>W.cal (ztP _ _) λu hu=>k2 _ hu) λ_=>k2 _ rfl) λp hp=>W.cal (ztu _ _ _ _) λu hu=>k _ (hq.trans (by rw [hp] at hu;exact hu))
  ·show W _ (zcO (zcp n) (zc6 n) (zc4 n) x nd d)
   unfold zcO
   refine W.jp (λ_=>True) (λJ k=>W.br (λ_=>k _ trivial) λ_=>k _ trivial) λb _=>W.br (λ_=>W.cal (zgU _ _) λu hu=>W.some (ziL hu.1 hu.2.1 hu.2.2.1)) λ_=>?_
   have hk1:=hn.k1
   have hk2:=hn.k2
   refine W.jp (λ(t:GTyp)=>TN t) (λJ k=>W.br (λ_=>W.cal0 λu _=>k _ ⟨hk1,by show nd.kind <= 10;omega,(λf hf=>by cases hf),(λf hf=>by cases hf),List.nodup_nil,List.nodup_nil⟩) λ_=>k _ ⟨hk1,by show nd.kind <= 10;omega,(λf hf=>by cases hf),(λf hf=>by cases hf),List.nodup_nil,List.nodup_nil⟩) λt ht=>?_
   refine W.jp (λ(z:GMk)=>Mx x z) (λJ k=>W.asr λ_=>k _ ⟨rfl,id,λ_ h y hy=>(List.mem_append.1 hy).elim (h y) λh1=>by rw [zMo.1 h1];exact ht⟩) λz hz=>?_
   have hzm:AN z.m:=by rw [hz.m];exact hx
   refine W.jp (λ(w:GMk)=>Mx x w) (λJ k=>?_) λw hw=>W.some hw
   refine W.jp (λ_=>True) (λJ2 k2=>W.br (λ_=>k2 _ trivial) λ_=>W.br (λ_=>k2 _ trivial) λ_=>W.br (λ_=>k2 _ trivial) λ_=>k2 _ trivial) λc _=>W.br (λ_=>W.cal0 λu _=>?_) λ_=>?_
   ·refine W.jp (λ(w:GMk)=>Mx x w) (λJ2 k2=>W.br (λ_=>W.cal (zgU _ _) λv hv=>k2 _ (hz.trans (ziL hv.1 hv.2.1 hv.2.2.1))) λ_=>k2 _ hz) λw hw=>W.br (λ_=>W.ck (W.cal (ih.node _ _ _ (by rw [hw.m];exact hx)) λv hv=>W.br (λ_=>W.asr λ_=>W.cal0 λs hs=>k _ ?_) λ_=>k _ (hw.trans hv))) λ_=>k _ hw
    have h1:=hw.trans hv
    exact ⟨h1.m,h1.e,λe ht2=>by
     have h2:=h1.t e ht2
     have hT:=h2 s (List.mem_of_getElem? hs)
     exact zpm h2 ⟨hT.k1,hT.k2,hT.f,hT.i,hT.fd,hT.id⟩⟩
   ·refine W.br (λ_=>W.cal (zub _ _ hn.i) λv hv=>W.asr λ_=>W.asr λ_=>W.cal0 λs hs=>k _ ?_) λ_=>?_
    ·refine ⟨hv.1.trans hz.m,λe=>hz.e (hv.2.2 e).1,λe ht2=>?_⟩
     obtain ⟨e1,e2,e3⟩:=hv.2.2 e
     have h2:=hz.t e1 ht2
     dsimp only
     rw [hv.2.1] at hs ⊢
     have hT:=h2 s (List.mem_of_getElem? hs)
     exact zpm h2 ⟨hT.k1,hT.k2,hT.f,e2,hT.fd,e3⟩
    ·refine W.jp (λ_=>True) (λJ2 k2=>W.br (λ_=>k2 _ trivial) λ_=>W.br (λ_=>k2 _ trivial) λ_=>k2 _ trivial) λc _=>W.br (λ_=>W.cal (ih.fields _ _ _ _ hzm hn) λv hv=>k _ (hz.trans hv)) λ_=>k _ hz
theorem zvX (m:GMod) (hm:AN m):W (λr=>∀ t ∈ r.1.types,TN t) (zgw m):=by
 unfold zgw
 refine W.cal0 λy _=>W.br (λ_=>W.some λt ht=>by cases ht) λ_=>?_
 refine W.jp (λ_=>True) (λJ k=>W.asr λ_=>k _ trivial) λq5 _=>?_
 refine W.lp (λ(q:Int × GTab × GMk)=>q.2.2.m=m/\∀ t ∈ q.2.2.l,TN t) ⟨rfl,λt ht=>by cases ht⟩ λL q ⟨h1,h2⟩ hL=>W.br (λ_=>?_) λ_=>W.some h2
 refine W.jp (λ(p:GTab × GMk)=>Mx q.2.2 p.2) (λJ k=>W.cal0 λa _=>W.cal ((mkW fuel).node _ _ _ (by rw [h1];exact hm)) λb hb=>W.asr λ_=>k _ hb) λp hp=>W.br (λ_=>W.some λt ht=>by cases ht) λhe=>W.ck (hL _ ⟨hp.m.trans h1,hp.t (by simpa using he) h2⟩)
theorem zty (s:Str):W (λr=>∀ t ∈ r.1.types,TN t) (zbD s):=by
 unfold zbD
 refine W.br (λ_=>W.some λt ht=>by cases ht) λ_=>W.cal (zvs s) λy hy=>W.br (λ_=>W.some λt ht=>by cases ht) λhe=>W.cal (zvX _ (hy (by simpa using he))) λz hz=>?_
 exact W.jp (λ_=>True) (λJ k=>W.br (λ_=>k _ trivial) λ_=>k _ trivial) λb _=>W.some hz
end Go.Proofs.Q


namespace Go.Proofs.Q
open Go.Sy
set_option maxRecDepth 4000
def tokF (s:Str):Option (List GTok × Int × Int):=some (toks s.b)
theorem zvo:zev=tokF:=funext zod
def zk7 (zbV:Str):Option (GMod × Int × Int) :=
 cal (tokF zbV) λy2=>br (!decide (y2.2.2=(0:Int))) (some ((GMod.mk (Str.mk []) (0:Int) ([]:(List Str)) ([]:(List Int)) ([]:(List GNode))),y2.2.1,y2.2.2)) (cal (za7 (GPar.mk y2.1 (0:Int) (GMod.mk (Str.mk []) (0:Int) ([]:(List Str)) ([]:(List Int)) ([]:(List GNode))) (0:Int) (0:Int)) (1:Int)) λy7=>cal (zP (GPar.mk y7.2.l y7.2.at_ (GMod.mk y7.1 y7.2.m.tagging y7.2.m.names y7.2.m.types y7.2.m.nodes) y7.2.e y7.2.p) (Str.mk [68,69,70,73,78,73,84,73,79,78,83])) λy10=>jp (ι:=GPar) (λJ14=>cal (zH y10 (Str.mk [69,88,80,76,73,67,73,84])) λy15=>br y15.1 (cal (zP y15.2 (Str.mk [84,65,71,83])) λy18=>J14 (y18)) (cal (zH y15.2 (Str.mk [73,77,80,76,73,67,73,84])) λy21=>br y21.1 (cal (zP (GPar.mk y21.2.l y21.2.at_ (GMod.mk y21.2.m.name (1:Int) y21.2.m.names y21.2.m.types y21.2.m.nodes) y21.2.e y21.2.p) (Str.mk [84,65,71,83])) λy24=>J14 (y24)) (cal (zH y21.2 (Str.mk [65,85,84,79,77,65,84,73,67])) λy27=>br y27.1 (cal (zP (GPar.mk y27.2.l y27.2.at_ (GMod.mk y27.2.m.name (2:Int) y27.2.m.names y27.2.m.types y27.2.m.nodes) y27.2.e y27.2.p) (Str.mk [84,65,71,83])) λy30=>J14 (y30)) (J14 (y27.2))))) (λq13=>cal (zP q13 (Str.mk [58,58,61])) λy33=>cal (zP y33 (Str.mk [66,69,71,73,78])) λy36=>lp (ι:=GPar) (λL40 q39=>jp (ι:=Bool × GPar) (λJ92=>br (decide (q39.e=(0:Int))) (cal (zH q39 (Str.mk [69,78,68])) λy94=>J92 ((!y94.1),y94.2)) (J92 (false,q39))) (λq91=>br q91.1 (cal (zaw q91.2) λy97=>cal (za7 y97.2 (1:Int)) λy101=>jp (ι:=Bool) (λJ105=>br (decide (y101.2.e=(0:Int))) (J105 ((decide ((40:Int) <= (y101.2.m.names.length:Int))))) (J105 (false))) (λq104=>jp (ι:=GPar) (λJ108=>br q104 (cal (zaK y101.2 (5:Int) y97.1) λy109=>J108 (y109)) (J108 (y101.2))) (λq107=>cal (zP q107 (Str.mk [58,58,61])) λy112=>cal (za2 fuel y112 (0:Int)) λy115=>asr (Nat.ble (y115.2.m.names.length + ([y101.1]:(List Str)).length) 68719476736) <| asr (Nat.ble (y115.2.m.types.length + ([y115.1]:(List Int)).length) 68719476736) <| L40 ((GPar.mk y115.2.l y115.2.at_ (GMod.mk y115.2.m.name y115.2.m.tagging (y115.2.m.names ++ ([y101.1]:(List Str))) (y115.2.m.types ++ ([y115.1]:(List Int))) y115.2.m.nodes) y115.2.e y115.2.p))))) (jp (ι:=Bool × GPar) (λJ126=>br (decide (q91.2.e=(0:Int))) (cal (zaw q91.2) λy128=>J126 ((!decide (y128.1.kind=(0:Int))),y128.2)) (J126 (false,q91.2))) (λq125=>jp (ι:=GPar) (λJ132=>br q125.1 (cal (zaw q125.2) λy133=>cal (zaK y133.2 (7:Int) y133.1) λy136=>J132 (y136)) (J132 (q125.2))) (λq131=>br (!decide (q131.e=(0:Int))) (some ((GMod.mk (Str.mk []) (0:Int) ([]:(List Str)) ([]:(List Int)) ([]:(List GNode))),q131.p,q131.e)) (some (q131.m,(0:Int),(0:Int)))))))) ((y36))))
theorem znT:zeJ=zk7:=by
 funext zbV
 unfold zeJ zk7
 rw [zvo]
def zhZ (zbV:Str):Option (GTab × Bool) :=
 br (decide ((3000:Int) < (zbV.b.length:Int))) (some ((GTab.mk (Str.mk []) ([]:(List Str)) ([]:(List Int)) ([]:(List GTyp))),false)) (cal (zk7 zbV) λy2=>br (!decide (y2.2.2=(0:Int))) (some ((GTab.mk (Str.mk []) ([]:(List Str)) ([]:(List Int)) ([]:(List GTyp))),false)) (cal (zgw y2.1) λy4=>jp (ι:=Bool) (λJ7=>br (decide (y4.2.2=(0:Int))) (J7 ((decide ((y4.1.types.length:Int) <= (120:Int))))) (J7 (false))) (λq6=>some (y4.1,q6))))
theorem zky:zbD=zhZ:=by
 funext zbV
 unfold zbD zhZ
 rw [znT]
end Go.Proofs.Q


namespace Go.Proofs.Q
open Go.Sy
set_option maxRecDepth 4000
end Go.Proofs.Q


namespace Go.Proofs.Q
open Go.Sy
set_option linter.unusedVariables false
set_option maxRecDepth 4000

def conN:GCon:=⟨false,false,false,false,0,0⟩
def tabGood (l:List GTyp):Bool:=decide (l.length <= 1000) && l.all λx=>decide (x.fields.length <= 1000) && decide (x.items.length <= 1000) && (x.fields.all λf=>decide (0 <= f.ty) && decide (f.ty < l.length) && nmOk f.name.b && decide (f.name.b.length <= 90)) && (x.items.all λit=>nmOk it.name.b && decide (it.name.b.length <= 90)) &&
 (!decide (x.kind=10) || (decide (0 <= x.of) && decide (x.of < l.length))) && decide (1 <= x.kind) && decide (x.kind <= 10) && decide ((x.fields.map λf=>f.name).Nodup) && decide ((x.items.map λit=>it.name).Nodup)
structure TG (l:List GTyp):Prop where
 ok:TOk l
 nb:NmB l
 nw:NmW l
theorem ztl {l:List GTyp} (h:tabGood l=true):TG l:=by
 unfold tabGood at h
 rw [zBa] at h
 have hl:=zOT h.1
 have ha:=λx hx=>List.all_eq_true.1 h.2 x hx
 simp only [zBa] at ha
 refine ⟨⟨hl,λx hx=>zOT (ha x hx).1.1.1.1.1.1.1.1,λx hx=>?_,λx hx f hf=>?_,λx hx hk=>?_,λx hx=>?_⟩,⟨hl,λx hx=>zOT (ha x hx).1.1.1.1.1.1.1.1,λx hx=>?_,λx hx f hf=>?_,λx hx it hit=>?_⟩,⟨λx hx f hf=>?_,λx hx it hit=>?_,λx hx=>?_,λx hx=>?_⟩⟩
 ·have:=zOT (ha x hx).1.1.1.1.1.1.1.2;omega
 ·have:=List.all_eq_true.1 (ha x hx).1.1.1.1.1.1.2 f hf
  simp only [zBa] at this
  exact ⟨zOT this.1.1.1,zOT this.1.1.2⟩
 ·have:=(ha x hx).1.1.1.1.2
  rw [zDT hk,Bool.not_true,Bool.false_or,zBa] at this
  exact ⟨zOT this.1,zOT this.2⟩
 ·exact ⟨zOT (ha x hx).1.1.1.2,zOT (ha x hx).1.1.2⟩
 ·have:=zOT (ha x hx).1.1.1.1.1.1.1.2;omega
 ·have:=List.all_eq_true.1 (ha x hx).1.1.1.1.1.1.2 f hf
  simp only [zBa] at this
  exact zOT this.2
 ·have:=List.all_eq_true.1 (ha x hx).1.1.1.1.1.2 it hit
  simp only [zBa] at this
  exact zOT this.2
 ·have:=List.all_eq_true.1 (ha x hx).1.1.1.1.1.1.2 f hf
  simp only [zBa] at this
  exact this.1.2
 ·have:=List.all_eq_true.1 (ha x hx).1.1.1.1.1.2 it hit
  simp only [zBa] at this
  exact this.1
 ·exact zOT (ha x hx).1.2
 ·exact zOT (ha x hx).2
/-! ### A table is well made: by looking -/
def dokB (v:Val):Bool:=decide (v.b.length <= 8000) && v.l.isEmpty && v.more.isEmpty && decide (0 <= v.kind) && decide (v.kind <= 6) && decide (v.rule=0)
def typB (t:GTyp):Bool:=(decide (t.kind=9) || !t.tags.isEmpty) && decide (t.tags.length <= 100000) && decide (0 <= t.root) && (if t.kind=7 \/ t.kind=8 \/ t.kind=9 then decide (t.root <= t.fields.length) else t.fields.isEmpty && (decide (t.kind=3) || decide (t.root=0))) && (if t.kind=3 then decide (t.root <= t.items.length) else t.items.isEmpty) && decide (t.items.length <= 8001) && (t.items.all λit=>decide (-9223372036854775808 <= it.number) && decide (it.number <= 9223372036854775807)) && t.fields.all λf=>dokB f.dflt
theorem zvY {t:GTyp} (h:typB t=true):TypOk t:=by
 unfold typB at h
 simp only [zBa] at h
 obtain ⟨⟨⟨⟨⟨⟨⟨h1,h2⟩,h3⟩,h4⟩,h5⟩,h6⟩,h7⟩,h8⟩:=h
 refine ⟨λk=>?_,zOT h2,zOT h3,λk=>?_,λk=>?_,λk=>?_,λk=>?_,zOT h6,λit hit=>?_,λf hf=>?_,λk k2=>?_⟩
 ·rw [zDF k,Bool.false_or] at h1
  intro e;rw [e] at h1;cases h1
 ·rw [if_pos k] at h4;exact zOT h4
 ·rw [if_pos k] at h5;exact zOT h5
 ·rw [if_neg k,zBa] at h4;exact List.isEmpty_iff.1 h4.1
 ·rw [if_neg k] at h5;exact List.isEmpty_iff.1 h5
 ·have:=List.all_eq_true.1 h7 it hit
  rw [zBa] at this
  exact ⟨zOT this.1,zOT this.2⟩
 ·have:=List.all_eq_true.1 h8 f hf
  unfold dokB at this
  simp only [zBa] at this
  exact ⟨zOT this.1.1.1.1.1,List.isEmpty_iff.1 this.1.1.1.1.2,List.isEmpty_iff.1 this.1.1.1.2,zOT this.1.1.2,zOT this.1.2,zOT this.2⟩
 ·rw [if_neg k2,zBa,zDF k,Bool.false_or] at h4
  exact zOT h4.2
def kidsJ (S:Nat->Option Nat):List Int->Nat->Option Nat
 | [],a=>some a
 | k :: r,a=>if k=(a:Int) then (match S a with
  | some c=>kidsJ S r c
  | none=>none) else none
theorem zpb {S:Nat->Option Nat} {R:Nat->Nat->Prop} (h:∀ a c,S a=some c->R a c):∀ {l:List Int} {a b:Nat},kidsJ S l a=some b->Kids R l a b
 | [],a,b,e=>by injection e
 | k :: r,a,b,e=>by
  change (if k=(a:Int) then (match S a with | some c=>kidsJ S r c | none=>none) else none)=some b at e
  by_cases hk:k=(a:Int)
  ·rw [if_pos hk] at e
   cases hc:S a with
   | none=>rw [hc] at e;cases e
   | some c=>rw [hc] at e;exact ⟨c,hk,h a c hc,zpb h e⟩
  ·rw [if_neg hk] at e;cases e
def subJ:Nat->List GTyp->Nat->Option Nat
 | 0,_,_=>none
 | h + 1,l,i=>match l[i]? with
  | none=>none
  | some t=>if typB t=true then kidsJ (subJ h l) (kidsT t) (i + 1) else none
theorem zvG:∀ {h:Nat} {l:List GTyp} {i j:Nat},subJ h l i=some j->SubT h l i j:=by
 intro h
 induction h with
 | zero=>intro l i j e;cases e
 | succ h ih =>
  intro l i j e
  change (match l[i]? with | none=>none | some t=>if typB t=true then kidsJ (subJ h l) (kidsT t) (i + 1) else none)=some j at e
  cases ht:l[i]? with
  | none=>rw [ht] at e;cases e
  | some t =>
   rw [ht] at e
   dsimp only at e
   by_cases hb:typB t=true
   ·rw [if_pos hb] at e
    exact ⟨t,ht,zvY hb,zpb (R:=SubT h l) (λa c h=>ih h) e⟩
   ·rw [if_neg hb] at e;cases e
def tabB (t:GTab):Bool:=decide (t.names.length <= 40) && decide (t.roots.length=t.names.length) && decide (t.types.length <= 300) && decide (kidsJ (subJ 17 t.types) t.roots 0=some t.types.length) && (List.range t.names.length).all λp=>(t.names[p]?).all λs=>decide (fnd t.names s=(p:Int))
theorem zvH {t:GTab} (h:tabB t=true):TabOk t:=by
 unfold tabB at h
 simp only [zBa] at h
 obtain ⟨⟨⟨⟨h1,h2⟩,h3⟩,h4⟩,h5⟩:=h
 refine ⟨zOT h1,zOT h2,zOT h3,zpb (R:=SubT 17 t.types) (λa c h=>zvG h) (zOT h4),λp s hp=>?_⟩
 have hlt:=(List.getElem?_eq_some_iff.1 hp).1
 have:=List.all_eq_true.1 h5 p (List.mem_range.2 hlt)
 rw [hp] at this
 exact zOT this

/-! ### awake -/
def tabW:GTab:=⟨⟨[77]⟩,[⟨[65]⟩],[0],[⟨7,[⟨0,16⟩],conN,[],[⟨⟨[97]⟩,1,false,false,zeroV,0⟩,⟨⟨[98]⟩,2,true,false,zeroV,0⟩],2,false,0⟩,⟨2,[⟨0,2⟩],conN,[],[],0,false,0⟩,⟨1,[⟨0,1⟩],conN,[],[],0,false,0⟩]⟩
theorem zve:zbD (Str.mk [77,32,68,69,70,73,78,73,84,73,79,78,83,32,58,58,61,32,66,69,71,73,78,32,65,32,58,58,61,32,83,69,81,85,69,78,67,69,32,123,32,97,32,73,78,84,69,71,69,82,44,32,98,32,66,79,79,76,69,65,78,32,79,80,84,73,79,78,65,76,32,125,32,69,78,68])=some (tabW,true):=by
 rw [zky];kernel_rfl
theorem zvI:TG tabW.types:=ztl (by kernel_rfl)
theorem zvp:TabOk tabW:=zvH (by kernel_rfl)
def valW:Val:=leafV 7 0 [] [leafV 2 5 [] [],leafV 1 1 [] []]
theorem zpM {k n:Int} {b:List UInt8} {l:List Val} (h:inI64 n) (hl:∀ w ∈ l,I64V w):I64V (leafV k n b l):=by
 unfold inI64 at h
 exact .mk h.1 (by have:=h.2;show n <= _;omega) hl
end Go.Proofs.Q


namespace Go.Proofs.Q
open Go.Sy
set_option linter.unusedVariables false
set_option maxRecDepth 4000

theorem zow {t:GTab} (ht:TabOk t) (i:Int) {v:Val} (hf:Fine v) (hc:cnt v <= 100000):T (λr=>r=true ↔ (FitX t 17 i v/\cnt v <= 5000)) (zhu t i v):=by
 unfold zhu
 refine T.cal (fitsXC ht (h:=17) (n:=fuel) (i:=i) (d:=1) (by decide) (by decide) (by unfold fuel;decide) hf hc) λy _ hy=>?_
 refine T.jp (λb=>b=true ↔ (FitX t 17 i v/\cnt v <= 5000)) (λJ kk=>T.br (λh=>T.eq (zsD (by unfold fuel;omega) (by omega) hf) (kk _ ?_)) λh=>kk _ ⟨λh=>(by cases h),λh2=>?_⟩) λb hb=>T.some hb
 ·rw [decide_eq_true_iff]
  exact ⟨λh2=>⟨hy.2.1 h,by omega⟩,λh2=>by omega⟩
 ·have:=hy.2.2 h2.1
  rw [h] at this;cases this
theorem zlZ {t:GTab} {h:Nat} {i:Int} {x:GTyp} {v:Val} (h0:0 <= i) (hx:t.types[i.toNat]?=some x) (h12:v.kind ≠ 12) (hk:v.kind=x.kind) (hF:FitKX t i x v (FitX t h)):FitX t (h + 1) i v:=⟨h0,x,hx,.inr ⟨h12,hk,hF⟩⟩
theorem awakeX:zfm=some true:=by
 refine T.eqs ?_
 unfold zfm
 have hX:FitX tabW 17 0 valW:=by
  refine zlZ (x:=⟨7,[⟨0,16⟩],conN,[],[⟨⟨[97]⟩,1,false,false,zeroV,0⟩,⟨⟨[98]⟩,2,true,false,zeroV,0⟩],2,false,0⟩) (zIl _) rfl (show (7:Int) ≠ 12 by decide) rfl ?_
  unfold FitKX
  rw [if_neg (by decide),if_neg (by decide),if_neg (by decide),if_neg (by decide),if_neg (by decide),if_neg (by decide),if_neg (by decide),if_pos (by decide)]
  refine ⟨rfl,rfl,?_,λk f w hf hw=>?_,λs hs=>by cases hs⟩
  ·unfold rwP
   rw [if_pos (show valW.more=[] from rfl)];rfl
  ·match k,hf,hw with
   | 0,hf,hw =>
    cases hf;cases hw
    refine .inr ⟨show (2:Int) ≠ 0 by decide,zlZ (x:=⟨2,[⟨0,2⟩],conN,[],[],0,false,0⟩) (by decide) rfl (show (2:Int) ≠ 12 by decide) rfl ?_,λh=>by cases h⟩
    unfold FitKX
    rw [if_neg (by decide),if_pos (by decide)]
    exact ⟨rfl,rfl⟩
   | 1,hf,hw =>
    cases hf;cases hw
    refine .inr ⟨show (1:Int) ≠ 0 by decide,zlZ (x:=⟨1,[⟨0,1⟩],conN,[],[],0,false,0⟩) (by decide) rfl (show (1:Int) ≠ 12 by decide) rfl ?_,λh=>by cases h⟩
    unfold FitKX
    rw [if_pos (by decide)]
    exact ⟨rfl,rfl⟩
   | k + 2,hf,hw=>cases hw
 have hI:I64V valW:=zpM (zov (by decide) (by decide)) λw hw=>by
  simp only [List.mem_cons,List.not_mem_nil,or_false] at hw
  rcases hw with e | e <;> subst e <;> exact zpM (zov (by decide) (by decide)) λw hw=>by cases hw
 have hf:Fine valW:=zoa (zNz _) (by decide) λw hw=>by
  simp only [List.mem_cons,List.not_mem_nil,or_false] at hw
  rcases hw with e | e <;> subst e <;> exact zoa (zNz _) (zNz _) λw hw=>by cases hw
 have hb:bare valW=true:=by decide +kernel
 have hc:cnt valW=3:=by decide +kernel
 have ht:txt 17 tabW.types 0 valW=[123,32,97,32,53,44,32,98,32,84,82,85,69,32,125]:=by
  have e5:Lib.itoa 5=[53]:=by
   unfold Lib.itoa
   rw [if_neg (by decide),Lib.decDigits_one (by decide)];rfl
  show brc [[97] ++ 32 :: Lib.itoa 5,[98] ++ 32 :: [84,82,85,69]]=_
  rw [e5];rfl
 have hp:=prP zvI.nb (h:=17) (n:=fuel) (b:=[]) (by unfold fuel;decide) (zpx hX hb) hb hI hf (by omega) (by rw [hc];decide)
 rw [ht] at hp
 obtain ⟨r,hr1,hr2⟩:=zow zvp 0 hf (by omega)
 have hr:r=true:=hr2.2 ⟨hX,by omega⟩
 subst hr
 have hbc:=zqx (k:=3) (n:=fuel) (by omega) (by unfold fuel;decide) hf
 rw [hb] at hbc
 refine T.eq zve (T.eq (y:=(⟨[123,32,97,32,53,44,32,98,32,84,82,85,69,32,125]⟩,0)) ?_ (T.and' (T.and' (T.some rfl))))
 refine T.eqs ?_
 unfold zd9
 exact T.eq hr1 (T.br (λh=>by cases h) λ_=>T.eq hbc (T.br (λh=>by cases h) λ_=>T.eq hp (T.br (λh=>by cases h) λ_=>T.some rfl)))
end Go.Proofs.Q


namespace Go.Proofs.Q
open Go.Sy
set_option linter.unusedVariables false

theorem zrV {s:List UInt8} (h:nmOk s=true):s.length <= 90:=by
 unfold nmOk at h
 simp only [zBa] at h
 have:=zOT h.1.2
 omega
theorem zvJ {t:GTab} (ht:TabOk t) (hn:∀ x ∈ t.types,TN x):NmB t.types:=by
 have htl:=ht.types
 have key:∀ x ∈ t.types,x.fields.length <= 1000/\x.items.length <= 100000:=λx hx=>by
  obtain ⟨k,hk⟩:=List.mem_iff_getElem?.1 hx
  have hlt:=(List.getElem?_eq_some_iff.1 hk).1
  obtain ⟨y,hy⟩:=ztB ht (i:=(k:Int)) (Int.natCast_nonneg _) (by omega)
  have e:=hy.at_
  rw [Int.toNat_natCast,hk] at e
  cases e
  exact ⟨hy.fl,by have:=hy.ok.ilen;omega⟩
 exact ⟨by omega,λx hx=>(key x hx).1,λx hx=>(key x hx).2,λx hx f hf=>zrV ((hn x hx).f f hf),λx hx it hit=>zrV ((hn x hx).i it hit)⟩
theorem zst {S:Frz}:∀ (n:Nat) (v:Val),SizeOf.sizeOf v <= n->∀ cs,rdVal S v cs->I64V v:=by
 intro n
 induction n with
 | zero=>intro ⟨k,n,b,l,r,m⟩ h;rw [Val.mk.sizeOf_spec] at h;omega
 | succ n ih =>
  intro ⟨k,n',b,l,r,m⟩ hn cs h
  unfold rdVal at h
  obtain ⟨vb,vl,vm,_,_,hi,_,_,_,⟨_,_,_,_,hl,hl2⟩⟩:=h
  refine .mk hi.1 hi.2 λw hw=>?_
  rcases hl2 with hl2 | ⟨_,c,_,_,_,hl2⟩
  ·rw [show l=[] from hl2] at hw;cases hw
  ·obtain ⟨c,hc⟩:=zmO (zf7.1 hl2) w hw
   refine ih w ?_ c hc
   have:=List.sizeOf_lt_of_mem (show w ∈ l from hw)
   rw [Val.mk.sizeOf_spec] at hn
   omega
theorem zvb {S:Frz} {u:Value} {v:Val} (h:(isv v).p S u):I64V v:=zst _ v (zNl _) _ h.2
theorem zs7 {t:GTab} (ht:TabOk t) (i:Int) {v:Val} (hf:Fine v) (hc:cnt v <= 100000):T (λr=>r=true ↔ (FitX t 17 i v/\cnt v <= 5000)) (zjY t i v):=by
 unfold zjY
 refine T.eq (zqM (by unfold fuel;omega) (by omega) hf) (T.jp (λb=>b=true ↔ (FitX t 17 i v/\cnt v <= 5000)) (λJ kk=>T.br (λh=>T.cal (fitsXR ht (h:=17) (n:=fuel) (i:=i) (d:=1) (by decide) (by decide) (by unfold fuel;decide) hf hc) λy _ hy=>kk _ ?_) λh=>kk _ ⟨λh=>(by cases h),λh2=>?_⟩) λb hb=>T.some hb)
 ·rw [hy]
  exact ⟨λh2=>⟨h2,by have:=zOT h;omega⟩,λh2=>h2.1⟩
 ·have:=zOF h;omega
theorem zsf {t:GTab} (ht:TabOk t) (hB:NmB t.types) (i:Int) {v:Val} (hf:Fine v) (hc:cnt v <= 2000) (hI:I64V v):∃ o,zd9 t i v=some o/\zgf t i v=some o:=by
 obtain ⟨a,ha1,ha2⟩:=zow ht i hf (show cnt v <= 100000 by omega)
 obtain ⟨b,hb1,hb2⟩:=zs7 ht i hf (show cnt v <= 100000 by omega)
 have hab:a=b:=by rw [Bool.eq_iff_iff,ha2,hb2]
 subst hab
 have hbc:=zqx (k:=2000) (n:=fuel) hc (by unfold fuel;decide) hf
 have hbr:=zsO (n:=fuel) (v:=v) (by unfold fuel;omega) hf
 cases ha:a with
 | false =>
  rw [ha] at ha1 hb1
  refine ⟨(⟨[]⟩,13),T.eqs ?_,T.eqs ?_⟩
  ·unfold zd9
   exact T.eq ha1 (T.br (λ_=>T.some rfl) λh=>by cases h)
  ·unfold zgf
   exact T.eq hb1 (T.br (λ_=>T.some rfl) λh=>by cases h)
 | true =>
  have hX:=(ha2.1 ha).1
  rw [ha] at ha1 hb1
  cases hbb:bare v with
  | false =>
   rw [hbb] at hbc hbr
   refine ⟨(⟨[]⟩,16),T.eqs ?_,T.eqs ?_⟩
   ·unfold zd9
    exact T.eq ha1 (T.br (λh=>by cases h) λ_=>T.eq hbc (T.br (λ_=>T.some rfl) λh=>by cases h))
   ·unfold zgf
    exact T.eq hb1 (T.br (λh=>by cases h) λ_=>T.eq hbr (T.br (λ_=>T.some rfl) λh=>by cases h))
  | true =>
   rw [hbb] at hbc hbr
   have hF:=zpx hX hbb
   have hp:=prP hB (h:=17) (n:=fuel) (b:=[]) (by unfold fuel;decide) hF hbb hI hf (by omega) (by simp only [zLn];omega)
   have hr:=zv1 hB (h:=17) (n:=fuel) (by unfold fuel;decide) hF hbb hI hf (by omega)
   refine ⟨pTxt t.types i v,T.eqs ?_,T.eqs ?_⟩
   ·unfold zd9
    refine T.eq ha1 (T.br (λh=>by cases h) λ_=>T.eq hbc (T.br (λh=>by cases h) λ_=>T.eq hp (T.br (λhl=>T.some ?_) λhl=>T.some ?_)))
    ·have hl:(8000:Int) < (([] ++ txt 17 t.types i v:List UInt8).length:Nat):=zOT hl
     rw [List.nil_append] at hl
     unfold pTxt
     rw [if_pos (by omega)]
    ·have hl:¬ (8000:Int) < (([] ++ txt 17 t.types i v:List UInt8).length:Nat):=zOF hl
     rw [List.nil_append] at hl
     unfold pTxt
     rw [if_neg (by omega)];rfl
   ·unfold zgf
    refine T.eq hb1 (T.br (λh=>by cases h) λ_=>T.eq hbr (T.br (λh=>by cases h) λ_=>T.eq hr (T.br (λhl=>T.some ?_) λhl=>T.some ?_)))
    ·have hl:(8000:Int) < ((txt 17 t.types i v).length:Nat):=zOT hl
     unfold pTxt
     rw [if_pos (by omega)]
    ·have hl:¬ (8000:Int) < ((txt 17 t.types i v).length:Nat):=zOF hl
     unfold pTxt
     rw [if_neg (by omega)]
theorem zp9 (s:Str) (w:Int) (v:Val) (hm:FineM v/\I64V v):zeG s w v=some true:=by
 refine T.eqs ?_
 unfold zeG
 refine T.cal (zsc s) λy hy1 ht=>?_
 have hB:=zvJ ht (zty s y hy1)
 refine T.cal (zts ht w) λr _ _=>?_
 refine T.jp (λ_=>True) (λJ k=>T.br (λ_=>k _ trivial) λ_=>k _ trivial) λq4 _=>?_
 refine T.jp (λb=>b=false->cnt v <= 2000/\Fine v) (λJ k=>T.br (λ_=>k _ λh=>by cases h) λ_=>T.cal (zsz hm.1) λz _ hz=>k _ λh=>hz (by simpa using h)) λq7 h7=>T.br (λ_=>T.eq awakeX (T.some rfl)) λh=>?_
 obtain ⟨hc,hf⟩:=h7 h
 obtain ⟨o,e1,e2⟩:=zsf ht hB r.1 hf hc hm.2
 refine T.eq e1 (T.eq e2 (T.eq awakeX (T.and' (T.and' (T.some ?_)))))
 rw [zDT rfl,zDT rfl];rfl
end Go.Proofs.Q


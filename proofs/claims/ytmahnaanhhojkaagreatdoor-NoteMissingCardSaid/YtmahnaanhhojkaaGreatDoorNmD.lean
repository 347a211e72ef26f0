/- NoteMissing: the law's model answers true. No condition: general lemmas. -/
import Derived.Test.YtmahnaanhhojkaaGreatDoorNmA
import Derived.Test.YtmahnaanhhojkaaGreatDoorNmB
import Derived.Test.YtmahnaanhhojkaaGreatDoorNmC
set_option linter.unusedVariables false
set_option linter.unusedSimpArgs false

namespace Go.Proofs.Q
open Go.Sy
set_option linter.unusedVariables false

section leaf
variable {L:List GTok} {t:GTab} {p0 a:Int} {ts:List GTok}
theorem znR {v:Val} {r:List GTok} (h:Sd L a ts) (h2:Sd L (a + 1) r) (hl:r.length + 1=ts.length) (hf:Fine v) (hc:cnt v <= 1000):KR L t p0 ts (.ok v r) (true,v,st L t p0 (a + 1)) :=
 ⟨a + 1,rfl,h2,hf,by omega⟩
theorem zkk {v:Val} {p e:Int} {b:Bool} {s:GStm} {g:GTab} (h:Sd L a ts) (he:e ≠ 0) (hf:Fine v) (hc:cnt v <= 1000):KR L t p0 ts (.bad p e) (b,v,⟨s,g,p,e⟩):=by
 obtain ⟨_,_,eT,_,_,_⟩:=h.cons
 exact ⟨rfl,rfl,he,hf,by show cnt v <= _;rw [eT,zLc];omega⟩
theorem zfT {k n:Int} {b:List UInt8} (hb:b.length <= 9000):Fine (leafV k n b []):=zee (by omega) (zNz _) λw hw=>by cases hw
theorem zhO (k n:Int) (b:List UInt8):cnt (leafV k n b []) <= 1000:=by rw [zg9];simp
end leaf
theorem zvv {s:Str} {r:Int × Er} (h:zbj s 10 64=some r):numV s=r.1:=by unfold numV;rw [h]
theorem zr8 {s:Str} {r:List UInt8} (h:zdV s=some r):octV s=r:=by unfold octV;rw [h]
theorem zuC:∃ r,zbj ⟨[]⟩ 10 64=some r:=⟨_,rfl⟩
theorem zuT:zdV ⟨[]⟩=some []:=by
 refine T.eqs ?_
 unfold zdV
 exact T.lp (ι:=List UInt8 × Int) (λq=>q=([],0)) (λq=>0) rfl (by omega) λJ q e hJ=>by
  subst e
  exact T.ck (by decide) (T.br (λh=>by cases h) λ_=>T.some rfl)
theorem zq1 {L:List GTok} {a:Int} {ts:List GTok} (h:Sd L a ts) {k:Int} {s:Str} {r:List GTok} (e:pOf k ts=some (s,r)) (hk:k ≠ 0):∃ y ∈ L,y.kind=k/\y.text=s/\Sd L (a + 1) r/\r.length + 1=ts.length:=by
 obtain ⟨y,e1,e2,e3⟩:=zth e
 obtain ⟨h1,h2⟩:=h.next e1 (by rw [e2];exact hk)
 have hm:y ∈ L.drop a.toNat:=by rw [h.dr,e1];exact zMs
 exact ⟨y,List.mem_of_mem_drop hm,e2,e3,h1,h2⟩
set_option maxHeartbeats 1000000 in
theorem pvP {t:GTab} (ht:TOk t.types) {L:List GTok} {p0:Int} (hG:∀ y ∈ L,TokG y):∀ (h n:Nat) (i d:Int),0 <= d->d + h=17->5 * h + 5 <= n->0 <= i->i < t.types.length->Rd L t p0 (pv h t.types i) λs=>zbc n s i d:=by
 intro h
 induction h with
 | zero =>
  intro n i d d0 hd hn i0 i1 a ts A
  obtain ⟨n,rfl⟩:∃ n',n=n' + 1:=⟨n - 1,by omega⟩
  rw [zjJ]
  unfold zda
  refine T.br (λ_=>T.eq (zlk A 5) (T.some ⟨rfl,rfl,rfl,by decide,ziI,?_⟩)) λh=>absurd (zOF h) (by omega)
  obtain ⟨_,_,eT,_,_,_⟩:=A.cons
  show cnt zeroV <= _
  rw [zme,eT,zLc];omega
 | succ h ih =>
  intro n i d d0 hd hn i0 i1 a ts A
  obtain ⟨n,rfl⟩:∃ n',n=n' + 4:=⟨n - 4,by omega⟩
  rw [zjJ]
  unfold zda
  refine T.br (λh=>absurd (zOT h) (by omega)) λ_=>T.or' (T.br (λh=>?_) λ_=>?_)
  ·rw [Bool.or_eq_true] at h
   rcases h with h | h
   ·exact absurd (zOT h) (by omega)
   ·have h:(t.types.length:Int) <= i:=zOT h
    omega
  refine T.get i0 i1 λx hx=>?_
  have hx:t.types[i.toNat]?=some x:=hx
  have hxm:x ∈ t.types:=List.mem_of_getElem? hx
  have hfl:=ht.fl x hxm
  have hil:=ht.il x hxm
  have hkd:=ht.kd x hxm
  rw [zsi hx]
  obtain ⟨R,eR⟩:∃ R,R=pvK (pv h t.types) x ts:=⟨_,rfl⟩
  rw [<- eR]
  refine T.jp (KR L t p0 ts R) (λJ k=>?_) λq hq=>?_
  ·have kk:∀ {R'},R=R'->∀ q,KR L t p0 ts R' q->T (VR L t p0 ts R) (J q):=λe q hq=>k q (e ▸ hq)
   unfold pvK at eR
   refine T.br (λhk=>?_) λh1=>?_
   ·have hk:=zOT hk
    rw [if_pos hk] at eR
    refine T.eq (zs7 A _) ?_
    cases h1:pIs [84,82,85,69] ts with
    | some r =>
     obtain ⟨A1,l1⟩:=A.is h1
     rw [h1] at eR
     refine T.br (λ_=>kk eR _ ?_) λh=>by cases h
     rw [hk];exact znR A A1 l1 (zfT (zNz _)) (zhO _ _ _)
    | none =>
     rw [h1] at eR
     refine T.br (λh=>by cases h) λ_=>T.eq (zlt A _) (kk eR _ ?_)
     rw [hk]
     cases h2:pIs [70,65,76,83,69] ts with
     | some r =>
      obtain ⟨A1,l1⟩:=A.is h2
      exact znR A A1 l1 (zfT (zNz _)) (zhO _ _ _)
     | none=>exact zkk A (by decide) (zfT (b:=[]) (zNz _)) (zhO _ _ _)
   have h1:=zOF h1
   rw [if_neg h1] at eR
   refine T.br (λhk=>?_) λh4=>?_
   ·have hk:=zOT hk
    rw [if_pos hk] at eR
    refine T.eq (zlt A _) (kk eR _ ?_)
    rw [hk]
    cases h2:pIs [78,85,76,76] ts with
    | some r =>
     obtain ⟨A1,l1⟩:=A.is h2
     exact znR A A1 l1 (zfT (zNz _)) (zhO _ _ _)
    | none=>exact zkk A (by decide) (zfT (b:=[]) (zNz _)) (zhO _ _ _)
   have h4:=zOF h4
   rw [if_neg h4] at eR
   refine T.br (λhk=>?_) λh2=>?_
   ·have hk:=zOT hk
    rw [if_pos hk] at eR
    refine T.eq (zvW A 3) ?_
    cases h3:pOf 3 ts with
    | some q =>
     obtain ⟨s,r⟩:=q
     obtain ⟨y,ym,y1,y2,A1,l1⟩:=zq1 A h3 (by decide)
     obtain ⟨z,hz⟩:=(hG y ym).num y1
     rw [y2] at hz
     rw [h3] at eR
     refine T.eq hz (kk eR _ ?_)
     rw [hk,<- zvv hz]
     exact znR A A1 l1 (zfT (zNz _)) (zhO _ _ _)
    | none =>
     rw [h3] at eR
     obtain ⟨z,hz⟩:=zuC
     refine T.eq hz (kk eR _ ?_)
     exact zkk A (by decide) (zfT (b:=[]) (zNz _)) (zhO _ _ _)
   have h2:=zOF h2
   rw [if_neg h2] at eR
   refine T.br (λhk=>?_) λh3=>?_
   ·have hk:=zOT hk
    rw [if_pos hk] at eR
    refine T.eq (zwa A x (by omega)) (kk eR _ ?_)
    rw [hk]
    cases h3:pItem x ts with
    | some q =>
     obtain ⟨m,r⟩:=q
     cases ts with
     | nil=>cases h3
     | cons y r' =>
      change (bif decide (y.kind=2) then (iidx y.text x.items).map (λj=>(j,r')) else none)=some (m,r) at h3
      cases hk2:decide (y.kind=2) with
      | false=>rw [hk2] at h3;cases h3
      | true =>
       rw [hk2,zCt] at h3
       obtain ⟨j',_,e2⟩:=Option.map_eq_some_iff.1 h3
       cases e2
       obtain ⟨A1,l1⟩:=A.next rfl (by have:=zOT hk2;omega)
       exact znR A A1 l1 (zfT (zNz _)) (zhO _ _ _)
    | none=>exact zkk A (by decide) (zfT (b:=[]) (zNz _)) (zhO _ _ _)
   have h3:=zOF h3
   rw [if_neg h3] at eR
   refine T.br (λhk=>?_) λh5=>?_
   ·have hk:=zOT hk
    rw [if_pos hk] at eR
    refine T.eq (zvW A 4) ?_
    cases h3:pOf 4 ts with
    | some q =>
     obtain ⟨s,r⟩:=q
     obtain ⟨y,ym,y1,y2,A1,l1⟩:=zq1 A h3 (by decide)
     obtain ⟨z,hz,hzl⟩:=(hG y ym).hex y1
     rw [y2] at hz
     rw [h3] at eR
     refine T.eq hz (kk eR _ ?_)
     rw [hk,<- zr8 hz]
     exact znR A A1 l1 (zfT (by rw [zr8 hz];exact hzl)) (zhO _ _ _)
    | none =>
     rw [h3] at eR
     refine T.eq zuT (kk eR _ ?_)
     exact zkk A (by decide) (zfT (b:=[]) (zNz _)) (zhO _ _ _)
   have h5:=zOF h5
   rw [if_neg h5] at eR
   refine T.br (λhk=>?_) λh6=>?_
   ·have hk:=zOT hk
    rw [if_pos hk] at eR
    refine T.eq (zvW A 7) ?_
    cases h3:pOf 7 ts with
    | some q =>
     obtain ⟨s,r⟩:=q
     obtain ⟨y,ym,y1,y2,A1,l1⟩:=zq1 A h3 (by decide)
     have hz:=(hG y ym).len
     rw [y2] at hz
     rw [h3] at eR
     refine T.abl (by dsimp only;omega) (kk eR _ ?_)
     rw [hk]
     exact znR A A1 l1 (zfT hz) (zhO _ _ _)
    | none =>
     rw [h3] at eR
     refine T.abl (zNz _) (kk eR _ ?_)
     exact zkk A (by decide) (zfT (b:=[]) (zNz _)) (zhO _ _ _)
   have h6:=zOF h6
   rw [if_neg h6] at eR
   refine T.br (λhk=>?_) λh10=>?_
   ·have hk:=zOT hk
    rw [if_pos hk] at eR
    obtain ⟨o0,o1⟩:=ht.ko x hxm hk
    refine T.cal (zu2 (n:=n + 1) (x:=x) (d:=d) (v0:=Val.mk x.kind 0 [] [] 0 []) (by omega) (ih (n + 1) x.of (d + 1) (by omega) (by omega) (by omega) o0 o1) A rfl) λy _ hy=>kk eR _ ?_
    generalize pLst (pv h t.types x.of) ts=Q at hy ⊢
    cases Q with
    | ok l rest =>
     obtain ⟨a',e1,A1,f1,g1,c1⟩:=hy
     subst e1
     simp only [Val.kind_mk,Val.n_mk,Val.b_mk,Val.rule_mk,Val.more_mk]
     rw [hk]
     exact ⟨a',rfl,A1,zee (zNz _) (by omega) f1,by rw [zg9];omega⟩
    | bad p e =>
     obtain ⟨e1,e2,e3,e4,l,e5,f1,g1,c1⟩:=hy
     refine ⟨e2,e3,e4,?_,?_⟩
     ·show Fine y.2.2
      rw [e5];exact zee (zNz _) (by omega) f1
     ·show cnt y.2.2 <= _
      rw [e5]
      have:=zg9 x.kind 0 [] l
      unfold leafV at this
      simp only [Val.kind_mk,Val.n_mk,Val.b_mk,Val.rule_mk,Val.more_mk]
      rw [this];omega
   have h10:=zOF h10
   rw [if_neg h10] at eR
   refine T.br (λhk=>?_) λh9=>?_
   ·have hk:=zOT hk
    rw [if_pos hk] at eR
    refine T.eq (zsk A x.fields (by omega) 0 (by omega)) ?_
    cases hp:pFld x.fields 0 ts with
    | none =>
     rw [hp] at eR
     refine T.jp0 (T.br (λh=>by cases h) λ_=>T.br (λh=>by cases h) λ_=>kk eR _ ?_)
     exact zkk A (by decide) (zfT (b:=[]) (zNz _)) (zhO _ _ _)
    | some q =>
     obtain ⟨j,r⟩:=q
     rw [hp] at eR
     have hp':=hp
     obtain ⟨y0,r0,ey,_,_,_⟩:=A.cons
     rw [ey] at hp'
     change (bif decide (y0.kind=2) then (fidx x.fields y0.text (x.fields.length - 0) 0).map (λj=>(j,r0)) else none)=some (j,r) at hp'
     cases hk2:decide (y0.kind=2) with
     | false=>rw [hk2] at hp';cases hp'
     | true =>
      rw [hk2,zCt] at hp'
      obtain ⟨j',hj,e2⟩:=Option.map_eq_some_iff.1 hp'
      cases e2
      obtain ⟨A1,l1⟩:=A.next ey (by have:=zOT hk2;omega)
      obtain ⟨_,y,hy,_⟩:=zrT hj
      have hjl:=(List.getElem?_eq_some_iff.1 hy).1
      have egy:getI x.fields (j:Int)=some y:=by rw [zcQ (by omega) (by omega)];exact congrArg some (List.getElem?_eq_some_iff.1 hy).2
      refine T.jp0 (T.br (λ_=>T.eq (zlt A1 [58]) ?_) λh=>by cases h)
      dsimp only at eR ⊢
      cases h58:pIs [58] r with
      | none =>
       rw [h58] at eR
       refine T.br (λh=>by cases h) λ_=>kk eR _ ?_
       exact zkk A (by decide) (zfT (b:=[]) (zNz _)) (zhO _ _ _)
      | some r2 =>
       obtain ⟨A2,l2⟩:=A1.is h58
       rw [h58] at eR
       dsimp only at eR
       rw [hy] at eR
       dsimp only at eR
       obtain ⟨y0',y1'⟩:=ht.kf x hxm y (List.mem_of_getElem? hy)
       refine T.br (λ_=>T.eq egy (T.ck (by omega) (T.cal (ih (n + 3) y.ty (d + 1) (by omega) (by omega) (by omega) y0' y1' _ _ A2) λz _ hz=>kk eR _ ?_))) λh=>by cases h
       rw [hk]
       cases hR:pv h t.types y.ty r2 with
       | ok w rest =>
        rw [hR] at hz
        obtain ⟨a2,e1,A3,f1,c1⟩:=hz
        subst e1
        refine ⟨a2,rfl,A3,zee (zNz _) (by simp) (λw' hw'=>by rw [zMo.1 hw'];exact f1),?_⟩
        rw [zg9,List.map_singleton,List.sum_singleton];omega
       | bad p e =>
        rw [hR] at hz
        obtain ⟨e1,e2,e3,e4,e5,e6⟩:=hz
        refine ⟨e2,e3,e4,zee (k:=9) (n:=(j:Int)) (zNz _) (by simp) (λw' hw'=>by rw [zMo.1 hw'];exact e5),?_⟩
        show cnt (leafV 9 (j:Int) [] [z.1]) <= _
        rw [zg9,List.map_singleton,List.sum_singleton];omega
   have h9:=zOF h9
   rw [if_neg h9] at eR
   refine T.jp (λb=>b=true) (λJ2 k2=>T.br (λh=>k2 _ h) λh=>k2 _ (zDT (by have:=zOF h;omega))) λb hb=>?_
   subst hb
   refine T.br (λ_=>?_) λh=>by cases h
   refine T.cal (zvV (n:=n) (x:=x) (d:=d) (v0:=Val.mk x.kind 0 [] [] 0 []) (f:=pv h t.types) (by omega) hfl (λy hy=>by
    obtain ⟨y0,y1⟩:=ht.kf x hxm y hy
    exact ih n y.ty (d + 1) (by omega) (by omega) (by omega) y0 y1) A) λy _ hy=>kk eR _ ?_
   generalize pSeq x.fields (pv h t.types) ts=Q at hy ⊢
   cases Q with
   | ok l rest =>
    obtain ⟨a',e1,A1,f1,g1,c1⟩:=hy
    subst e1
    exact ⟨a',rfl,A1,zee (zNz _) (by omega) f1,by rw [zg9];omega⟩
   | bad p e =>
    obtain ⟨e1,e2,e3,e4,l,e5,f1,g1,c1⟩:=hy
    refine ⟨e2,e3,e4,?_,?_⟩
    ·show Fine y.2.2
     rw [e5];exact zee (zNz _) (by omega) f1
    ·show cnt y.2.2 <= _
     rw [e5]
     have:=zg9 x.kind 0 [] l
     unfold leafV at this
     simp only [Val.kind_mk,Val.n_mk,Val.b_mk,Val.rule_mk,Val.more_mk]
     rw [this];omega
  ·refine T.and' (T.some ?_)
   cases R with
   | ok v rest =>
    obtain ⟨a',e1,A1,f1,c1⟩:=hq
    subst e1
    exact ⟨a',rfl,A1,f1,c1⟩
   | bad p e =>
    obtain ⟨e1,e2,e3,f1,c1⟩:=hq
    refine ⟨?_,e1,e2,e3,f1,c1⟩
    show (q.1 && decide (q.2.2.e=0))=false
    rw [e2,zDF e3,Bool.and_false]
end Go.Proofs.Q


namespace Go.Proofs.Q
open Go.Sy
set_option linter.unusedVariables false

/-! ### Octets as digits of 16 -/
def hexv (c:UInt8):Nat:=if c.toNat <= 57 then c.toNat - 48 else c.toNat - 55
def hexP:List UInt8->List UInt8
 | a :: b :: r=>UInt8.ofNat (hexv a * 16 + hexv b) :: hexP r
 | _=>[]
def hexL:List UInt8:=[48,49,50,51,52,53,54,55,56,57,65,66,67,68,69,70]
def hexChk (a b:UInt8):Bool:=match zdJ ⟨[a,b]⟩ 16 8 with
 | some r=>decide (r.1.toUInt8=UInt8.ofNat (hexv a * 16 + hexv b))
 | none=>false
theorem zva:(hexL.all λa=>hexL.all λb=>hexChk a b)=true:=by kernel_rfl
theorem zsO:∀ X:Fin 256,isHex (UInt8.ofNat X.val)=true->UInt8.ofNat X.val ∈ hexL:=by decide +kernel
theorem zr1 {c:UInt8} (h:isHex c=true):c ∈ hexL:=by
 have:=zsO ⟨c.toNat,c.toNat_lt⟩
 simp only [UInt8.ofNat_toNat] at this
 exact this h
theorem zwA {a b:UInt8} (ha:isHex a=true) (hb:isHex b=true):T (λr=>r.1.toUInt8=UInt8.ofNat (hexv a * 16 + hexv b)) (zdJ ⟨[a,b]⟩ 16 8):=by
 have h:=List.all_eq_true.1 (List.all_eq_true.1 zva a (zr1 ha)) b (zr1 hb)
 unfold hexChk at h
 cases hp:zdJ ⟨[a,b]⟩ 16 8 with
 | none=>rw [hp] at h;cases h
 | some r=>rw [hp] at h;exact ⟨r,rfl,zOT h⟩
theorem zqq:∀ l:List UInt8,(hexP l).length <= l.length
 | []=>zNl _
 | [_]=>zNz _
 | a :: b :: r=>by
  have:=zqq r
  show (hexP r).length + 1 <= r.length + 1 + 1
  omega
theorem zsn {l:List UInt8} (h:l.all isHex=true) (h2:l.length % 2=0) (hl:l.length <= 1000000):zdV ⟨l⟩=some (hexP l):=by
 refine T.eqs ?_
 unfold zdV
 refine T.lp (ι:=List UInt8 × Int) (λq=>0 <= q.2/\q.2 <= (l.length:Int)/\q.2.toNat % 2=0/\q.1.length <= q.2.toNat/\q.1 ++ hexP (l.drop q.2.toNat)=hexP l) (λq=>((l.length:Int) - q.2).toNat) ⟨zIl _,by dsimp only;omega,rfl,zNl _,rfl⟩ (by dsimp only;omega) λJ q ⟨q0,q1,q2,q3,q4⟩ hJ=>?_
 obtain ⟨acc,k⟩:=q
 dsimp only at q0 q1 q2 q3 q4 hJ ⊢
 refine T.ck (by omega) (T.br (λhb=>?_) λhb=>?_)
 ·have hb:=zOT hb
  refine T.ck (by omega) (T.asd (by omega) ?_)
  obtain ⟨a,ha⟩:∃ a,l[k.toNat]?=some a:=⟨_,List.getElem?_eq_getElem (by omega)⟩
  obtain ⟨b,hb'⟩:∃ b,l[k.toNat + 1]?=some b:=⟨_,List.getElem?_eq_getElem (by omega)⟩
  have hd:l.drop k.toNat=a :: b :: l.drop (k.toNat + 2):=by
   obtain ⟨h1,h2⟩:=List.getElem?_eq_some_iff.1 ha
   obtain ⟨h3,h4⟩:=List.getElem?_eq_some_iff.1 hb'
   rw [List.drop_eq_getElem_cons h1,h2,List.drop_eq_getElem_cons h3,h4]
  have e1:((l.take (k + 2).toNat).drop k.toNat)=[a,b]:=by
   rw [show (k + 2).toNat=k.toNat + 2 by omega,List.drop_take,hd,show k.toNat + 2 - k.toNat=2 by omega];rfl
  rw [e1]
  have ha':=List.all_eq_true.1 h a (List.mem_of_getElem? ha)
  have hb2:=List.all_eq_true.1 h b (List.mem_of_getElem? hb')
  refine T.cal (zwA ha' hb2) λr _ hr=>T.abl (by simp only [zLs];omega) (T.ck (by omega) (hJ _ ⟨by dsimp only;omega,by dsimp only;omega,by dsimp only;omega,?_,?_⟩ (by dsimp only;omega)))
  ·dsimp only
   rw [zLa,zLs];omega
  ·dsimp only
   rw [<- q4,hd,show (k + 2).toNat=k.toNat + 2 by omega,hr,zLA];rfl
 ·have hb:=zOF hb
  refine T.some ?_
  have e:l.drop k.toNat=[]:=zDn (by omega)
  rw [<- q4,e]
  exact (List.append_nil _).symm

/-! ### What is known of the signs of a text -/
theorem zoG (n:Nat):∀ (f:Nat) (b:List UInt8) (acc:List GTok),(toksF n f b acc).1.length <= acc.length + b.length + 1
 | 0,b,acc=>by simp [toksF]
 | f + 1,b,acc=>by
  rw [zgR]
  have hwl:=zfg b .out
  cases hwh:wh .out b with
  | nil=>simp
  | cons c r =>
   rw [hwh] at hwl
   simp only
   cases ho:oneS (c :: r) with
   | none=>simp
   | some p =>
    obtain ⟨k,t,r'⟩:=p
    simp only
    have ih:=zoG n f r' (acc ++ [⟨k,⟨t⟩,(n:Int) - ((c :: r).length:Int)⟩])
    have hol:=zjX ho
    simp only [zLa,zLs] at ih
    omega
theorem ztx (b:List UInt8):(toks b).1.length <= 8001:=by
 unfold toks
 by_cases h:8000 < b.length
 ·rw [zDT h];simp
 ·rw [zDF h,zCf]
  have:=zoG b.length (b.length + 1) b []
  simp only [zLn] at this
  omega
theorem zng:∀ (b:List UInt8) (f:Bool) (acc t r:List UInt8),qd f b acc=some (t,r)->t.length <= acc.length + b.length
 | [],f,acc,t,r,h=>by cases f <;> simp [qd] at h
 | c :: b,true,acc,t,r,h=>by
  simp only [qd] at h
  have:=zng b _ _ _ _ h
  rw [zLa,zLs] at this
  rw [zLc];omega
 | c :: b,false,acc,t,r,h=>by
  simp only [qd] at h
  by_cases h1:c=34
  ·simp only [zDT h1,zCt] at h
   by_cases h2:hd b=34
   ·simp only [zDT h2,zCt] at h
    have:=zng b _ _ _ _ h
    rw [zLc];omega
   ·simp only [zDF h2,zCf] at h
    cases hv:Lib.validD acc with
    | true=>rw [hv] at h;simp at h;rw [<- h.1];simp
    | false=>rw [hv] at h;cases h
  ·simp only [zDF h1,zCf] at h
   have:=zng b _ _ _ _ h
   rw [zLa,zLs] at this
   rw [zLc];omega
theorem zrG:∀ d:List UInt8,(d.take (hx d)).all isHex=true
 | []=>rfl
 | c :: r=>by
  rw [zpg]
  cases h:isHex c with
  | false=>rfl
  | true =>
   simp only [zCt,List.take_succ_cons,List.all_cons,h,zrG r];rfl
structure OneG (k:Int) (t:List UInt8) (n:Nat):Prop where
 k0:k ≠ 0
 len:t.length <= n
 hex:k=4->t.all isHex=true/\t.length % 2=0
theorem zrx {b t r:List UInt8} {k:Int} (h:oneS b=some (k,t,r)):OneG k t b.length:=by
 unfold oneS at h
 simp only at h
 cases h1:zaU (hd b) with
 | true =>
  rw [h1,zCt] at h
  cases h2:nmBad b with
  | true=>rw [h2] at h;cases h
  | false =>
   rw [h2,zCf] at h
   injection h with h;injection h with h3 h;injection h with h4 h5
   subst h3;subst h4
   refine ⟨?_,by rw [zLt];omega,?_⟩
   ·cases isWord (List.take (nm b) b) <;> cases decide (hd b <= 90) <;> decide
   ·cases isWord (List.take (nm b) b) <;> cases decide (hd b <= 90) <;> intro h <;> cases h
 | false =>
  rw [h1,zCf] at h
  cases h2:(isDigit (hd b) || (decide (hd b=45) && isDigit (hd (b.drop 1)))) with
  | true =>
   rw [h2,zCt] at h
   cases hn:numLen b with
   | none=>rw [hn] at h;cases h
   | some n =>
    rw [hn] at h
    injection h with h;injection h with h3 h;injection h with h4 h5
    subst h3;subst h4
    exact ⟨by decide,by rw [zLt];omega,λh=>by cases h⟩
  | false =>
   rw [h2,zCf] at h
   cases h3:decide (hd b=39) with
   | true =>
    rw [h3,zCt] at h
    cases h4:hexBad (b.drop 1) with
    | true=>rw [h4] at h;cases h
    | false =>
     rw [h4,zCf] at h
     injection h with h;injection h with h5 h;injection h with h6 h7
     subst h5;subst h6
     refine ⟨by decide,by rw [zLt,zLd];omega,λ_=>⟨zrG _,?_⟩⟩
     unfold hexBad at h4
     rw [Bool.or_eq_false_iff,Bool.or_eq_false_iff] at h4
     have h8:hx (b.drop 1) % 2=0:=by simpa using h4.1.1
     have:=zvL (b.drop 1)
     rw [zLt];omega
   | false =>
    rw [h3,zCf] at h
    cases h4:decide (hd b=34) with
    | true =>
     rw [h4,zCt] at h
     cases hq:qd false (b.drop 1) [] with
     | none=>rw [hq] at h;cases h
     | some q =>
      obtain ⟨t',r'⟩:=q
      rw [hq] at h
      injection h with h;injection h with h5 h;injection h with h6 h7
      subst h5;subst h6
      have:=zng _ _ _ _ _ hq
      simp only [zLn,zLd] at this
      exact ⟨by decide,by omega,λh=>by cases h⟩
    | false =>
     rw [h4,zCf] at h
     cases h5:decide (0 < sg b) with
     | false=>rw [h5] at h;cases h
     | true =>
      rw [h5,zCt] at h
      injection h with h;injection h with h6 h;injection h with h7 h8
      subst h6;subst h7
      exact ⟨by decide,by rw [zLt];omega,λh=>by cases h⟩
inductive Src:List GTok->Prop
 | fin {a:Int}:Src [⟨0,⟨[]⟩,a⟩]
 | cons {t:GTok} {l:List GTok}:OneG t.kind t.text.b 8000->Src l->Src (t :: l)
theorem zo5 (n:Nat):∀ (f:Nat) (b:List UInt8) (acc:List GTok),b.length < f->b.length <= 8000->(∃ l,toksF n f b acc=(acc ++ l,0,0)/\Src l) \/ (toksF n f b acc).2.2 ≠ 0
 | 0,b,acc,h,_=>by omega
 | f + 1,b,acc,h,h8=>by
  rw [zgR]
  have hwl:=zfg b .out
  cases hwh:wh .out b with
  | nil=>exact .inl ⟨_,rfl,.fin⟩
  | cons c r =>
   rw [hwh] at hwl
   simp only
   cases ho:oneS (c :: r) with
   | none=>exact .inr (by simp)
   | some q =>
    obtain ⟨k,t,r'⟩:=q
    simp only
    have hol:=zjX ho
    have hf:=zrx ho
    rcases zo5 n f r' (acc ++ [⟨k,⟨t⟩,(n:Int) - ((c :: r).length:Int)⟩]) (by omega) (by omega) with ⟨l,e,g⟩ | e
    ·exact .inl ⟨_ :: l,by rw [e,zLA];rfl,.cons ⟨hf.k0,Nat.le_trans hf.len (by omega),hf.hex⟩ g⟩
    ·exact .inr e
theorem zus (b:List UInt8) (h:(toks b).2.2=0):Src (toks b).1:=by
 unfold toks at h ⊢
 by_cases hl:8000 < b.length
 ·rw [zDT hl] at h;simp at h
 ·rw [zDF hl,zCf] at h ⊢
  rcases zo5 b.length (b.length + 1) b [] (by omega) (by omega) with ⟨l,e,g⟩ | e
  ·rw [e];simpa using g
  ·exact absurd h e
theorem Src.ends {l:List GTok} (h:Src l):∃ k t,l=k ++ [t]/\t.kind=0:=by
 induction h with
 | fin=>exact ⟨[],_,rfl,rfl⟩
 | @cons t l _ _ ih=>obtain ⟨k,u,e,h⟩:=ih;exact ⟨t :: k,u,by rw [e];rfl,h⟩
theorem zvp (s:Str) (h:s.b.length <= 9000):∃ r,zbj s 10 64=some r:=by
 unfold zbj
 rw [show (decide ((10:Int)=10) && decide ((64:Int)=64) && Nat.ble s.b.length 281474976710656)=true by rw [Nat.ble_eq_true_of_le (by omega)];rfl,zCt]
 cases Lib.parseIntB 64 s.b <;> exact ⟨_,rfl⟩
theorem zt5 {t:GTok} (h:OneG t.kind t.text.b 8000):TokG t:=by
 have hl:=h.len
 have hx:=zqq t.text.b
 exact ⟨by omega,λ_=>zvp _ (by omega),λh4=>⟨hexP t.text.b,zsn (l:=t.text.b) (h.hex h4).1 (h.hex h4).2 (by omega),by omega⟩⟩
theorem Src.good {l:List GTok} (h:Src l):∀ y ∈ l,TokG y:=by
 induction h with
 | fin=>intro y hy;rw [zMo.1 hy];exact ⟨zNz _,(λh=>by cases h),λh=>by cases h⟩
 | cons h1 _ ih =>
  intro y hy
  rcases List.mem_cons.1 hy with e | e
  ·rw [e];exact zt5 h1
  ·exact ih y e
theorem Src.sd {l:List GTok} (h:Src l) (hl:l.length <= 8001):Sd l 0 l:=⟨zIl _,by omega,rfl,h.ends⟩
noncomputable def pNote (l:List GTyp) (i:Int) (b:List UInt8):PR Val :=
 if (toks b).2.2 ≠ 0 then .bad (toks b).2.1 (toks b).2.2
 else match pv 17 l i (toks b).1 with
  | .bad p e=>.bad p e
  | .ok v r=>match r with
   | []=>.bad 0 7
   | t :: r'=>if t.kind=0 then .ok v [] else .bad t.at_ 7
theorem zuE {t:GTab} (ht:TOk t.types) {i:Int} (i0:0 <= i) (i1:i < t.types.length) (s:Str) {R:Val × Int × Int->Prop}
    (hb:∀ p e,pNote t.types i s.b=.bad p e->e ≠ 0->R (zeroV,p,e))
    (hk:∀ v r,pNote t.types i s.b=.ok v r->Fine v->cnt v <= 10000000->T (λy=>if y=true then R (v,0,0) else R (zeroV,0,13)) (zeR t i v)):T R (zgM t i s):=by
  unfold zgM
  refine T.eq (ctokens s) (T.br (λh=>?_) λh=>?_)
  · have h:¬ (toks s.b).2.2=0:=by simpa using h
    exact T.some (hb _ _ (by unfold pNote;rw [if_pos h]) h)
  have h:(toks s.b).2.2=0:=by simpa using h
  have hs:=zus s.b h
  have hl:=ztx s.b
  have hA:=hs.sd hl
  unfold pNote at hb hk
  rw [if_neg (show ¬ (toks s.b).2.2 ≠ 0 from λk=>k h)] at hb hk
  refine T.or' (T.br (λh=>?_) λ_=>?_)
  · rw [Bool.or_eq_true] at h
    rcases h with h | h
    · exact absurd (zOT h) (by omega)
    · exact absurd (zOT h) (by omega)
  refine T.cal (pvP ht (p0:=0) hs.good 17 fuel i 0 (zIl _) (by decide) (by unfold fuel;decide) i0 i1 0 _ hA) λy _ hy=>?_
  cases hR:pv 17 t.types i (toks s.b).1 with
  | bad p e =>
    rw [hR] at hy hb
    obtain ⟨y1,y2,y3,y4,_⟩:=hy
    refine T.jp (λq=>q=(false,y.2.2)) (λJ k=>T.br (λh=>by rw [y1] at h;cases h) λ_=>k _ rfl) λq hq=>?_
    subst hq
    refine T.jp (λq=>q=(false,y.2.2)) (λJ k=>T.br (λh=>by cases h) λ_=>k _ (by rw [y1])) λq hq=>?_
    subst hq
    refine T.br (λ_=>T.some ?_) λh=>by cases h
    dsimp only
    rw [y2,y3]
    exact hb _ _ rfl y4
  | ok v r =>
    rw [hR] at hy hb hk
    obtain ⟨a',e1,A1,f1,c1⟩:=hy
    subst e1
    obtain ⟨z,r',er,e2,_,_⟩:=A1.cons
    obtain ⟨z',r'',er',e4⟩:=znI (t:=t) (p:=0) A1
    rw [er] at er';cases er'
    subst er
    dsimp only at hb hk
    have hc:cnt v <= 10000000:=by omega
    refine T.jp (λq=>q=(!decide (z.kind=0),st (toks s.b).1 t 0 a')) (λJ k=>T.br (λ_=>T.eq e4 (k _ rfl)) λh=>by cases h) λq hq=>?_
    subst hq
    by_cases hz:z.kind=0
    · rw [if_pos hz] at hb hk
      rw [zDT hz]
      refine T.jp (λq=>q=(true,st (toks s.b).1 t 0 a')) (λJ k=>T.br (λh=>by cases h) λ_=>k _ rfl) λq hq=>?_
      subst hq
      refine T.br (λh=>by cases h) λ_=>T.cal (hk _ _ rfl f1 hc) λb _ hb'=>T.br (λh=>T.some ?_) λh=>T.some ?_
      · have:b=false:=by simpa using h
        subst this
        rw [if_neg (by decide)] at hb'
        exact hb'
      · have:b=true:=by simpa using h
        subst this
        rw [if_pos rfl] at hb'
        exact hb'
    · rw [if_neg hz] at hb hk
      rw [zDF hz]
      refine T.jp (λq=>q.1=false/\q.2.at_=z.at_/\q.2.e=7) (λJ k=>T.br (λ_=>T.eq (zlk A1 7) (k _ ⟨rfl,rfl,rfl⟩)) λh=>by cases h) λq hq=>?_
      obtain ⟨q1,q2,q3⟩:=hq
      refine T.br (λ_=>T.some ?_) λh=>by rw [q1] at h;cases h
      rw [q2,q3]
      exact hb _ _ rfl (by decide)
end Go.Proofs.Q


namespace Go.Proofs.Q
open Go.Sy
set_option linter.unusedVariables false

abbrev KS:=List (Int × List UInt8)
def stp (x:List UInt8):Prop:=hd x=0/\x=[] \/ hd x=32 \/ hd x=44
structure Stp (x:List UInt8):Prop where
 sN:stopN x=true
 dg:isDigit (hd x)=false
 lt:zaU (hd x)=false
 q:hd x ≠ 34
theorem zqY {x:List UInt8} (h:stp x):Stp x:=by
 rcases h with ⟨_,h⟩ | h | h
 ·subst h;exact ⟨rfl,rfl,rfl,(by decide:(0:UInt8) ≠ 34)⟩
 ·cases x with
  | nil=>cases h
  | cons c r =>
   have h:c=32:=h
   subst h;exact ⟨rfl,rfl,rfl,(by decide:(32:UInt8) ≠ 34)⟩
 ·cases x with
  | nil=>cases h
  | cons c r =>
   have h:c=44:=h
   subst h;exact ⟨rfl,rfl,rfl,(by decide:(44:UInt8) ≠ 34)⟩
def Lx (p:List UInt8) (q:KS):Prop:=∀ x ks,stp x->KT x ks->KT (p ++ x) (q ++ ks)
/-! ### Names -/
def nmOk (s:List UInt8):Bool:=zaU (hd s) && nmAll s 0 && !decide (s.getLast?=some 45) && decide (s.length <= 60) && decide (kindN s=2)
theorem zrw {c:UInt8} {r s:List UInt8} (h:c ≠ 45):inName c r=inName c s:=by
 unfold inName
 rw [zDF h];rfl
theorem zmw:∀ {w:List UInt8} {d e:UInt8},w.getLast? ≠ some 45->nmAll w d=nmAll w e
 | [],_,_,_=>rfl
 | [c],d,e,h=>by
  have hc:c ≠ 45:=λh2=>h (by rw [h2];rfl)
  show (inName c [d] && true)=(inName c [e] && true)
  rw [zrw hc]
 | c :: a :: w,d,e,h=>by
  have ih:=zmw (w:=a :: w) (d:=d) (e:=e) (by rw [List.getLast?_cons_cons] at h;exact h)
  show (inName c ((a :: w) ++ [d]) && nmAll (a :: w) d)=(inName c ((a :: w) ++ [e]) && nmAll (a :: w) e)
  rw [ih,zo7 (show hd ((a :: w) ++ [d])=hd ((a :: w) ++ [e]) from rfl)]
theorem zuU {s x:List UInt8} {ks:KS} (h:nmOk s=true) (hx:Stp x) (hk:KT x ks):KT (s ++ x) ((2,s) :: ks):=by
 unfold nmOk at h
 simp only [zBa] at h
 obtain ⟨⟨⟨⟨h1,h2⟩,h3⟩,h4⟩,h5⟩:=h
 have h3:s.getLast? ≠ some 45:=by simpa using h3
 have:=KT.name h1 (by rw [zmw h3,h2]) hx.sN h3 (zOT h4) hk
 rwa [zOT h5] at this
theorem zuQ {w:List UInt8} (h1:zaU (hd w)=true) (h2:nmAll w 0=true) (h3:w.getLast? ≠ some 45) (h4:w.length <= 60) (h5:kindN w=5):Lx w [(5,w)]:=λx ks hx hk=>by
 have:=KT.name h1 (by rw [zmw h3,h2]) (zqY hx).sN h3 h4 hk
 rwa [h5] at this
theorem zvG {x:List UInt8}:stp (32 :: x):=.inr (.inl rfl)
theorem zwl {x:List UInt8}:stp (44 :: x):=.inr (.inr rfl)
/-! ### Numbers -/
theorem zuq {u:Nat} (h:u < 10):isDigit (UInt8.ofNat (48 + u))=true/\(UInt8.ofNat (48 + u)).toNat - 48=u:=by
 have:∀ u:Fin 10,isDigit (UInt8.ofNat (48 + u.val))=true/\(UInt8.ofNat (48 + u.val)).toNat - 48=u.val:=by decide
 exact this ⟨u,h⟩
theorem znu (u:Nat):digs (Lib.decDigits u)/\dval (Lib.decDigits u)=u:=by
 induction u using Nat.strongRecOn with
 | _ u ih =>
  by_cases h:u < 10
  ·rw [Lib.decDigits_one h]
   obtain ⟨h1,h2⟩:=zuq h
   refine ⟨λd hd=>by rw [zMo.1 hd];exact h1,?_⟩
   have:=zi0 [] (UInt8.ofNat (48 + u))
   rw [List.nil_append] at this
   rw [this,h2];simp [dval]
  ·rw [Lib.decDigits,dif_neg h]
   obtain ⟨h1,h2⟩:=zuq (Nat.mod_lt u (show 0 < 10 by decide))
   obtain ⟨h3,h4⟩:=ih (u / 10) (by omega)
   refine ⟨λd hd=>?_,?_⟩
   ·rcases List.mem_append.1 hd with h5 | h5
    ·exact h3 d h5
    ·rw [zMo.1 h5];exact h1
   ·rw [zi0,h4,h2];omega
theorem znw (u:Nat):Lib.decDigits u ≠ []:=by
 by_cases h:u < 10
 ·rw [Lib.decDigits_one h];simp
 ·rw [Lib.decDigits,dif_neg h];simp
theorem ztz (u:Nat) (h0:u ≠ 0):hd (Lib.decDigits u) ≠ 48:=by
 induction u using Nat.strongRecOn with
 | _ u ih =>
  by_cases h:u < 10
  ·rw [Lib.decDigits_one h]
   have:∀ u:Fin 10,u.val ≠ 0->UInt8.ofNat (48 + u.val) ≠ 48:=by decide
   exact this ⟨u,h⟩ h0
  ·rw [Lib.decDigits,dif_neg h,zjm (znw _)]
   exact ih (u / 10) (by omega) (by omega)
theorem zur {m:Bool} {u:Nat} (h:u <= if m then 9223372036854775808 else 9223372036854775807) (hm:m=true->u ≠ 0):numOk m (Lib.decDigits u)=true:=by
 obtain ⟨h1,h2⟩:=znu u
 have hlen:(Lib.decDigits u).length <= 19:=zkv 18 u (by
  have:(10:Nat) ^ (18 + 1)=10000000000000000000:=by decide
  rw [this];revert h;cases m <;> simp <;> omega)
 have hne:1 <= (Lib.decDigits u).length:=List.length_pos_iff.2 (znw u)
 have hu:=zmC _ h1 hlen
 unfold numOk
 have e1:digs2 (Lib.decDigits u)=true:=List.all_eq_true.2 h1
 rw [e1,zDT hne,zDT hlen,hu,h2,zDT h]
 have e2:(decide ((Lib.decDigits u).length <= 1) || !decide (hd (Lib.decDigits u)=48))=true:=by
  by_cases h0:u=0
  ·subst h0;rw [Lib.decDigits_one (by decide)];rfl
  ·rw [zDF (ztz u h0)];simp
 have e3:(!m || !decide (hd (Lib.decDigits u)=48))=true:=by
  cases m with
  | false=>rfl
  | true=>rw [zDF (ztz u (hm rfl))];rfl
 rw [e2,e3];rfl
theorem zu5 {n:Int} (h0:-9223372036854775808 <= n) (h1:n <= 9223372036854775807):Lx (Lib.itoa n) [(3,Lib.itoa n)]:=λx ks hx hk=>by
 have hs:=zqY hx
 unfold Lib.itoa
 split
 ·rename_i hn
  exact KT.neg (zur (by rw [if_pos rfl];omega) λ_=>by omega) hs.dg hs.lt hk
 ·rename_i hn
  exact KT.num (zur (by rw [if_neg (by decide)];omega) (λh=>by cases h)) hs.dg hs.lt hk
theorem zsW {n:Int} (h0:-9223372036854775808 <= n) (h1:n <= 9223372036854775807):numV ⟨Lib.itoa n⟩=n:=by
 have hl:=zjZ h0 h1
 have key:Lib.parseIntB 64 (Lib.itoa n)=.ok n:=by
  unfold Lib.itoa at hl ⊢
  split
  ·rename_i hn
   obtain ⟨d1,d2⟩:=znu n.natAbs
   have hu:=parseU _ d1 (znw _)
   rw [d2,if_pos (by omega)] at hu
   unfold Lib.parseIntB
   simp only [show (45:UInt8).toNat=45 from rfl,or_true,if_true,hu,not_true,false_and,if_false,true_and,if_neg (show ¬ 2 ^ (64 - 1) < n.natAbs by omega)]
   exact congrArg _ (by omega)
  ·rename_i hn
   obtain ⟨d1,d2⟩:=znu n.toNat
   have hu:=parseU _ d1 (znw _)
   rw [d2,if_pos (by omega)] at hu
   obtain ⟨c,r,e⟩:=List.exists_cons_of_ne_nil (znw n.toNat)
   rw [e] at hu d1 ⊢
   have hr:=zeH (d1 c (zMs ..))
   have n45:¬ c.toNat=45:=by omega
   have n43:¬ c.toNat=43:=by omega
   unfold Lib.parseIntB
   simp only [n43,n45,or_self,if_false,hu,not_false_eq_true,true_and,false_and,if_false,if_neg (show ¬ 2 ^ (64 - 1) <= n.toNat by omega)]
   exact congrArg _ (by omega)
 unfold numV zbj
 rw [show (decide ((10:Int)=10) && decide ((64:Int)=64) && Nat.ble (Str.mk (Lib.itoa n)).b.length 281474976710656)=true by rw [Nat.ble_eq_true_of_le (by dsimp only;omega)];rfl,zCt]
 dsimp only
 rw [key]
/-! ### Values within braces -/
def cm:List KS->KS
 | []=>[]
 | [p]=>p
 | p :: q :: r=>p ++ (6,[44]) :: cm (q :: r)
def brcT (qs:List KS):KS:=(6,[123]) :: (cm qs ++ [(6,[125])])
inductive LxA:List (List UInt8)->List KS->Prop
 | nil:LxA [] []
 | cons {p q ps qs}:Lx p q->LxA ps qs->LxA (p :: ps) (q :: qs)
theorem zsg {x:List UInt8} {ks:KS} (hk:KT x ks):KT (123 :: x) ((6,[123]) :: ks):=KT.sign (s:=[123]) (by decide) (by simp [sgN]) hk
theorem zrP {x:List UInt8} {ks:KS} (hk:KT x ks):KT (125 :: x) ((6,[125]) :: ks):=KT.sign (s:=[125]) (by decide) (by simp [sgN]) hk
theorem comma {x:List UInt8} {ks:KS} (hk:KT x ks):KT (44 :: x) ((6,[44]) :: ks):=KT.sign (s:=[44]) (by decide) (by simp [sgN]) hk
theorem zue {ps:List (List UInt8)} {qs:List KS} (h:LxA ps qs) {x:List UInt8} {ks:KS} (hx:KT (32 :: x) ks):KT (joinC ps ++ 32 :: x) (cm qs ++ ks):=by
 induction h with
 | nil=>exact hx
 | @cons p q ps qs hp hr ih =>
  cases hr with
  | nil=>exact hp _ _ zvG hx
  | @cons p2 q2 ps qs hp2 hr2 =>
   show KT ((p ++ 44 :: 32 :: joinC (p2 :: ps)) ++ 32 :: x) ((q ++ (6,[44]) :: cm (q2 :: qs)) ++ ks)
   rw [zLA,zLA]
   exact hp _ _ zwl (comma (KT.sp ih))
theorem zvT {ps:List (List UInt8)} {qs:List KS} (h:LxA ps qs):Lx (brc ps) (brcT qs):=λx ks hx hk=>by
 unfold brc brcT
 cases h with
 | nil=>exact zsg (zrP hk)
 | @cons p q ps qs hp hr =>
  rw [if_neg (by simp)]
  have:=zue (.cons hp hr) (x:=125 :: x) (KT.sp (zrP hk))
  show KT (123 :: 32 :: ((joinC (p :: ps) ++ [32,125]) ++ x)) ((6,[123]) :: ((cm (q :: qs) ++ [(6,[125])]) ++ ks))
  rw [zLA,zLA]
  exact zsg (KT.sp this)
structure NmW (l:List GTyp):Prop where
 fn:∀ x ∈ l,∀ f ∈ x.fields,nmOk f.name.b=true
 inm:∀ x ∈ l,∀ it ∈ x.items,nmOk it.name.b=true
 fd:∀ x ∈ l,(x.fields.map λf=>f.name).Nodup
 id:∀ x ∈ l,(x.items.map λit=>it.name).Nodup
theorem zt4:kindN [70,65,76,83,69]=5/\kindN [84,82,85,69]=5/\kindN [78,85,76,76]=5:=by decide +kernel
theorem zsj {s p:List UInt8} {q:KS} (hs:nmOk s=true) (h:Lx p q):Lx (s ++ 32 :: p) ((2,s) :: q):=λx ks hx hk=>by
 have:=zuU hs (zqY zvG) (KT.sp (h x ks hx hk))
 simpa using this
end Go.Proofs.Q


namespace Go.Proofs.Q
open Go.Sy
set_option linter.unusedVariables false

theorem zkO {ts:List GTok} {k:Int} {s:List UInt8} {ks:KS} (h:ts.map kt=(k,s) :: ks):∃ t r,ts=t :: r/\t.kind=k/\t.text=⟨s⟩/\r.map kt=ks:=by
 cases ts with
 | nil=>cases h
 | cons t r =>
  rw [List.map_cons] at h
  injection h with h1 h2
  obtain ⟨kd,tx,a⟩:=t
  obtain ⟨b⟩:=tx
  unfold kt at h1
  injection h1 with h3 h4
  exact ⟨_,r,rfl,h3,by rw [show b=s from h4],h2⟩
theorem zud {t:GTok} {k:Int} {s u:List UInt8} (h1:t.kind=k) (h2:t.text=⟨s⟩):isW t u=((decide (k=5) || decide (k=6)) && decide (s=u)):=by
 unfold isW
 rw [h1,h2]
 have:decide (Str.mk s=Str.mk u)=decide (s=u):=decide_eq_decide.2 ⟨λh=>by injection h,λh=>by rw [h]⟩
 rw [this]
theorem zn9 {ts:List GTok} {k:Int} {s:List UInt8} {ks:KS} (h:ts.map kt=(k,s) :: ks) (hk:k=5 \/ k=6):∃ r,pIs s ts=some r/\r.map kt=ks:=by
 obtain ⟨t,r,e,h1,h2,h3⟩:=zkO h
 subst e
 refine ⟨r,?_,h3⟩
 show (bif isW t s then some r else none)=_
 rw [zud h1 h2,zDT rfl]
 rcases hk with h | h <;> rw [h] <;> rfl
theorem zq9 {ts:List GTok} {k:Int} {s u:List UInt8} {ks:KS} (h:ts.map kt=(k,s) :: ks) (hk:((decide (k=5) || decide (k=6)) && decide (s=u))=false):pIs u ts=none:=by
 obtain ⟨t,r,e,h1,h2,h3⟩:=zkO h
 subst e
 show (bif isW t u then some r else none)=_
 rw [zud h1 h2,hk];rfl
theorem zv5 {ts:List GTok} {k:Int} {s:List UInt8} {ks:KS} (h:ts.map kt=(k,s) :: ks):∃ r,pOf k ts=some (⟨s⟩,r)/\r.map kt=ks:=by
 obtain ⟨t,r,e,h1,h2,h3⟩:=zkO h
 subst e
 refine ⟨r,?_,h3⟩
 show (bif decide (t.kind=k) then some (t.text,r) else none)=_
 rw [zDT h1,h2];rfl
/-! ### Names -/
theorem zt8 {fs:List GFld} (hd:(fs.map λf=>f.name).Nodup) {j:Nat} {f:GFld} (hj:fs[j]?=some f):∀ (n s:Nat),s <= j->j < s + n->fidx fs f.name n s=some j:=by
 intro n
 induction n with
 | zero=>intro s h1 h2;omega
 | succ n ih =>
  intro s h1 h2
  obtain ⟨hlt,_⟩:=List.getElem?_eq_some_iff.1 hj
  obtain ⟨g,hg⟩:∃ g,fs[s]?=some g:=⟨_,List.getElem?_eq_getElem (by omega)⟩
  show (match fs[s]? with | some f'=>(bif decide (f'.name=f.name) then some s else fidx fs f.name n (s + 1)) | none=>none)=_
  rw [hg]
  dsimp only
  by_cases he:s=j
  ·subst he
   rw [hj] at hg;cases hg
   rw [zDT rfl];rfl
  ·have hne:g.name ≠ f.name:=λe=>he (by
    have h3:(fs.map λf=>f.name)[s]?=some g.name:=by rw [List.getElem?_map,hg];rfl
    have h4:(fs.map λf=>f.name)[j]?=some f.name:=by rw [List.getElem?_map,hj];rfl
    exact (List.getElem?_inj (by rw [List.length_map];omega) hd).1 (by rw [h3,h4,e]))
   rw [zDF hne,zCf]
   exact ih (s + 1) (by omega) (by omega)
theorem zrH {fs:List GFld} (hd:(fs.map λf=>f.name).Nodup) {j s:Nat} {f:GFld} (hj:fs[j]?=some f) (hs:s <= j) {ts:List GTok} {ks:KS} (h:ts.map kt=(2,f.name.b) :: ks):∃ r,pFld fs s ts=some (j,r)/\r.map kt=ks:=by
 obtain ⟨t,r,e,h1,h2,h3⟩:=zkO h
 subst e
 obtain ⟨hlt,_⟩:=List.getElem?_eq_some_iff.1 hj
 refine ⟨r,?_,h3⟩
 show (bif decide (t.kind=2) then (fidx fs t.text (fs.length - s) s).map λj=>(j,r) else none)=_
 rw [zDT h1,h2,show (Str.mk f.name.b)=f.name from rfl,zt8 hd hj _ s hs (by omega)];rfl
theorem zeros {ws:List Val} (h:∀ w ∈ ws,w=zeroV):ws=List.replicate ws.length zeroV:=List.eq_replicate_iff.2 ⟨rfl,h⟩
end Go.Proofs.Q


namespace Go.Proofs.Q
open Go.Sy
set_option linter.unusedVariables false

theorem ztL:∀ {k n:Nat} {v:Val},cnt v <= k->4 * k <= n->Fine v->zfl n v=some (bare v):=by
 intro k
 induction k with
 | zero=>intro n v h;have:=zfz v;omega
 | succ k ih =>
  intro n v hk hn hf
  obtain ⟨n,rfl⟩:∃ n',n=n' + 4:=⟨n - 4,by omega⟩
  have hfl:=hf.l
  have hc:zaH (n + 3) v.l=some (!(v.l.map bare).all id):=by
   refine T.eqs ?_
   show T _ (zaT (zfO (n + 2)) (zfl (n + 2)) (zaH (n + 2)) (zba (n + 2)) v.l)
   unfold zaT
   refine T.cal (Q:=λ(r:Int)=>decide (0 <= r)=!(v.l.map bare).all id) ?_ λy _ hy=>T.some hy
   show T _ (za4 (zfO (n + 1)) (zfl (n + 1)) (zaH (n + 1)) (zba (n + 1)) v.l)
   unfold za4
   refine T.lp (ι:=Int) (λq=>0 <= q/\q <= (v.l.length:Int)/\((v.l.take q.toNat).map bare).all id=true) (λq=>((v.l.length:Int) - q).toNat) ⟨zIl _,by omega,rfl⟩ (by omega) λL q ⟨q1,q2,q3⟩ hL=>T.br (λhb=>?_) λhb=>T.some ?_
   ·have hb:=zOT hb
    refine T.get q1 hb λy hy=>?_
    have hm:=List.mem_of_getElem? hy
    have hk:=zeq hm
    refine T.eq (y:=!bare y) ?_ (T.br (λh2=>T.some ?_) λh2=>T.ck (by omega) (hL _ ⟨by omega,by omega,?_⟩ (by omega)))
    ·refine T.eqs ?_
     show T _ (zeX (zfO n) (zfl n) (zaH n) (zba n) y)
     unfold zeX
     exact T.eq (ih (by omega) (by omega) (hf.kid y hm)) (T.some rfl)
    ·have h2:bare y=false:=by simpa using h2
     have:(v.l.map bare).all id=false:=by
      rw [List.all_eq_false]
      exact ⟨bare y,List.mem_map.2 ⟨y,hm,rfl⟩,by rw [h2];decide⟩
     rw [this,zDT q1];rfl
    ·have h2:bare y=true:=by simpa using h2
     have e:(q + 1).toNat=q.toNat + 1:=by omega
     rw [e,List.take_add_one,hy,List.map_append,List.all_append,q3]
     show (true && (bare y && true))=true
     rw [h2];rfl
   ·have hb:=zOF hb
    rw [zTl (by omega)] at q3
    rw [q3];rfl
  refine T.eqs ?_
  show T _ (zgt (zfO (n + 3)) (zfl (n + 3)) (zaH (n + 3)) (zba (n + 3)) v)
  unfold zgt
  rw [zkI]
  have e0:(!(decide (v.kind=12) || decide (0 < v.more.length)))=(!decide (v.kind=12) && decide ((v.more.length:Int)=0)):=by
   rw [Bool.not_or]
   congr 1
   cases h:decide (0 < v.more.length) with
   | true=>have:=zOT h;rw [zDF (by omega)];rfl
   | false=>have:=zOF h;rw [zDT (by omega)];rfl
  rw [e0]
  refine T.andJ (d:=decide ((v.more.length:Int)=0)) (λJ kk=>kk) ?_
  refine T.andJ (d:=(v.l.map bare).all id) (λJ kk=>T.eq hc ?_) (T.some rfl)
  rw [Bool.not_not]
  exact kk
theorem ztf {t:GTab} (ht:TabOk t) {i:Int} {v:Val} (hF:Fit t 17 i v) (hb:bare v=true) (hf:Fine v) (hc:cnt v <= 5000):zeR t i v=some true:=by
 refine T.eqs ?_
 unfold zeR
 have hs:=zoQ hF hb
 have h:=zqd ht (b:=false) (h:=17) (n:=fuel) (i:=i) (v:=v) (d:=1) (by decide) (by decide) (by unfold fuel;decide) hf (by omega) hF (by rw [hs];exact hb)
 rw [hs] at h
 exact T.eq h (T.jp (λb=>b=true) (λJ kk=>T.br (λ_=>T.eq (zoB (by unfold fuel;omega) (by omega) hf) (kk _ (zDT (by omega)))) λh=>by cases h) λb hb=>T.some hb)
def pTxt (l:List GTyp) (i:Int) (v:Val):Str × Int:=if 8000 < (txt 17 l i v).length then (⟨[]⟩,5) else (⟨txt 17 l i v⟩,0)
theorem zuw {t:GTab} (ht:TabOk t) (hB:NmB t.types) {i:Int} {v:Val} (hF:Fit t 17 i v) (hb:bare v=true) (hI:I64V v) (hf:Fine v) (hc:cnt v <= 5000):zh4 t i v=some (pTxt t.types i v):=by
 refine T.eqs ?_
 unfold zh4
 have h:=prP hB (h:=17) (n:=fuel) (b:=[]) (by unfold fuel;decide) hF hb hI hf (by omega) (by simp only [zLn];omega)
 refine T.eq (ztf ht hF hb hf hc) (T.br (λh=>by cases h) λ_=>T.eq (ztL (k:=5000) (by omega) (by unfold fuel;decide) hf) ?_)
 rw [hb]
 refine T.br (λh=>by cases h) λ_=>T.eq h (T.br (λhl=>T.some ?_) λhl=>T.some ?_)
 ·have hl:=zOT hl
  unfold pTxt
  rw [if_pos (by have h9:(8000:Int) < ((txt 17 t.types i v).length:Nat):=(by simpa using hl);omega)]
 ·have hl:=zOF hl
  unfold pTxt
  rw [if_neg (by have h9:((txt 17 t.types i v).length:Int) <= 8000:=(by simpa using hl);omega)];rfl
end Go.Proofs.Q


namespace Go.Proofs.Q
open Go.Sy
set_option maxRecDepth 4000
def tokF (s:Str):Option (List GTok × Int × Int):=some (toks s.b)
theorem zvc:zg0=tokF:=funext zsK
def zlm (zaV:Str):Option (GMod × Int × Int) :=
 cal (tokF zaV) λy2=>br (!decide (y2.2.2=(0:Int))) (some ((GMod.mk (Str.mk []) (0:Int) ([]:(List Str)) ([]:(List Int)) ([]:(List GNode))),y2.2.1,y2.2.2)) (cal (zb6 (GPar.mk y2.1 (0:Int) (GMod.mk (Str.mk []) (0:Int) ([]:(List Str)) ([]:(List Int)) ([]:(List GNode))) (0:Int) (0:Int)) (1:Int)) λy7=>cal (zW (GPar.mk y7.2.l y7.2.at_ (GMod.mk y7.1 y7.2.m.tagging y7.2.m.names y7.2.m.types y7.2.m.nodes) y7.2.e y7.2.p) (Str.mk [68,69,70,73,78,73,84,73,79,78,83])) λy10=>jp (ι:=GPar) (λJ14=>cal (zL y10 (Str.mk [69,88,80,76,73,67,73,84])) λy15=>br y15.1 (cal (zW y15.2 (Str.mk [84,65,71,83])) λy18=>J14 (y18)) (cal (zL y15.2 (Str.mk [73,77,80,76,73,67,73,84])) λy21=>br y21.1 (cal (zW (GPar.mk y21.2.l y21.2.at_ (GMod.mk y21.2.m.name (1:Int) y21.2.m.names y21.2.m.types y21.2.m.nodes) y21.2.e y21.2.p) (Str.mk [84,65,71,83])) λy24=>J14 (y24)) (cal (zL y21.2 (Str.mk [65,85,84,79,77,65,84,73,67])) λy27=>br y27.1 (cal (zW (GPar.mk y27.2.l y27.2.at_ (GMod.mk y27.2.m.name (2:Int) y27.2.m.names y27.2.m.types y27.2.m.nodes) y27.2.e y27.2.p) (Str.mk [84,65,71,83])) λy30=>J14 (y30)) (J14 (y27.2))))) (λq13=>cal (zW q13 (Str.mk [58,58,61])) λy33=>cal (zW y33 (Str.mk [66,69,71,73,78])) λy36=>lp (ι:=GPar) (λL40 q39=>jp (ι:=Bool × GPar) (λJ92=>br (decide (q39.e=(0:Int))) (cal (zL q39 (Str.mk [69,78,68])) λy94=>J92 ((!y94.1),y94.2)) (J92 (false,q39))) (λq91=>br q91.1 (cal (zaX q91.2) λy97=>cal (zb6 y97.2 (1:Int)) λy101=>jp (ι:=Bool) (λJ105=>br (decide (y101.2.e=(0:Int))) (J105 ((decide ((40:Int) <= (y101.2.m.names.length:Int))))) (J105 (false))) (λq104=>jp (ι:=GPar) (λJ108=>br q104 (cal (zbf y101.2 (5:Int) y97.1) λy109=>J108 (y109)) (J108 (y101.2))) (λq107=>cal (zW q107 (Str.mk [58,58,61])) λy112=>cal (zc5 fuel y112 (0:Int)) λy115=>asr (Nat.ble (y115.2.m.names.length + ([y101.1]:(List Str)).length) 68719476736) <| asr (Nat.ble (y115.2.m.types.length + ([y115.1]:(List Int)).length) 68719476736) <| L40 ((GPar.mk y115.2.l y115.2.at_ (GMod.mk y115.2.m.name y115.2.m.tagging (y115.2.m.names ++ ([y101.1]:(List Str))) (y115.2.m.types ++ ([y115.1]:(List Int))) y115.2.m.nodes) y115.2.e y115.2.p))))) (jp (ι:=Bool × GPar) (λJ126=>br (decide (q91.2.e=(0:Int))) (cal (zaX q91.2) λy128=>J126 ((!decide (y128.1.kind=(0:Int))),y128.2)) (J126 (false,q91.2))) (λq125=>jp (ι:=GPar) (λJ132=>br q125.1 (cal (zaX q125.2) λy133=>cal (zbf y133.2 (7:Int) y133.1) λy136=>J132 (y136)) (J132 (q125.2))) (λq131=>br (!decide (q131.e=(0:Int))) (some ((GMod.mk (Str.mk []) (0:Int) ([]:(List Str)) ([]:(List Int)) ([]:(List GNode))),q131.p,q131.e)) (some (q131.m,(0:Int),(0:Int)))))))) ((y36))))
theorem zom:ziJ=zlm:=by
 funext zaV
 unfold ziJ zlm
 rw [zvc]
def zi2 (zaV:Str):Option (GTab × Bool) :=
 br (decide ((3000:Int) < (zaV.b.length:Int))) (some ((GTab.mk (Str.mk []) ([]:(List Str)) ([]:(List Int)) ([]:(List GTyp))),false)) (cal (zlm zaV) λy2=>br (!decide (y2.2.2=(0:Int))) (some ((GTab.mk (Str.mk []) ([]:(List Str)) ([]:(List Int)) ([]:(List GTyp))),false)) (cal (zlQ y2.1) λy4=>jp (ι:=Bool) (λJ7=>br (decide (y4.2.2=(0:Int))) (J7 ((decide ((y4.1.types.length:Int) <= (120:Int))))) (J7 (false))) (λq6=>some (y4.1,q6))))
theorem zhr:zdc=zi2:=by
 funext zaV
 unfold zdc zi2
 rw [zom]
end Go.Proofs.Q


namespace Go.Proofs.Q
open Go.Sy
set_option maxRecDepth 4000
end Go.Proofs.Q


namespace Go.Proofs.Q
open Go.Sy
set_option linter.unusedVariables false
set_option maxRecDepth 4000

def conN:GCon:=⟨false,false,false,false,0,0⟩
def tabGood (l:List GTyp):Bool:=decide (l.length <= 1000) && l.all λx=>decide (x.fields.length <= 1000) && decide (x.items.length <= 1000) && (x.fields.all λf=>decide (0 <= f.ty) && decide (f.ty < l.length) && nmOk f.name.b && decide (f.name.b.length <= 90)) && (x.items.all λit=>nmOk it.name.b && decide (it.name.b.length <= 90)) &&
 (!decide (x.kind=10) || (decide (0 <= x.of) && decide (x.of < l.length))) && decide (1 <= x.kind) && decide (x.kind <= 10) && decide ((x.fields.map λf=>f.name).Nodup) && decide ((x.items.map λit=>it.name).Nodup)
structure TG (l:List GTyp):Prop where
 ok:TOk l
 nb:NmB l
 nw:NmW l
theorem zqO {l:List GTyp} (h:tabGood l=true):TG l:=by
 unfold tabGood at h
 rw [zBa] at h
 have hl:=zOT h.1
 have ha:=λx hx=>List.all_eq_true.1 h.2 x hx
 simp only [zBa] at ha
 refine ⟨⟨hl,λx hx=>zOT (ha x hx).1.1.1.1.1.1.1.1,λx hx=>?_,λx hx f hf=>?_,λx hx hk=>?_,λx hx=>?_⟩,⟨hl,λx hx=>zOT (ha x hx).1.1.1.1.1.1.1.1,λx hx=>?_,λx hx f hf=>?_,λx hx it hit=>?_⟩,⟨λx hx f hf=>?_,λx hx it hit=>?_,λx hx=>?_,λx hx=>?_⟩⟩
 ·have:=zOT (ha x hx).1.1.1.1.1.1.1.2;omega
 ·have:=List.all_eq_true.1 (ha x hx).1.1.1.1.1.1.2 f hf
  simp only [zBa] at this
  exact ⟨zOT this.1.1.1,zOT this.1.1.2⟩
 ·have:=(ha x hx).1.1.1.1.2
  rw [zDT hk,Bool.not_true,Bool.false_or,zBa] at this
  exact ⟨zOT this.1,zOT this.2⟩
 ·exact ⟨zOT (ha x hx).1.1.1.2,zOT (ha x hx).1.1.2⟩
 ·have:=zOT (ha x hx).1.1.1.1.1.1.1.2;omega
 ·have:=List.all_eq_true.1 (ha x hx).1.1.1.1.1.1.2 f hf
  simp only [zBa] at this
  exact zOT this.2
 ·have:=List.all_eq_true.1 (ha x hx).1.1.1.1.1.2 it hit
  simp only [zBa] at this
  exact zOT this.2
 ·have:=List.all_eq_true.1 (ha x hx).1.1.1.1.1.1.2 f hf
  simp only [zBa] at this
  exact this.1.2
 ·have:=List.all_eq_true.1 (ha x hx).1.1.1.1.1.2 it hit
  simp only [zBa] at this
  exact this.1
 ·exact zOT (ha x hx).1.2
 ·exact zOT (ha x hx).2
/-! ### A table is well made: by looking -/
def dokB (v:Val):Bool:=decide (v.b.length <= 8000) && v.l.isEmpty && v.more.isEmpty && decide (0 <= v.kind) && decide (v.kind <= 6) && decide (v.rule=0)
def typB (t:GTyp):Bool:=(decide (t.kind=9) || !t.tags.isEmpty) && decide (t.tags.length <= 100000) && decide (0 <= t.root) && (if t.kind=7 \/ t.kind=8 \/ t.kind=9 then decide (t.root <= t.fields.length) else t.fields.isEmpty && (decide (t.kind=3) || decide (t.root=0))) && (if t.kind=3 then decide (t.root <= t.items.length) else t.items.isEmpty) && decide (t.items.length <= 8001) && (t.items.all λit=>decide (-9223372036854775808 <= it.number) && decide (it.number <= 9223372036854775807)) && t.fields.all λf=>dokB f.dflt
theorem zwh {t:GTyp} (h:typB t=true):TypOk t:=by
 unfold typB at h
 simp only [zBa] at h
 obtain ⟨⟨⟨⟨⟨⟨⟨h1,h2⟩,h3⟩,h4⟩,h5⟩,h6⟩,h7⟩,h8⟩:=h
 refine ⟨λk=>?_,zOT h2,zOT h3,λk=>?_,λk=>?_,λk=>?_,λk=>?_,zOT h6,λit hit=>?_,λf hf=>?_,λk k2=>?_⟩
 ·rw [zDF k,Bool.false_or] at h1
  intro e;rw [e] at h1;cases h1
 ·rw [if_pos k] at h4;exact zOT h4
 ·rw [if_pos k] at h5;exact zOT h5
 ·rw [if_neg k,zBa] at h4;exact List.isEmpty_iff.1 h4.1
 ·rw [if_neg k] at h5;exact List.isEmpty_iff.1 h5
 ·have:=List.all_eq_true.1 h7 it hit
  rw [zBa] at this
  exact ⟨zOT this.1,zOT this.2⟩
 ·have:=List.all_eq_true.1 h8 f hf
  unfold dokB at this
  simp only [zBa] at this
  exact ⟨zOT this.1.1.1.1.1,List.isEmpty_iff.1 this.1.1.1.1.2,List.isEmpty_iff.1 this.1.1.1.2,zOT this.1.1.2,zOT this.1.2,zOT this.2⟩
 ·rw [if_neg k2,zBa,zDF k,Bool.false_or] at h4
  exact zOT h4.2
def kidsJ (S:Nat->Option Nat):List Int->Nat->Option Nat
 | [],a=>some a
 | k :: r,a=>if k=(a:Int) then (match S a with
  | some c=>kidsJ S r c
  | none=>none) else none
theorem zph {S:Nat->Option Nat} {R:Nat->Nat->Prop} (h:∀ a c,S a=some c->R a c):∀ {l:List Int} {a b:Nat},kidsJ S l a=some b->Kids R l a b
 | [],a,b,e=>by injection e
 | k :: r,a,b,e=>by
  change (if k=(a:Int) then (match S a with | some c=>kidsJ S r c | none=>none) else none)=some b at e
  by_cases hk:k=(a:Int)
  ·rw [if_pos hk] at e
   cases hc:S a with
   | none=>rw [hc] at e;cases e
   | some c=>rw [hc] at e;exact ⟨c,hk,h a c hc,zph h e⟩
  ·rw [if_neg hk] at e;cases e
def subJ:Nat->List GTyp->Nat->Option Nat
 | 0,_,_=>none
 | h + 1,l,i=>match l[i]? with
  | none=>none
  | some t=>if typB t=true then kidsJ (subJ h l) (kidsT t) (i + 1) else none
theorem zvS:∀ {h:Nat} {l:List GTyp} {i j:Nat},subJ h l i=some j->SubT h l i j:=by
 intro h
 induction h with
 | zero=>intro l i j e;cases e
 | succ h ih =>
  intro l i j e
  change (match l[i]? with | none=>none | some t=>if typB t=true then kidsJ (subJ h l) (kidsT t) (i + 1) else none)=some j at e
  cases ht:l[i]? with
  | none=>rw [ht] at e;cases e
  | some t =>
   rw [ht] at e
   dsimp only at e
   by_cases hb:typB t=true
   ·rw [if_pos hb] at e
    exact ⟨t,ht,zwh hb,zph (R:=SubT h l) (λa c h=>ih h) e⟩
   ·rw [if_neg hb] at e;cases e
def tabB (t:GTab):Bool:=decide (t.names.length <= 40) && decide (t.roots.length=t.names.length) && decide (t.types.length <= 300) && decide (kidsJ (subJ 17 t.types) t.roots 0=some t.types.length) && (List.range t.names.length).all λp=>(t.names[p]?).all λs=>decide (fnd t.names s=(p:Int))
theorem ztn {t:GTab} (h:tabB t=true):TabOk t:=by
 unfold tabB at h
 simp only [zBa] at h
 obtain ⟨⟨⟨⟨h1,h2⟩,h3⟩,h4⟩,h5⟩:=h
 refine ⟨zOT h1,zOT h2,zOT h3,zph (R:=SubT 17 t.types) (λa c h=>zvS h) (zOT h4),λp s hp=>?_⟩
 have hlt:=(List.getElem?_eq_some_iff.1 hp).1
 have:=List.all_eq_true.1 h5 p (List.mem_range.2 hlt)
 rw [hp] at this
 exact zOT this

/-! ### awake -/
def tabW:GTab:=⟨⟨[77]⟩,[⟨[65]⟩],[0],[⟨7,[⟨0,16⟩],conN,[],[⟨⟨[97]⟩,1,false,false,zeroV,0⟩,⟨⟨[98]⟩,2,true,false,zeroV,0⟩],2,false,0⟩,⟨2,[⟨0,2⟩],conN,[],[],0,false,0⟩,⟨1,[⟨0,1⟩],conN,[],[],0,false,0⟩]⟩
theorem zvy:zdc (Str.mk [77,32,68,69,70,73,78,73,84,73,79,78,83,32,58,58,61,32,66,69,71,73,78,32,65,32,58,58,61,32,83,69,81,85,69,78,67,69,32,123,32,97,32,73,78,84,69,71,69,82,44,32,98,32,66,79,79,76,69,65,78,32,79,80,84,73,79,78,65,76,32,125,32,69,78,68])=some (tabW,true):=by
 rw [zhr];kernel_rfl
theorem zv4:TG tabW.types:=zqO (by kernel_rfl)
theorem zvE:TabOk tabW:=ztn (by kernel_rfl)
def valW:Val:=leafV 7 0 [] [leafV 2 5 [] [],leafV 1 1 [] []]
theorem zrK {t:GTab} {h:Nat} {i n:Int} {x:GTyp} (h0:0 <= i) (hx:t.types[i.toNat]?=some x) (hk:x.kind=2) (hc:(x.con.more || wthn x.con n)=true):Fit t (h + 1) i (leafV 2 n [] []) :=
 ⟨h0,x,hx,.inr ⟨hk.symm,.inr (.inl ⟨hk,rfl,hc⟩)⟩⟩
theorem zqK {t:GTab} {h:Nat} {i n:Int} {x:GTyp} (h0:0 <= i) (hx:t.types[i.toNat]?=some x) (hk:x.kind=1) (hc:(decide (n=0) || decide (n=1))=true):Fit t (h + 1) i (leafV 1 n [] []) :=
 ⟨h0,x,hx,.inr ⟨hk.symm,.inl ⟨hk,rfl,hc⟩⟩⟩
theorem zrO {t:GTab} {h:Nat} {i:Int} {l:List Val} {x:GTyp} (h0:0 <= i) (hx:t.types[i.toNat]?=some x) (hk:x.kind=7) (hl:l.length=x.fields.length) (hf:∀ (k:Nat) f w,x.fields[k]?=some f->l[k]?=some w->FldF x (Fit t h) k f w) (hs:slots x=[]):Fit t (h + 1) i (leafV 7 0 [] l) :=
 ⟨h0,x,hx,.inr ⟨hk.symm,.inr (.inr (.inr (.inr (.inr (.inr (.inr ⟨.inl hk,rfl,λ_=>rfl,hl,hf,λs hs'=>by rw [hs] at hs';cases hs'⟩))))))⟩⟩
theorem there {x:GTyp} {F:Int->Val->Prop} {k:Nat} {f:GFld} {w:Val} (h1:w.kind ≠ 0) (h2:F f.ty w) (h3:f.has=false):FldF x F k f w:=.inr ⟨h1,h2,λh=>by rw [h3] at h;cases h⟩
theorem zp7 {k n:Int} {b:List UInt8} {l:List Val} (h:inI64 n) (hl:∀ w ∈ l,I64V w):I64V (leafV k n b l):=by
 unfold inI64 at h
 exact .mk h.1 (by have:=h.2;show n <= _;omega) hl
theorem zqG:zf7=some true:=by
 refine T.eqs ?_
 unfold zf7
 have hF:Fit tabW 17 0 valW:=zrO (zIl _) rfl rfl rfl (λk f w hf hw=>by
  match k,hf,hw with
  | 0,hf,hw=>cases hf;cases hw;exact there (show (2:Int) ≠ 0 by decide) (zrK (by decide) rfl rfl rfl) rfl
  | 1,hf,hw=>cases hf;cases hw;exact there (show (1:Int) ≠ 0 by decide) (zqK (by decide) rfl rfl rfl) rfl
  | k + 2,hf,hw=>cases hw) rfl
 have hI:I64V valW:=zp7 (zlc (by decide) (by decide)) λw hw=>by
  simp only [List.mem_cons,List.not_mem_nil,or_false] at hw
  rcases hw with e | e <;> subst e <;> exact zp7 (zlc (by decide) (by decide)) λw hw=>by cases hw
 have hf:Fine valW:=zee (zNz _) (by decide) λw hw=>by
  simp only [List.mem_cons,List.not_mem_nil,or_false] at hw
  rcases hw with e | e <;> subst e <;> exact zee (zNz _) (zNz _) λw hw=>by cases hw
 have hb:bare valW=true:=by decide +kernel
 have hc:cnt valW <= 5000:=by decide +kernel
 have hp:=zuw zvE zv4.nb hF hb hI hf hc
 have ht:txt 17 tabW.types 0 valW=[123,32,97,32,53,44,32,98,32,84,82,85,69,32,125]:=by
  have e5:Lib.itoa 5=[53]:=by
   unfold Lib.itoa
   rw [if_neg (by decide),Lib.decDigits_one (by decide)];rfl
  show brc [[97] ++ 32 :: Lib.itoa 5,[98] ++ 32 :: [84,82,85,69]]=_
  rw [e5];rfl
 unfold pTxt at hp
 rw [ht,if_neg (by decide)] at hp
 refine T.eq zvy (T.eq hp ?_)
 exact T.and' (T.and' (T.some rfl))

end Go.Proofs.Q


namespace Go.Proofs.Q
open Go.Sy
set_option linter.unusedVariables false

theorem zsE (x:GTyp) (n:Int) (hl:x.items.length <= 1000000):T (λr=>0 <= r->∃ it ∈ x.items,it.number=n) (zd1 x n):=by
 unfold zd1
 refine T.cal (Q:=λr=>0 <= r->∃ it ∈ x.items,it.number=n) ?_ λy _ hy=>T.some hy
 unfold za5
 refine T.lp (ι:=Int) (λq=>0 <= q/\q <= (x.items.length:Int)) (λq=>((x.items.length:Int) - q).toNat) ⟨zIl _,by omega⟩ (by omega) λJ q ⟨q0,q1⟩ hJ=>T.br (λhb=>?_) λhb=>T.some λh=>absurd h (by decide)
 have hb:=zOT hb
 refine T.get q0 hb λy hy=>T.eq (y:=decide (y.number=n)) ?_ (T.br (λh=>T.some λ_=>⟨y,List.mem_of_getElem? hy,zOT h⟩) λh=>T.ck (by omega) (hJ _ ⟨by omega,by omega⟩ (by omega)))
 unfold zfJ
 rfl
theorem groupsW {t:GTab} (ht:TabOk t) {b:Bool} {i:Int} {x:GTyp} {v:Val} (h0:0 <= i) (hx:t.types[i.toNat]?=some x) (hk:x.kind=7 \/ x.kind=8) (hlen:v.l.length=x.fields.length)
    (hw:∀ w ∈ v.l,w.kind=0->w=zeroV) (hfl:x.fields.length <= 1000) (hr0:0 <= x.root):T (λr=>r.2=zhi t b/\(r.1=true->∀ s ∈ slots x,Grp x v s)) (zcm (zhi t b) i v):=by
  unfold zcm
  have hlt:=(List.getElem?_eq_some_iff.1 hx).1
  have e:getI t.types i=some x:=by rw [zcQ h0 (by omega)];exact congrArg some (List.getElem?_eq_some_iff.1 hx).2
  refine T.eq e (T.eq (zoN ht i) ?_)
  rw [zo6 h0 hx hk]
  have hsl:=zoV hr0
  refine T.lp (ι:=Int) (λ(q:Int)=>0 <= q/\q <= ((slots x).length:Int)/\∀ (k:Nat),(k:Int) < q->∀ s,(slots x)[k]?=some s->Grp x v s) (λ(q:Int)=>(((slots x).length:Int) - q).toNat) ⟨zIl _,by omega,λk hk=>by omega⟩ (by omega) λL q ⟨q1,q2,q3⟩ hL=>T.br (λhb=>?_) λhb=>T.some ⟨rfl,λ_ s hs=>?_⟩
  · have hb:=zOT hb
    obtain ⟨s,hs⟩:∃ s,(slots x)[q.toNat]?=some s:=⟨_,List.getElem?_eq_getElem (by omega)⟩
    refine T.jp (ι:=Unit) (λ_=>Grp x v s) (λJ kk=>?_) λ_ hG=>T.ck (by omega) (hL _ ⟨by omega,by omega,λn hn s' hs'=>?_⟩ (by omega))
    · refine T.get q1 hb λs' hs'=>?_
      rw [hs] at hs';cases hs'
      have hsm:=List.mem_of_getElem? hs
      obtain ⟨k0,r,e0,e1,e2⟩:=zp3 hr0 s hsm
      have hsl2:=zoh hr0 s hsm
      obtain ⟨k1,k2⟩:=e2 k0 (by rw [e0];exact zMs)
      refine T.get (zIl _) (by rw [e0,zLc];omega) λk hk'=>?_
      have ek:k=k0:=by rw [e0] at hk';simpa using hk'.symm
      subst ek
      have eh:s.headD 0=k:=by rw [e0];rfl
      refine T.get (by omega) k2 λf hff=>?_
      have eg:grp x.fields k=f.group:=by unfold grp;rw [hff];rfl
      refine T.br (λhgz=>kk _ ?_) λhgz=>?_
      · have hgz:=zOT hgz
        unfold Grp
        rw [eh,eg,hgz];rfl
      refine T.lp (ι:=Bool × Bool × Int) (λp=>0 <= p.2.2/\p.2.2 <= (s.length:Int)/\p.1=(s.take p.2.2.toNat).any (thr v)/\p.2.1=(s.take p.2.2.toNat).any (lck x v)) (λp=>((s.length:Int) - p.2.2).toNat) ⟨zIl _,by dsimp only;omega,rfl,rfl⟩ (by dsimp only;omega) λL2 p ⟨p1,p2,p3,p4⟩ hL2=>T.br (λhc2=>?_) λhc2=>?_
      · obtain ⟨so,la,m⟩:=p
        dsimp only at p1 p2 p3 p4 hL2 hc2 ⊢
        have hc2:=zOT hc2
        have em:(m + 1).toNat=m.toNat + 1:=by omega
        refine T.get p1 hc2 λk hk=>?_
        obtain ⟨k1,k2⟩:=e2 k (List.mem_of_getElem? hk)
        refine T.get (by omega) (by omega) λw hwk=>T.eq (zhC w) ?_
        have ea:(decide (w.kind=0) && pln w false false false false)=decide (w.kind=0):=by
          by_cases hz:w.kind=0
          · rw [zl9.2 (hw w (List.mem_of_getElem? hwk) hz),zDT hz]
          · rw [zDF hz];rfl
        rw [ea]
        obtain ⟨f',hf'⟩:∃ f,x.fields[k.toNat]?=some f:=⟨_,List.getElem?_eq_getElem (by omega)⟩
        have e':getI x.fields k=some f':=by rw [zcQ (by omega) (by omega)];exact congrArg some (List.getElem?_eq_some_iff.1 hf').2
        have eth:(!decide (w.kind=0))=thr v k:=by unfold thr;rw [hwk]
        have elk:(!(!decide (w.kind=0)) && (!f'.optional) && (!f'.has))=lck x v k:=by
          unfold lck
          rw [<- eth,hf']
          show _=(!(!decide (w.kind=0)) && !(f'.optional || f'.has))
          cases decide (w.kind=0) <;> cases f'.optional <;> cases f'.has <;> rfl
        refine T.or' (T.orJ (d:=lck x v k) (λJ h2=>T.andJ (d:=!f'.optional) (λJ3 h3=>T.eq e' h3) (T.andJ (d:=!f'.has) (λJ3 h3=>T.eq e' h3) ?_)) (T.ck (by omega) (hL2 _ ⟨by dsimp only;omega,by dsimp only;omega,?_,?_⟩ (by dsimp only;omega))))
        · rw [elk];exact h2
        · dsimp only;rw [em,zlG hk,p3,eth]
        · dsimp only;rw [em,zlG hk,p4]
      · obtain ⟨so,la,m⟩:=p
        dsimp only at p1 p2 p3 p4 hL2 hc2 ⊢
        have hc2:=zOF hc2
        rw [zTl (by omega)] at p3 p4
        refine T.and' (T.br (λ_=>T.some ⟨rfl,λh=>by cases h⟩) λh=>kk _ ?_)
        unfold Grp
        rw [p3,p4] at h
        rw [Bool.and_assoc,h,Bool.and_false]
    · rcases Int.lt_or_le (n:Int) q with h4 | h4
      · exact q3 n h4 s' hs'
      · have:n=q.toNat:=by omega
        subst this
        rw [hs] at hs';cases hs'
        exact hG
  · have hb:=zOF hb
    obtain ⟨n,hn⟩:=List.mem_iff_getElem?.1 hs
    exact q3 n (by have:=(List.getElem?_eq_some_iff.1 hn).1;omega) s hn
structure Was (t:GTab) (b:Bool) (B:Val->Prop):Prop where
 kid:∀ v,B v->∀ w ∈ v.l,B w
 unk:∀ {i:Int} {v:Val},B v->v.kind=12->0 <= i->i < t.types.length->Fine v->T (λr=>r.2=zhi t b) (zd9 (zhi t b) i v)
 raw:∀ {i:Int} {v:Val},B v->0 <= i->i < t.types.length->Fine v->T (λr=>r.2=zhi t b/\(r.1=true->v.more=[]->v.rule=0)) (zdl (zhi t b) i v)
theorem fitsW {t:GTab} (ht:TabOk t) {b:Bool} {B:Val->Prop} (hB:Was t b B):∀ {h n:Nat} {i:Int} {v:Val} {d:Int},0 <= d->d + h=18->6 * h + 6 <= n->Fine v->cnt v <= 100000->B v->T (λr=>r.2=zhi t b/\(r.1=true->Fit t h i v)) (zav n (zhi t b) i v d):=by
 intro h
 induction h with
 | zero =>
  intro n i v d d0 hd hn hf hc hv
  obtain ⟨n,rfl⟩:∃ n',n=n' + 1:=⟨n - 1,by omega⟩
  show T _ (zby (zaF n) (zav n) (zaY n) (zG n) (zI n) (zaM n) (zhi t b) i v d)
  unfold zby
  refine T.or' (T.or' (T.br (λ_=>T.some ⟨rfl,λh=>by cases h⟩) λhq=>?_))
  rw [Bool.or_eq_false_iff] at hq
  have:=zOF hq.2
  omega
 | succ h ih =>
  intro n i v d d0 hd hn hf hc hv
  obtain ⟨n,rfl⟩:∃ n',n=n' + 6:=⟨n - 6,by omega⟩
  have htl:=ht.types
  have hvl:=hf.l
  show T _ (zby (zaF (n + 5)) (zav (n + 5)) (zaY (n + 5)) (zG (n + 5)) (zI (n + 5)) (zaM (n + 5)) (zhi t b) i v d)
  unfold zby
  refine T.or' (T.or' (T.br (λ_=>T.some ⟨rfl,λh=>by cases h⟩) λhq=>?_))
  rw [Bool.or_eq_false_iff,Bool.or_eq_false_iff] at hq
  have i0:0 <= i:=by have:=zOF hq.1.1;omega
  have i1:i < t.types.length:=by have h9:¬ ((t.types.length:Int) <= i):=zOF hq.1.2;omega
  obtain ⟨x,hx⟩:∃ x,t.types[i.toNat]?=some x:=⟨_,List.getElem?_eq_getElem (by omega)⟩
  obtain ⟨j,hj⟩:=SubT.sub ht.kids i.toNat (by omega) (by omega)
  have hjl:=hj.inb
  obtain ⟨x',hx',hok,hkid⟩:=hj
  rw [hx] at hx';cases hx'
  have hfl:=zny hkid hjl (by omega)
  have hil:=hok.ilen
  have eg:getI t.types i=some x:=by rw [zcQ i0 i1];exact congrArg some (List.getElem?_eq_some_iff.1 hx).2
  have mk:∀ r:Bool,v.kind=x.kind->(r=true->FitK x v (Fit t h))->(r=true->Fit t (h + 1) i v):=λr e k hr=>⟨i0,x,hx,.inr ⟨e,k hr⟩⟩
  refine T.eq eg (T.br (λh12=>T.cal (hB.unk hv (zOT h12) i0 i1 hf) λy _ hy=>T.some ⟨hy,λ_=>⟨i0,x,hx,.inl (zOT h12)⟩⟩) λh12=>T.br (λ_=>T.some ⟨rfl,λh=>by cases h⟩) λhkk=>?_)
  have hkk:v.kind=x.kind:=by simpa using hkk
  refine T.br (λk1=>?_) λ_=>T.br (λk2=>?_) λ_=>T.br (λk3=>?_) λ_=>T.br (λk4=>?_) λ_=>?_
  ·refine T.eq (zcM _ _ (by decide)) (T.andJ (d:=decide (v.n=0) || decide (v.n=1)) (λJ hh=>T.or' hh) (T.some ⟨rfl,mk _ hkk λhr=>?_⟩))
   rw [zBa] at hr
   exact .inl ⟨zOT k1,hr.1,hr.2⟩
  ·refine T.eq (zcM _ _ (by decide)) (T.andJ (d:=x.con.more || wthn x.con v.n) (λJ hh=>T.orJ (d:=wthn x.con v.n) (λJ2 h2=>T.eq (zgX _ _) h2) hh) (T.some ⟨rfl,mk _ hkk λhr=>?_⟩))
   rw [zBa] at hr
   exact .inr (.inl ⟨zOT k2,hr.1,hr.2⟩)
  ·refine T.eq (zcM _ _ (by decide)) (T.jp (λb=>b=true->pln v true false false false=true/\∃ it ∈ x.items,it.number=v.n) (λJ kk=>T.br (λhp=>T.cal (zsE x v.n (by omega)) λy _ hy=>kk _ λh=>⟨hp,hy (zOT h)⟩) λ_=>kk _ λh=>by cases h) λb hb=>T.some ⟨rfl,mk _ hkk λhr=>?_⟩)
   exact .inr (.inr (.inl ⟨zOT k3,(hb hr).1,(hb hr).2⟩))
  ·exact T.eq (zcM _ _ (by decide)) (T.some ⟨rfl,mk _ hkk λhr=>.inr (.inr (.inr (.inl ⟨zOT k4,hr⟩)))⟩)
  refine T.jp (λb=>b=true->x.kind=5 \/ x.kind=6) (λJ kk=>T.br (λh5=>kk _ λ_=>.inl (zOT h5)) λ_=>kk _ λh=>.inr (zOT h)) λb56 h56=>T.br (λhb=>?_) λ_=>T.br (λk10=>?_) λ_=>T.br (λk9=>?_) λ_=>?_
  ·refine T.cal (Q:=λr=>r.2=zhi t b/\(r.1=true->(pln v false true false false=true/\(v.b.length:Int) <= 70000/\(x.con.more || wthn x.con (v.b.length:Int))=true)/\(x.kind=5 \/ zdo v.b=some true))) ?_ λy _ hy=>T.some ⟨hy.1,mk _ hkk λhr=>?_⟩
   ·unfold zdv
    refine T.eq (zcM _ _ (by decide)) (T.and' (T.andJ (d:=x.con.more || wthn x.con (v.b.length:Int)) (λJ hh=>T.orJ (d:=wthn x.con (v.b.length:Int)) (λJ2 h2=>T.eq (zgX _ _) h2) hh) ?_))
    refine T.jp (λb=>b=true->(pln v false true false false=true/\(v.b.length:Int) <= 70000/\(x.con.more || wthn x.con (v.b.length:Int))=true)/\(x.kind=5 \/ zdo v.b=some true)) (λJ kk=>T.br (λhp=>?_) λ_=>kk _ λh=>by cases h) λb hb2=>T.some ⟨rfl,hb2⟩
    rw [zBa,zBa] at hp
    have hp1:=zOT hp.1.2
    refine T.jp (λb=>b=true->x.kind=5 \/ zdo v.b=some true) (λJ2 k2=>T.br (λh5=>k2 _ λ_=>.inl (zOT h5)) λ_=>T.cal (ztw v.b (by omega)) λy hy _=>k2 _ λh=>.inr (by rw [hy,h])) λb hb3=>kk _ λh=>⟨⟨hp.1.1,hp1,hp.2⟩,hb3 h⟩
   ·obtain ⟨⟨r1,r2,r3⟩,r4⟩:=hy.2 hr
    exact .inr (.inr (.inr (.inr (.inl ⟨h56 hb,r1,r2,r3,r4⟩))))
  ·refine T.cal (Q:=λr=>r.2=zhi t b/\(r.1=true->pln v false false true false=true/\(x.con.more || wthn x.con (v.l.length:Int))=true/\∀ w ∈ v.l,Fit t h x.of w)) ?_ λy _ hy=>T.some ⟨hy.1,mk _ hkk λhr=>.inr (.inr (.inr (.inr (.inr (.inl ⟨zOT k10,hy.2 hr⟩)))))⟩
   show T _ (zcn (zaF (n + 4)) (zav (n + 4)) (zaY (n + 4)) (zG (n + 4)) (zI (n + 4)) (zaM (n + 4)) (zhi t b) x v d)
   unfold zcn
   refine T.eq (zcM _ _ (by decide)) (T.andJ (d:=x.con.more || wthn x.con (v.l.length:Int)) (λJ hh=>T.orJ (d:=wthn x.con (v.l.length:Int)) (λJ2 h2=>T.eq (zgX _ _) h2) hh) ?_)
   refine T.jp (ι:=Bool × GChk) (λr=>r.2=zhi t b/\(r.1=true->pln v false false true false=true/\(x.con.more || wthn x.con (v.l.length:Int))=true/\∀ w ∈ v.l,Fit t h x.of w)) (λJ kk=>T.br (λhp=>?_) λ_=>kk _ ⟨rfl,λh=>by cases h⟩) λp hp=>T.some hp
   rw [zBa] at hp
   refine T.cal (Q:=λr=>r.2=zhi t b/\(r.1=false->∀ w ∈ v.l,Fit t h x.of w)) ?_ λy _ hy=>kk _ ⟨hy.1,λh=>⟨hp.1,hp.2,hy.2 (by simpa using h)⟩⟩
   show T _ (zaw (zaF (n + 3)) (zav (n + 3)) (zaY (n + 3)) (zG (n + 3)) (zI (n + 3)) (zaM (n + 3)) v.l (zhi t b) x d)
   unfold zaw
   refine T.cal (Q:=λr=>r.2=zhi t b/\(¬ 0 <= r.1->∀ w ∈ v.l,Fit t h x.of w)) ?_ λy _ hy=>T.some ⟨hy.1,λh=>hy.2 (zOF h)⟩
   show T _ (zaA (zaF (n + 2)) (zav (n + 2)) (zaY (n + 2)) (zG (n + 2)) (zI (n + 2)) (zaM (n + 2)) v.l (zhi t b) x d)
   unfold zaA
   refine T.lp (ι:=Int × GChk) (λq=>0 <= q.1/\q.1 <= (v.l.length:Int)/\q.2=zhi t b/\∀ (k:Nat),(k:Int) < q.1->∀ w,v.l[k]?=some w->Fit t h x.of w) (λq=>((v.l.length:Int) - q.1).toNat) ⟨zIl _,by dsimp only;omega,rfl,λk hk=>by dsimp only at hk;omega⟩ (by dsimp only;omega) λL q ⟨q1,q2,q3,q4⟩ hL=>?_
   obtain ⟨q,c⟩:=q
   dsimp only at q1 q2 q3 q4 hL ⊢
   subst q3
   refine T.br (λhb2=>?_) λhb2=>T.some ⟨rfl,λ_ w hw=>?_⟩
   ·have hb2:=zOT hb2
    refine T.get q1 hb2 λw hw=>?_
    have hwm:=List.mem_of_getElem? hw
    refine T.cal (Q:=λr=>r.2=zhi t b/\(r.1=false->Fit t h x.of w)) ?_ λy _ hy=>?_
    ·show T _ (zbM (zaF (n + 1)) (zav (n + 1)) (zaY (n + 1)) (zG (n + 1)) (zI (n + 1)) (zaM (n + 1)) w (zhi t b) x d)
     unfold zbM
     exact T.ck (by omega) (T.cal (ih (by omega) (by omega) (by omega) (hf.kid w hwm) (by have:=zeq hwm;omega) (hB.kid v hv w hwm)) λy _ hy=>T.some ⟨hy.1,λh=>hy.2 (by simpa using h)⟩)
    ·refine T.br (λ_=>T.some ⟨hy.1,λh=>absurd q1 h⟩) λhy2=>?_
     rw [hy.1]
     refine T.ck (by omega) (hL _ ⟨by dsimp only;omega,by dsimp only;omega,rfl,λk hk w' hw'=>?_⟩ (by dsimp only;omega))
     dsimp only at hk
     rcases Int.lt_or_le (k:Int) q with h4 | h4
     ·exact q4 k h4 w' hw'
     ·have:k=q.toNat:=by omega
      subst this
      rw [hw] at hw';cases hw'
      exact hy.2 hy2
   ·have hb2:=zOF hb2
    obtain ⟨k,hk⟩:=List.mem_iff_getElem?.1 hw
    exact q4 k (by have:=(List.getElem?_eq_some_iff.1 hk).1;omega) w hk
  ·refine T.eq (zcM _ _ (by decide)) (T.and' (T.and' (T.and' ?_)))
   refine T.jp (ι:=Bool × GChk) (λr=>r.2=zhi t b/\(r.1=true->FitK x v (Fit t h))) (λJ kk=>T.br (λhp=>?_) λ_=>kk _ ⟨rfl,λh=>by cases h⟩) λp hp=>T.some ⟨hp.1,mk _ hkk hp.2⟩
   rw [zBa,zBa,zBa] at hp
   have hn0:=zOT hp.1.1.2
   have hnl:=zOT hp.1.2
   have hl1:=zOT hp.2
   obtain ⟨w,hw⟩:=List.length_eq_one_iff.1 (show v.l.length=1 by omega)
   have hwm:w ∈ v.l:=by rw [hw];exact zMo.2 rfl
   refine T.get hn0 hnl λf hff=>T.eq (y:=w) (by rw [hw];rfl) (T.ck (by omega) (T.cal (ih (by omega) (by omega) (by omega) (hf.kid w hwm) (by have:=zeq hwm;omega) (hB.kid v hv w hwm)) λy _ hy=>kk _ ⟨hy.1,λhr=>?_⟩))
   exact .inr (.inr (.inr (.inr (.inr (.inr (.inl ⟨zOT k9,hp.1.1.1,hn0,f,w,hff,hw,hy.2 hr⟩))))))
  ·refine T.jp (λb=>b=true->x.kind=7 \/ x.kind=8) (λJ kk=>T.br (λh5=>kk _ λ_=>.inl (zOT h5)) λ_=>kk _ λh=>.inr (zOT h)) λb78 h78=>T.br (λhb=>?_) λ_=>T.some ⟨rfl,λh=>by cases h⟩
   have hk78:=h78 hb
   refine T.cal (Q:=λr=>r.2=zhi t b/\(r.1=true->FitK x v (Fit t h))) ?_ λy _ hy=>T.some ⟨hy.1,mk _ hkk hy.2⟩
   show T _ (zb5 (zaF (n + 4)) (zav (n + 4)) (zaY (n + 4)) (zG (n + 4)) (zI (n + 4)) (zaM (n + 4)) (zhi t b) i v d)
   unfold zb5
   refine T.eq eg (T.eq (zcM _ _ (by decide)) (T.or' ?_))
   refine T.jp (ι:=Bool × GChk) (λp=>p.2=zhi t b/\(p.1=false->pln v false false true true=true/\v.l.length=x.fields.length/\(v.more=[]->v.rule=0))) (λJ kk=>T.br (λ_=>kk _ ⟨rfl,λh=>by cases h⟩) λh1=>T.cal (hB.raw hv i0 i1 hf) λy _ hy=>kk _ ⟨hy.1,λh2=>?_⟩) λp hp=>?_
   ·rw [Bool.or_eq_false_iff] at h1
    exact ⟨nt h1.1,zsd h1.2,hy.2 (by simpa using h2)⟩
   obtain ⟨p1,c⟩:=p
   obtain ⟨pc,hp⟩:=hp
   dsimp only at pc hp ⊢
   subst pc
   refine T.br (λ_=>T.some ⟨rfl,λh=>by cases h⟩) λhp1=>?_
   obtain ⟨hpl,hlen,hrule⟩:=hp hp1
   refine T.lp (ι:=Int × GChk) (λq=>0 <= q.1/\q.1 <= (x.fields.length:Int)/\q.2=zhi t b/\∀ (k:Nat),(k:Int) < q.1->∀ f w,x.fields[k]?=some f->v.l[k]?=some w->FldF x (Fit t h) k f w) (λq=>((x.fields.length:Int) - q.1).toNat) ⟨zIl _,by dsimp only;omega,rfl,λk hk=>by dsimp only at hk;omega⟩ (by dsimp only;omega) λL q ⟨q1,q2,q3,q4⟩ hL=>?_
   obtain ⟨q,c⟩:=q
   dsimp only at q1 q2 q3 q4 hL ⊢
   subst q3
   refine T.br (λhb2=>?_) λhb2=>?_
   ·have hb2:=zOT hb2
    refine T.jp (ι:=GChk) (λc=>c=zhi t b/\∀ f w,x.fields[q.toNat]?=some f->v.l[q.toNat]?=some w->FldF x (Fit t h) q.toNat f w) (λJ kk=>?_) λc hc2=>T.ck (by omega) (hL _ ⟨by dsimp only;omega,by dsimp only;omega,hc2.1,λk hk f w hkf hkw=>?_⟩ (by dsimp only;omega))
    ·refine T.get q1 hb2 λf hff=>T.get q1 (by omega) λw hw=>?_
     have hwm:=List.mem_of_getElem? hw
     have hcw:=zeq hwm
     have fin:FldF x (Fit t h) q.toNat f w->zhi t b=zhi t b/\∀ f w,x.fields[q.toNat]?=some f->v.l[q.toNat]?=some w->FldF x (Fit t h) q.toNat f w:=λhF=>⟨rfl,λf' w' hf' hw'=>by
      rw [hff] at hf';cases hf'
      rw [hw] at hw';cases hw'
      exact hF⟩
     refine T.br (λhz=>?_) λhz=>?_
     ·have hz:=zOT hz
      refine T.eq (zhC _) (T.orJ (d:=!(f.optional || f.has || decide (x.root <= q))) (λJ2 hh=>T.eq (zoK q1 hff) hh) (T.br (λ_=>T.some ⟨rfl,λh=>by cases h⟩) λha=>kk _ (fin ?_)))
      rw [Bool.or_eq_false_iff] at ha
      have ha1:(decide (w.kind=0) && pln w false false false false)=true:=by simpa using ha.1
      have ha2:(f.optional || f.has || decide (x.root <= q))=true:=nt ha.2
      rw [Bool.or_eq_true,Bool.or_eq_true] at ha2
      refine .inl ⟨hz,zl9.1 ha1,?_⟩
      rcases ha2 with (h2 | h2) | h2
      ·exact .inl h2
      ·exact .inr (.inl h2)
      ·have:=zOT h2;exact .inr (.inr (by omega))
     ·have hz:=zOF hz
      refine T.ck (by omega) (T.cal (ih (by omega) (by omega) (by omega) (hf.kid w hwm) (by omega) (hB.kid v hv w hwm)) λy _ hy=>?_)
      refine T.jp (λb=>b=false->y.1=true/\(f.has=true->w ≠ f.dflt)) (λJ2 k2=>T.br (λ_=>k2 _ λh=>by cases h) λhy2=>?_) λb hb2=>T.br (λ_=>T.some ⟨hy.1,λh=>by cases h⟩) λhq=>?_
      ·refine T.jp (λb=>b=false->f.has=true->w ≠ f.dflt) (λJ3 k3=>T.br (λhh=>T.cal (zmL (k:=100000) (n:=fuel) (by omega) (by unfold fuel;omega) (hf.kid w hwm) _) λr _ hr=>k3 _ λh1 _ h2=>?_) λhh=>k3 _ λ_ h=>by rw [hh] at h;cases h) λb hb3=>k2 _ λh=>⟨by simpa using hy2,hb3 h⟩
       rw [hr.2 h2] at h1;cases h1
      ·obtain ⟨b1,b2⟩:=hb2 hq
       rw [hy.1]
       exact kk _ (fin (.inr ⟨hz,hy.2 b1,b2⟩))
    ·dsimp only at hk
     rcases Int.lt_or_le (k:Int) q with h4 | h4
     ·exact q4 k h4 f w hkf hkw
     ·have:k=q.toNat:=by omega
      subst this
      exact hc2.2 f w hkf hkw
   ·have hb2:=zOF hb2
    have hfields:∀ (k:Nat) f w,x.fields[k]?=some f->v.l[k]?=some w->FldF x (Fit t h) k f w:=λk f w h1 h2=>q4 k (by have:=(List.getElem?_eq_some_iff.1 h1).1;omega) f w h1 h2
    refine T.cal (groupsW ht i0 hx hk78 hlen (λw hw hz=>?_) hfl hok.root0) λy _ hy=>T.some ⟨hy.1,λhr=>.inr (.inr (.inr (.inr (.inr (.inr (.inr ⟨hk78,hpl,hrule,hlen,hfields,hy.2 hr⟩))))))⟩
    obtain ⟨k,hk⟩:=List.mem_iff_getElem?.1 hw
    have hlt:=(List.getElem?_eq_some_iff.1 hk).1
    obtain ⟨f,hff⟩:∃ f,x.fields[k]?=some f:=⟨_,List.getElem?_eq_getElem (by omega)⟩
    exact (hfields k f w hff hk).elim (λh=>h.2.1) λh=>absurd hz h.1
theorem zuk {t:GTab} {b:Bool}:Was t b (λv=>bare v=true) where
 kid v h:=(ziK h).2.2
 unk h k:=absurd k (ziK h).1
 raw {i v} h i0 i1 hf:=by
  have hm:=(ziK h).2.1
  obtain ⟨x,hx⟩:∃ x,t.types[i.toNat]?=some x:=⟨_,List.getElem?_eq_getElem (by omega)⟩
  have eg:getI t.types i=some x:=by rw [zcQ i0 i1];exact congrArg some (List.getElem?_eq_some_iff.1 hx).2
  unfold zdl
  refine T.eq eg (T.br (λ_=>T.some ⟨rfl,λh _=>zOT h⟩) λh=>?_)
  rw [hm] at h;cases h
theorem zrl {t:GTab} (ht:TabOk t) {i:Int} {v:Val} (hb:bare v=true) (hf:Fine v) (hc:cnt v <= 100000):T (λr=>r=true ↔ (Fit t 17 i v/\cnt v <= 5000)) (zeR t i v):=by
 unfold zeR
 refine T.cal (fitsW ht (b:=false) zuk (h:=17) (n:=fuel) (i:=i) (d:=1) (by decide) (by decide) (by unfold fuel;decide) hf hc hb) λy hy1 hy=>?_
 refine T.jp (λb=>b=true ↔ (Fit t 17 i v/\cnt v <= 5000)) (λJ kk=>T.br (λh=>T.eq (zoB (by unfold fuel;omega) (by omega) hf) (kk _ ?_)) λh=>kk _ ?_) λb hb=>T.some hb
 ·rw [decide_eq_true_iff]
  exact ⟨λh2=>⟨hy.2 h,by omega⟩,λh2=>by omega⟩
 ·refine ⟨λh=>(by cases h),λh2=>?_⟩
  have hs:=zoQ h2.1 hb
  have h3:=zqd ht (b:=false) (h:=17) (n:=fuel) (i:=i) (v:=v) (d:=1) (by decide) (by decide) (by unfold fuel;decide) hf hc h2.1 (by rw [hs];exact hb)
  rw [hs] at h3
  change zav fuel (zhi t false) i v 1=some y at hy1
  rw [h3] at hy1
  cases hy1
  cases h
end Go.Proofs.Q


namespace Go.Proofs.Q
open Go.Sy
set_option maxRecDepth 4000
def zfd (a_n_:Int) (zlN:Bool):Option (Bool) :=
 cal (zdc (Str.mk [77,32,68,69,70,73,78,73,84,73,79,78,83,32,58,58,61,32,66,69,71,73,78,32,65,32,58,58,61,32,83,69,81,85,69,78,67,69,32,123,32,97,32,73,78,84,69,71,69,82,32,40,48,46,46,57,41,32,68,69,70,65,85,76,84,32,52,44,32,98,32,66,79,79,76,69,65,78,32,125,32,69,78,68])) λy1=>cal (zko a_n_) λy3=>asr (Nat.ble ((Str.mk [123,32,97,32]).b.length + y3.b.length) 4611686018427387904) <| jp (ι:=Str) (λJ6=>br zlN (asr (Nat.ble ((Str.mk ((Str.mk [123,32,97,32]).b ++ y3.b)).b.length + (Str.mk [44,32,98,32,84,82,85,69]).b.length) 4611686018427387904) <| J6 ((Str.mk ((Str.mk ((Str.mk [123,32,97,32]).b ++ y3.b)).b ++ (Str.mk [44,32,98,32,84,82,85,69]).b)))) (J6 ((Str.mk ((Str.mk [123,32,97,32]).b ++ y3.b))))) (λq5=>asr (Nat.ble (q5.b.length + (Str.mk [32,125]).b.length) 4611686018427387904) <| cal (zgM y1.1 (0:Int) (Str.mk (q5.b ++ (Str.mk [32,125]).b))) λy9=>jp (ι:=Bool) (λJ12=>br (!zlN) (J12 (true)) (J12 ((decide (a_n_ < (0:Int)))))) (λq11=>jp (ι:=Bool) (λJ15=>br q11 (J15 (true)) (J15 ((decide ((9:Int) < a_n_))))) (λq14=>br q14 (cal (zf7 ) λy17=>jp (ι:=Bool) (λJ19=>br y17 (J19 (y1.2)) (J19 (false))) (λq18=>jp (ι:=Bool) (λJ22=>br q18 (J22 ((decide (y9.2.2=(13:Int))))) (J22 (false))) (λq21=>jp (ι:=Bool) (λJ25=>br q21 (J25 ((decide (y9.2.1=(0:Int))))) (J25 (false))) (λq24=>jp (ι:=Bool) (λJ28=>br q24 (cal (zi9 fuel y9.1 (Val.mk (0:Int) (0:Int) ([]:(List UInt8)) ([]:(List Val)) (0:Int) ([]:(List Raw)))) λy30=>J28 (y30)) (J28 (false))) (λq27=>some (q27)))))) (jp (ι:=Val) (λJ35=>br (decide (a_n_=(4:Int))) (asr (decide (0 <= (0:Int)/\(0:Int) < ((([(Val.mk (2:Int) a_n_ ([]:(List UInt8)) ([]:(List Val)) (0:Int) ([]:(List Raw))),(Val.mk (1:Int) (1:Int) ([]:(List UInt8)) ([]:(List Val)) (0:Int) ([]:(List Raw)))]:(List Val)).length:Nat):Int))) <| cal (([(Val.mk (2:Int) a_n_ ([]:(List UInt8)) ([]:(List Val)) (0:Int) ([]:(List Raw))),(Val.mk (1:Int) (1:Int) ([]:(List UInt8)) ([]:(List Val)) (0:Int) ([]:(List Raw)))]:(List Val))[(0:Int).toNat]?) λy37=>J35 ((Val.mk (7:Int) (0:Int) ([]:(List UInt8)) (([(Val.mk (2:Int) a_n_ ([]:(List UInt8)) ([]:(List Val)) (0:Int) ([]:(List Raw))),(Val.mk (1:Int) (1:Int) ([]:(List UInt8)) ([]:(List Val)) (0:Int) ([]:(List Raw)))]:(List Val)).set ((0:Int).toNat) (Val.mk (0:Int) (0:Int) ([]:(List UInt8)) ([]:(List Val)) (0:Int) ([]:(List Raw)))) (0:Int) ([]:(List Raw))))) (J35 ((Val.mk (7:Int) (0:Int) ([]:(List UInt8)) ([(Val.mk (2:Int) a_n_ ([]:(List UInt8)) ([]:(List Val)) (0:Int) ([]:(List Raw))),(Val.mk (1:Int) (1:Int) ([]:(List UInt8)) ([]:(List Val)) (0:Int) ([]:(List Raw)))]:(List Val)) (0:Int) ([]:(List Raw)))))) (λq34=>cal (zf7 ) λy38=>jp (ι:=Bool) (λJ40=>br y38 (J40 (y1.2)) (J40 (false))) (λq39=>jp (ι:=Bool) (λJ43=>br q39 (J43 ((decide (y9.2.2=(0:Int))))) (J43 (false))) (λq42=>jp (ι:=Bool) (λJ46=>br q42 (cal (zi9 fuel y9.1 q34) λy48=>J46 (y48)) (J46 (false))) (λq45=>some (q45)))))))))
end Go.Proofs.Q


namespace Go.Proofs.Q
open Go.Sy
set_option linter.unusedVariables false
set_option maxRecDepth 4000

/-! ### Numbers as the laws' helper writes them -/
theorem zrk (v:UInt64) (h:v.toNat < 10):((48:UInt64) + v).toUInt8=UInt8.ofNat (48 + v.toNat):=by
 refine UInt8.toNat_inj.1 ?_
 rw [UInt64.toNat_toUInt8,UInt64.toNat_add,UInt8.toNat_ofNat',show (48:UInt64).toNat=48 from rfl]
 omega
theorem zs1:∀ (k m:Nat) (v:UInt64),v.toNat < 10 ^ (k + 1)->k + 1 <= m->k <= 100->zhd m v=some ⟨Lib.decDigits v.toNat⟩:=by
 intro k
 induction k with
 | zero =>
  intro m v hv hm _
  obtain ⟨m,rfl⟩:∃ m',m=m' + 1:=⟨m - 1,by omega⟩
  refine T.eqs ?_
  show T _ (zfZ (zhd m) v)
  unfold zfZ
  have hv:v.toNat < 10:=by simpa using hv
  refine T.br (λ_=>T.some ?_) λh=>absurd (UInt64.lt_iff_toNat_lt.2 (by exact hv)) (zOF h)
  rw [Lib.decDigits_one hv,zrk v hv]
 | succ k ih =>
  intro m v hv hm hk
  obtain ⟨m,rfl⟩:∃ m',m=m' + 1:=⟨m - 1,by omega⟩
  refine T.eqs ?_
  show T _ (zfZ (zhd m) v)
  unfold zfZ
  refine T.br (λh=>T.some ?_) λh=>?_
  ·have hv:v.toNat < 10:=UInt64.lt_iff_toNat_lt.1 (zOT h)
   rw [Lib.decDigits_one hv,zrk v hv]
  ·have hv10:¬ v.toNat < 10:=λh2=>zOF h (UInt64.lt_iff_toNat_lt.2 h2)
   have e1:(v / 10).toNat=v.toNat / 10:=by rw [UInt64.toNat_div];rfl
   have e2:(v % 10).toNat=v.toNat % 10:=by rw [UInt64.toNat_mod];rfl
   have hd:(v / 10).toNat < 10 ^ (k + 1):=by
    rw [e1];rw [Nat.pow_succ] at hv;omega
   have hl:=zkv k (v / 10).toNat hd
   refine T.jp (ι:=Str) (λz=>z=⟨Lib.decDigits v.toNat⟩) (λJ kk=>T.asr rfl (T.asr rfl (T.eq (ih m (v / 10) hd (by omega) (by omega)) (T.abl (by simp only [zLc,zLn];omega) (kk _ ?_))))) λz hz=>T.some hz
   conv=>rhs;rw [Lib.decDigits,dif_neg hv10]
   rw [e1,zrk _ (by rw [e2];omega),e2]
theorem zqR (v:UInt64):zhd fuel v=some ⟨Lib.decDigits v.toNat⟩:=zs1 19 fuel v (by
 have:=v.toNat_lt
 have h9:(10:Nat) ^ (19 + 1)=100000000000000000000:=by decide
 omega) (by unfold fuel;decide) (by decide)
theorem zvq {n:Int} (hn:inI64 n):zko n=some ⟨Lib.itoa n⟩:=by
 unfold inI64 at hn
 refine T.eqs ?_
 unfold zko Lib.itoa
 refine T.br (λh=>?_) λh=>?_
 ·have h:=zOT h
  rw [if_pos h]
  have e:(UInt64.ofNat ((-(n + 1)) % 18446744073709551616).toNat + 1).toNat=n.natAbs:=by
   rw [UInt64.toNat_add,UInt64.toNat_ofNat',show (1:UInt64).toNat=1 from rfl];omega
  have hl:=zkv 19 n.natAbs (by
   have h9:(10:Nat) ^ (19 + 1)=100000000000000000000:=by decide
   omega)
  refine T.ck (by omega) (T.ck (by omega) (T.eq (zqR _) ?_))
  rw [e]
  exact T.abl (by simp only [zLc,zLn];omega) (T.some rfl)
 ·have h:=zOF h
  rw [if_neg h]
  have e:(UInt64.ofNat (n % 18446744073709551616).toNat).toNat=n.toNat:=by rw [UInt64.toNat_ofNat'];omega
  refine T.eq (zqR _) ?_
  rw [e]
  exact T.some rfl

/-! ### The table and the text -/
def fldsM:List GFld:=[⟨⟨[97]⟩,1,false,true,leafV 2 4 [] [],0⟩,⟨⟨[98]⟩,2,false,false,zeroV,0⟩]
def seqM:GTyp:=⟨7,[⟨0,16⟩],conN,[],fldsM,2,false,0⟩
def tabM:GTab:=⟨⟨[77]⟩,[⟨[65]⟩],[0],[seqM,⟨2,[⟨0,2⟩],⟨true,true,true,false,0,9⟩,[],[],0,false,0⟩,⟨1,[⟨0,1⟩],conN,[],[],0,false,0⟩]⟩
theorem zu0:zdc (Str.mk [77,32,68,69,70,73,78,73,84,73,79,78,83,32,58,58,61,32,66,69,71,73,78,32,65,32,58,58,61,32,83,69,81,85,69,78,67,69,32,123,32,97,32,73,78,84,69,71,69,82,32,40,48,46,46,57,41,32,68,69,70,65,85,76,84,32,52,44,32,98,32,66,79,79,76,69,65,78,32,125,32,69,78,68])=some (tabM,true):=by
 rw [zhr];kernel_rfl
theorem zwc:TG tabM.types:=zqO (by kernel_rfl)
theorem zvl:TabOk tabM:=ztn (by kernel_rfl)
def ptM (n:Int) (th:Bool):List (List UInt8):=([97] ++ 32 :: Lib.itoa n) :: (bif th then [[98] ++ 32 :: [84,82,85,69]] else [])
def tkM (n:Int) (th:Bool):List KS:=((2,[97]) :: [(3,Lib.itoa n)]) :: (bif th then [(2,[98]) :: [(5,[84,82,85,69])]] else [])
noncomputable def valM (n:Int) (th:Bool):Val:=leafV 7 0 [] [if n=4 then zeroV else leafV 2 n [] [],bif th then leafV 1 1 [] [] else zeroV]
theorem zvj {n:Int} (hn:inI64 n) (th:Bool):LxA (ptM n th) (tkM n th):=by
 have h1:=zsj (s:=[97]) (by kernel_rfl) (zu5 hn.1 hn.2)
 cases th with
 | false=>exact .cons h1 .nil
 | true=>exact .cons h1 (.cons (zsj (s:=[98]) (by kernel_rfl) (zuQ rfl rfl (by decide) (by decide) zt4.2.1)) .nil)
theorem putM (n:Int):putF ⟨⟨[97]⟩,1,false,true,leafV 2 4 [] [],0⟩ 0 (leafV 2 n [] []) (List.replicate 2 zeroV)=[if n=4 then zeroV else leafV 2 n [] [],zeroV]:=by
 by_cases h:n=4
 ·rw [zr2 rfl (by rw [h]),if_pos h];rfl
 ·rw [zr5 (λe=>h (by injection e)),if_neg h];rfl
theorem zwd {n:Int} (hn:inI64 n) (th:Bool):pNote tabM.types 0 (brc (ptM n th))=.ok (valM n th) []:=by
 have hL:=zvT (zvj hn th) [] [] (.inl ⟨rfl,rfl⟩) (.fin rfl)
 rw [List.append_nil,List.append_nil] at hL
 have hbl:=zpi (ptM n th)
 have hil:=zjZ hn.1 hn.2
 obtain ⟨l,e1,e2⟩:=zuL hL (by
  refine Nat.le_trans hbl ?_
  unfold ptM
  cases th <;> simp only [zCt,zCf,List.map_cons,List.map_nil,List.sum_cons,List.sum_nil,zLa,zLc,zLn] <;> omega)
 have e2:l.map kt=(6,[123]) :: ((cm (tkM n th) ++ [(6,[125])]) ++ [(0,[])]):=e2
 obtain ⟨r0,a1,a2⟩:=zn9 e2 (.inr rfl)
 have a3:r0.map kt=(2,[97]) :: (3,Lib.itoa n) :: (bif th then [(6,[44]),(2,[98]),(5,[84,82,85,69]),(6,[125]),(0,[])] else [(6,[125]),(0,[])]):=by
  rw [a2];cases th <;> rfl
 obtain ⟨r1,b1,b2⟩:=zrH (fs:=fldsM) (j:=0) (s:=0) (f:=⟨⟨[97]⟩,1,false,true,leafV 2 4 [] [],0⟩) (by decide) rfl (zNl _) a3
 obtain ⟨r2,c1,c2⟩:=zv5 b2
 have hpv1:pv 16 tabM.types 1 r1=.ok (leafV 2 n [] []) r2:=by
  rw [zsi (x:=⟨2,[⟨0,2⟩],⟨true,true,true,false,0,9⟩,[],[],0,false,0⟩) rfl]
  unfold pvK
  rw [if_neg (by decide),if_neg (by decide),if_pos rfl,c1]
  dsimp only
  rw [zsW hn.1 hn.2]
 have hlen0:r0.length=(r0.map kt).length:=(List.length_map _).symm
 have key:∃ y,pv 17 tabM.types 0 l=.ok (valM n th) [y]/\y.kind=0:=by
  rw [zsi (x:=seqM) rfl]
  show ∃ y,PR.map (leafV 7 0 []) (pSeq fldsM (pv 16 tabM.types) l)=_/\_
  unfold pSeq
  rw [a1]
  dsimp only
  rw [zq9 a3 (by decide)]
  dsimp only
  rw [hlen0,a3,zLc]
  unfold pFlds
  rw [b1]
  dsimp only
  rw [show fldsM[0]?=some ⟨⟨[97]⟩,1,false,true,leafV 2 4 [] [],0⟩ from rfl]
  dsimp only
  rw [hpv1]
  dsimp only
  rw [show fldsM.length=2 from rfl,putM n]
  cases th with
  | false =>
   obtain ⟨r3,d1,d2⟩:=zn9 (show r2.map kt=(6,[125]) :: [(0,[])] from c2) (.inr rfl)
   rw [zq9 (show r2.map kt=(6,[125]) :: [(0,[])] from c2) (by decide),d1]
   obtain ⟨y,r4,f1,f2,_,f3⟩:=zkO d2
   have:r4=[]:=List.map_eq_nil_iff.1 f3
   subst this
   exact ⟨y,by rw [f1];rfl,f2⟩
  | true =>
   obtain ⟨r3,d1,d2⟩:=zn9 (show r2.map kt=(6,[44]) :: [(2,[98]),(5,[84,82,85,69]),(6,[125]),(0,[])] from c2) (.inr rfl)
   rw [d1]
   dsimp only [zCt,zLc,zLn]
   obtain ⟨r4,g1,g2⟩:=zrH (fs:=fldsM) (j:=1) (s:=1) (f:=⟨⟨[98]⟩,2,false,false,zeroV,0⟩) (by decide) rfl (zNl _) d2
   obtain ⟨r5,i1,i2⟩:=zn9 g2 (.inl rfl)
   obtain ⟨r6,j1,j2⟩:=zn9 i2 (.inr rfl)
   have hpv2:pv 16 tabM.types 2 r4=.ok (leafV 1 1 [] []) r5:=by
    rw [zsi (x:=⟨1,[⟨0,1⟩],conN,[],[],0,false,0⟩) rfl]
    unfold pvK
    rw [if_pos rfl,i1]
   obtain ⟨y,r7,f1,f2,_,f3⟩:=zkO j2
   have:r7=[]:=List.map_eq_nil_iff.1 f3
   subst this
   refine ⟨y,?_,f2⟩
   unfold pFlds
   rw [show (0 + 1:Nat)=1 from rfl,g1]
   dsimp only
   rw [show fldsM[1]?=some ⟨⟨[98]⟩,2,false,false,zeroV,0⟩ from rfl]
   dsimp only
   rw [hpv2]
   dsimp only
   rw [zq9 i2 (by decide),j1]
   dsimp only
   rw [zqs rfl,f1]
   rfl
 obtain ⟨y,k1,k2⟩:=key
 unfold pNote
 rw [e1,if_neg (by simp)]
 dsimp only
 rw [k1]
 dsimp only
 rw [if_pos k2]
structure GoodM (v:Val):Prop where
 bare:bare v=true
 fine:Fine v
 cnt:cnt v=3
theorem ztp (n:Int) (th:Bool):GoodM (valM n th):=by
 unfold valM
 refine ⟨?_,?_,?_⟩
 ·by_cases h:n=4 <;> cases th <;> simp [h,leafV,zeroV,zkI]
 ·refine zee (zNz _) (by simp) λw hw=>?_
  simp only [List.mem_cons,List.not_mem_nil,or_false] at hw
  rcases hw with e | e
  ·rw [e];split
   ·exact ziI
   ·exact zee (zNz _) (zNz _) λz hz=>by cases hz
  ·rw [e];cases th
   ·exact ziI
   ·exact zee (zNz _) (zNz _) λz hz=>by cases hz
 ·by_cases h:n=4 <;> cases th <;> simp [h,zg9,zme]
theorem zwj (n:Int) (th:Bool):Fit tabM 17 0 (valM n th) ↔ (th=true/\0 <= n/\n <= 9):=by
 have hw:∀ n:Int,wthn ⟨true,true,true,false,0,9⟩ n=(decide (0 <= n) && decide (n <= 9)):=λn=>rfl
 constructor
 ·rintro ⟨_,x,hx,hk⟩
  have hx:some seqM=some x:=hx
  cases hx
  have h2:=(hk.resolve_left (show ¬ (7:Int)=12 by decide)).2
  have h7:∀ j:Int,j ≠ 7->¬ (seqM.kind=j):=λj h e=>h e.symm
  have h3:∀ (k:Nat) f w,fldsM[k]?=some f->(valM n th).l[k]?=some w->FldF seqM (Fit tabM 16) k f w:=by
   rcases h2 with ⟨k,_⟩ | ⟨k,_⟩ | ⟨k,_⟩ | ⟨k,_⟩ | ⟨k,_⟩ | ⟨k,_⟩ | ⟨k,_⟩ | ⟨_,_,_,_,h,_⟩
   ·cases k
   ·cases k
   ·cases k
   ·cases k
   ·rcases k with k | k <;> cases k
   ·cases k
   ·cases k
   ·exact h
  have b:=h3 1 _ _ rfl rfl
  have hth:th=true:=by
   cases th with
   | true=>rfl
   | false =>
    rcases b with ⟨_,_,h | h | h⟩ | ⟨h,_⟩
    ·cases h
    ·cases h
    ·exact absurd h (by decide)
    ·exact absurd rfl h
  refine ⟨hth,?_⟩
  by_cases h4:n=4
  ·omega
  ·have a:=h3 0 _ _ rfl rfl
   rw [if_neg h4] at a
   rcases a with ⟨h,_⟩ | ⟨_,⟨_,y,hy,hk⟩,_⟩
   ·cases h
   ·have hy:some (⟨2,[⟨0,2⟩],⟨true,true,true,false,0,9⟩,[],[],0,false,0⟩:GTyp)=some y:=hy
    cases hy
    have h2:=(hk.resolve_left (show ¬ (2:Int)=12 by decide)).2
    rcases h2 with ⟨k,_⟩ | ⟨_,_,h⟩ | ⟨k,_⟩ | ⟨k,_⟩ | ⟨k,_⟩ | ⟨k,_⟩ | ⟨k,_⟩ | ⟨k,_⟩
    ·cases k
    ·rw [Bool.or_eq_true] at h
     have h:=h.resolve_left (by decide)
     change wthn ⟨true,true,true,false,0,9⟩ n=true at h
     rw [hw,zBa] at h
     exact ⟨zOT h.1,zOT h.2⟩
    ·cases k
    ·cases k
    ·rcases k with k | k <;> cases k
    ·cases k
    ·cases k
    ·rcases k with k | k <;> cases k
 ·rintro ⟨rfl,h0,h9⟩
  refine zrO (zIl _) (x:=seqM) rfl rfl rfl (λk f w hf hw'=>?_) rfl
  match k,hf,hw' with
  | 0,hf,hw' =>
   cases hf;cases hw'
   by_cases h4:n=4
   ·rw [if_pos h4]
    exact .inl ⟨rfl,rfl,.inr (.inl rfl)⟩
   ·rw [if_neg h4]
    refine .inr ⟨show (2:Int) ≠ 0 by decide,zrK (by decide) rfl rfl ?_,λ_ e=>h4 (by injection e)⟩
    show (false || wthn ⟨true,true,true,false,0,9⟩ n)=true
    rw [hw,zDT h0,zDT h9];rfl
  | 1,hf,hw'=>cases hf;cases hw';exact there (show (1:Int) ≠ 0 by decide) (zqK (by decide) rfl rfl rfl) rfl
  | k + 2,hf,hw'=>cases hf
open Classical in
theorem zuO {n:Int} (hn:inI64 n) (th:Bool):zgM tabM 0 ⟨brc (ptM n th)⟩=some (if th=true/\0 <= n/\n <= 9 then (valM n th,0,0) else (zeroV,0,13)):=by
 refine T.eqs ?_
 have h:=zwd hn th
 have hg:=ztp n th
 refine zuE zwc.ok (zIl _) (by decide) _ (λp e hp _=>?_) λw r hp _ _=>?_
 ·rw [h] at hp;cases hp
 ·rw [h] at hp
  cases hp
  refine (zrl zvl (i:=0) hg.bare hg.fine (by rw [hg.cnt];decide)).mono λy hy=>?_
  rw [zwj,hg.cnt] at hy
  by_cases hc:th=true/\0 <= n/\n <= 9
  ·rw [if_pos (hy.2 ⟨hc,by decide⟩),if_pos hc]
  ·rw [if_neg λh=>hc (hy.1 h).1,if_neg hc]
theorem zpW (n:Int) (hn:inI64 n) (th:Bool):zfd n th=some true:=by
 refine T.eqs ?_
 unfold zfd
 have hil:(Lib.itoa n).length <= 20:=zjZ hn.1 hn.2
 refine T.eq zu0 (T.eq (zvq hn) (T.abl (by simp only [zLc,zLn];omega) ?_))
 refine T.jp (ι:=Str) (λz=>z.b ++ [32,125]=brc (ptM n th)/\z.b.length <= 100) (λJ k=>T.br (λh=>T.abl (by simp only [zLa,zLc,zLn];omega) (k _ ⟨?_,?_⟩)) λh=>k _ ⟨?_,?_⟩) λz hz=>?_
 ·rw [h]
  show ((123 :: 32 :: 97 :: 32 :: Lib.itoa n) ++ [44,32,98,32,84,82,85,69]) ++ [32,125]=123 :: 32 :: ((97 :: 32 :: Lib.itoa n) ++ [44,32,98,32,84,82,85,69] ++ [32,125])
  rfl
 ·simp only [zLa,zLc,zLn];omega
 ·rw [h];rfl
 ·simp only [zLa,zLc,zLn];omega
 refine T.abl (by simp only [zLc,zLn];omega) ?_
 have hp:=zuO hn th
 rw [hz.1]
 refine T.eq hp ?_
 refine T.or' (T.or' (T.br (λh=>?_) λh=>?_))
 ·have hc:¬ (th=true/\0 <= n/\n <= 9):=λ⟨h1,h2,h3⟩=>by
   rw [h1,zDF (by omega),zDF (by omega)] at h
   cases h
  rw [if_neg hc]
  refine T.eq zqG (T.and' (T.and' (T.and' ?_)))
  refine T.andJ (d:=true) (λJ k=>T.cal (znA (k:=1) (n:=fuel) (by rw [zme];decide) (by unfold fuel;decide) ziI _) λr _ hr=>?_) (T.some rfl)
  rw [hr.2 rfl]
  exact k
 ·rw [Bool.or_eq_false_iff,Bool.or_eq_false_iff] at h
  have h1:th=true:=by simpa using h.1.1
  have h2:=zOF h.1.2
  have h3:=zOF h.2
  rw [if_pos ⟨h1,by omega,by omega⟩]
  have hg:=ztp n th
  refine T.jp (ι:=Val) (λz=>z=valM n th) (λJ k=>T.br (λh4=>T.asr rfl (T.eq (y:=leafV 2 n [] []) rfl (k _ ?_))) λh4=>k _ ?_) λz hz=>?_
  ·unfold valM
   rw [h1,if_pos (zOT h4)];rfl
  ·unfold valM
   rw [h1,if_neg (zOF h4)];rfl
  subst hz
  refine T.eq zqG (T.and' (T.and' ?_))
  refine T.andJ (d:=true) (λJ k=>T.cal (znA (k:=3) (n:=fuel) (by rw [hg.cnt];decide) (by unfold fuel;decide) hg.fine _) λr _ hr=>?_) (T.some rfl)
  rw [hr.2 rfl]
  exact k
end Go.Proofs.Q


/- The laws of single tables: awake, NoteLeaves. No condition: general lemmas. -/
import Derived.Test.YtmahnaanhhojkaaGreatDoorNlA
import Derived.Test.YtmahnaanhhojkaaGreatDoorNlB
import Derived.Test.YtmahnaanhhojkaaGreatDoorNlC
set_option linter.unusedVariables false
set_option linter.unusedSimpArgs false

namespace Go.Proofs.Q
open Go.Sy
set_option linter.unusedVariables false

section leaf
variable {L:List GTok} {t:GTab} {p0 a:Int} {ts:List GTok}
theorem znp {v:Val} {r:List GTok} (h:Sd L a ts) (h2:Sd L (a + 1) r) (hl:r.length + 1=ts.length) (hf:Fine v) (hc:cnt v <= 1000):KR L t p0 ts (.ok v r) (true,v,st L t p0 (a + 1)) :=
 ⟨a + 1,rfl,h2,hf,by omega⟩
theorem zj5 {v:Val} {p e:Int} {b:Bool} {s:GStm} {g:GTab} (h:Sd L a ts) (he:e ≠ 0) (hf:Fine v) (hc:cnt v <= 1000):KR L t p0 ts (.bad p e) (b,v,⟨s,g,p,e⟩):=by
 obtain ⟨_,_,eT,_,_,_⟩:=h.cons
 exact ⟨rfl,rfl,he,hf,by show cnt v <= _;rw [eT,zLc];omega⟩
theorem zfV {k n:Int} {b:List UInt8} (hb:b.length <= 9000):Fine (leafV k n b []):=zdW (by omega) (zNz _) λw hw=>by cases hw
theorem zhS (k n:Int) (b:List UInt8):cnt (leafV k n b []) <= 1000:=by rw [zha];simp
end leaf
theorem zu4 {s:Str} {r:Int × Er} (h:zbf s 10 64=some r):numV s=r.1:=by unfold numV;rw [h]
theorem zoW {s:Str} {r:List UInt8} (h:zdQ s=some r):octV s=r:=by unfold octV;rw [h]
theorem zu2:∃ r,zbf ⟨[]⟩ 10 64=some r:=⟨_,rfl⟩
theorem zvp:zdQ ⟨[]⟩=some []:=by
 refine T.eqs ?_
 unfold zdQ
 exact T.lp (ι:=List UInt8 × Int) (λq=>q=([],0)) (λq=>0) rfl (by omega) λJ q e hJ=>by
  subst e
  exact T.ck (by decide) (T.br (λh=>by cases h) λ_=>T.some rfl)
theorem zq2 {L:List GTok} {a:Int} {ts:List GTok} (h:Sd L a ts) {k:Int} {s:Str} {r:List GTok} (e:pOf k ts=some (s,r)) (hk:k ≠ 0):∃ y ∈ L,y.kind=k/\y.text=s/\Sd L (a + 1) r/\r.length + 1=ts.length:=by
 obtain ⟨y,e1,e2,e3⟩:=zua e
 obtain ⟨h1,h2⟩:=h.next e1 (by rw [e2];exact hk)
 have hm:y ∈ L.drop a.toNat:=by rw [h.dr,e1];exact zMs
 exact ⟨y,List.mem_of_mem_drop hm,e2,e3,h1,h2⟩
set_option maxHeartbeats 1000000 in
theorem pvP {t:GTab} (ht:TOk t.types) {L:List GTok} {p0:Int} (hG:∀ y ∈ L,TokG y):∀ (h n:Nat) (i d:Int),0 <= d->d + h=17->5 * h + 5 <= n->0 <= i->i < t.types.length->Rd L t p0 (pv h t.types i) λs=>za7 n s i d:=by
 intro h
 induction h with
 | zero =>
  intro n i d d0 hd hn i0 i1 a ts A
  obtain ⟨n,rfl⟩:∃ n',n=n' + 1:=⟨n - 1,by omega⟩
  rw [zjI]
  unfold zc2
  refine T.br (λ_=>T.eq (zlc A 5) (T.some ⟨rfl,rfl,rfl,by decide,zoO,?_⟩)) λh=>absurd (zOF h) (by omega)
  obtain ⟨_,_,eT,_,_,_⟩:=A.cons
  show cnt zeroV <= _
  rw [zqu,eT,zLc];omega
 | succ h ih =>
  intro n i d d0 hd hn i0 i1 a ts A
  obtain ⟨n,rfl⟩:∃ n',n=n' + 4:=⟨n - 4,by omega⟩
  rw [zjI]
  unfold zc2
  refine T.br (λh=>absurd (zOT h) (by omega)) λ_=>T.or' (T.br (λh=>?_) λ_=>?_)
  ·rw [Bool.or_eq_true] at h
   rcases h with h | h
   ·exact absurd (zOT h) (by omega)
   ·have h:(t.types.length:Int) <= i:=zOT h
    omega
  refine T.get i0 i1 λx hx=>?_
  have hx:t.types[i.toNat]?=some x:=hx
  have hxm:x ∈ t.types:=List.mem_of_getElem? hx
  have hfl:=ht.fl x hxm
  have hil:=ht.il x hxm
  have hkd:=ht.kd x hxm
  rw [zvO hx]
  obtain ⟨R,eR⟩:∃ R,R=pvK (pv h t.types) x ts:=⟨_,rfl⟩
  rw [<- eR]
  refine T.jp (KR L t p0 ts R) (λJ k=>?_) λq hq=>?_
  ·have kk:∀ {R'},R=R'->∀ q,KR L t p0 ts R' q->T (VR L t p0 ts R) (J q):=λe q hq=>k q (e ▸ hq)
   unfold pvK at eR
   refine T.br (λhk=>?_) λh1=>?_
   ·have hk:=zOT hk
    rw [if_pos hk] at eR
    refine T.eq (zs4 A _) ?_
    cases h1:pIs [84,82,85,69] ts with
    | some r =>
     obtain ⟨A1,l1⟩:=A.is h1
     rw [h1] at eR
     refine T.br (λ_=>kk eR _ ?_) λh=>by cases h
     rw [hk];exact znp A A1 l1 (zfV (zNz _)) (zhS _ _ _)
    | none =>
     rw [h1] at eR
     refine T.br (λh=>by cases h) λ_=>T.eq (zlb A _) (kk eR _ ?_)
     rw [hk]
     cases h2:pIs [70,65,76,83,69] ts with
     | some r =>
      obtain ⟨A1,l1⟩:=A.is h2
      exact znp A A1 l1 (zfV (zNz _)) (zhS _ _ _)
     | none=>exact zj5 A (by decide) (zfV (b:=[]) (zNz _)) (zhS _ _ _)
   have h1:=zOF h1
   rw [if_neg h1] at eR
   refine T.br (λhk=>?_) λh4=>?_
   ·have hk:=zOT hk
    rw [if_pos hk] at eR
    refine T.eq (zlb A _) (kk eR _ ?_)
    rw [hk]
    cases h2:pIs [78,85,76,76] ts with
    | some r =>
     obtain ⟨A1,l1⟩:=A.is h2
     exact znp A A1 l1 (zfV (zNz _)) (zhS _ _ _)
    | none=>exact zj5 A (by decide) (zfV (b:=[]) (zNz _)) (zhS _ _ _)
   have h4:=zOF h4
   rw [if_neg h4] at eR
   refine T.br (λhk=>?_) λh2=>?_
   ·have hk:=zOT hk
    rw [if_pos hk] at eR
    refine T.eq (zwe A 3) ?_
    cases h3:pOf 3 ts with
    | some q =>
     obtain ⟨s,r⟩:=q
     obtain ⟨y,ym,y1,y2,A1,l1⟩:=zq2 A h3 (by decide)
     obtain ⟨z,hz⟩:=(hG y ym).num y1
     rw [y2] at hz
     rw [h3] at eR
     refine T.eq hz (kk eR _ ?_)
     rw [hk,<- zu4 hz]
     exact znp A A1 l1 (zfV (zNz _)) (zhS _ _ _)
    | none =>
     rw [h3] at eR
     obtain ⟨z,hz⟩:=zu2
     refine T.eq hz (kk eR _ ?_)
     exact zj5 A (by decide) (zfV (b:=[]) (zNz _)) (zhS _ _ _)
   have h2:=zOF h2
   rw [if_neg h2] at eR
   refine T.br (λhk=>?_) λh3=>?_
   ·have hk:=zOT hk
    rw [if_pos hk] at eR
    refine T.eq (zwg A x (by omega)) (kk eR _ ?_)
    rw [hk]
    cases h3:pItem x ts with
    | some q =>
     obtain ⟨m,r⟩:=q
     cases ts with
     | nil=>cases h3
     | cons y r' =>
      change (bif decide (y.kind=2) then (iidx y.text x.items).map (λj=>(j,r')) else none)=some (m,r) at h3
      cases hk2:decide (y.kind=2) with
      | false=>rw [hk2] at h3;cases h3
      | true =>
       rw [hk2,zCt] at h3
       obtain ⟨j',_,e2⟩:=Option.map_eq_some_iff.1 h3
       cases e2
       obtain ⟨A1,l1⟩:=A.next rfl (by have:=zOT hk2;omega)
       exact znp A A1 l1 (zfV (zNz _)) (zhS _ _ _)
    | none=>exact zj5 A (by decide) (zfV (b:=[]) (zNz _)) (zhS _ _ _)
   have h3:=zOF h3
   rw [if_neg h3] at eR
   refine T.br (λhk=>?_) λh5=>?_
   ·have hk:=zOT hk
    rw [if_pos hk] at eR
    refine T.eq (zwe A 4) ?_
    cases h3:pOf 4 ts with
    | some q =>
     obtain ⟨s,r⟩:=q
     obtain ⟨y,ym,y1,y2,A1,l1⟩:=zq2 A h3 (by decide)
     obtain ⟨z,hz,hzl⟩:=(hG y ym).hex y1
     rw [y2] at hz
     rw [h3] at eR
     refine T.eq hz (kk eR _ ?_)
     rw [hk,<- zoW hz]
     exact znp A A1 l1 (zfV (by rw [zoW hz];exact hzl)) (zhS _ _ _)
    | none =>
     rw [h3] at eR
     refine T.eq zvp (kk eR _ ?_)
     exact zj5 A (by decide) (zfV (b:=[]) (zNz _)) (zhS _ _ _)
   have h5:=zOF h5
   rw [if_neg h5] at eR
   refine T.br (λhk=>?_) λh6=>?_
   ·have hk:=zOT hk
    rw [if_pos hk] at eR
    refine T.eq (zwe A 7) ?_
    cases h3:pOf 7 ts with
    | some q =>
     obtain ⟨s,r⟩:=q
     obtain ⟨y,ym,y1,y2,A1,l1⟩:=zq2 A h3 (by decide)
     have hz:=(hG y ym).len
     rw [y2] at hz
     rw [h3] at eR
     refine T.abl (by dsimp only;omega) (kk eR _ ?_)
     rw [hk]
     exact znp A A1 l1 (zfV hz) (zhS _ _ _)
    | none =>
     rw [h3] at eR
     refine T.abl (zNz _) (kk eR _ ?_)
     exact zj5 A (by decide) (zfV (b:=[]) (zNz _)) (zhS _ _ _)
   have h6:=zOF h6
   rw [if_neg h6] at eR
   refine T.br (λhk=>?_) λh10=>?_
   ·have hk:=zOT hk
    rw [if_pos hk] at eR
    obtain ⟨o0,o1⟩:=ht.ko x hxm hk
    refine T.cal (zuY (n:=n + 1) (x:=x) (d:=d) (v0:=Val.mk x.kind 0 [] [] 0 []) (by omega) (ih (n + 1) x.of (d + 1) (by omega) (by omega) (by omega) o0 o1) A rfl) λy _ hy=>kk eR _ ?_
    generalize pLst (pv h t.types x.of) ts=Q at hy ⊢
    cases Q with
    | ok l rest =>
     obtain ⟨a',e1,A1,f1,g1,c1⟩:=hy
     subst e1
     simp only [Val.kind_mk,Val.n_mk,Val.b_mk,Val.rule_mk,Val.more_mk]
     rw [hk]
     exact ⟨a',rfl,A1,zdW (zNz _) (by omega) f1,by rw [zha];omega⟩
    | bad p e =>
     obtain ⟨e1,e2,e3,e4,l,e5,f1,g1,c1⟩:=hy
     refine ⟨e2,e3,e4,?_,?_⟩
     ·show Fine y.2.2
      rw [e5];exact zdW (zNz _) (by omega) f1
     ·show cnt y.2.2 <= _
      rw [e5]
      have:=zha x.kind 0 [] l
      unfold leafV at this
      simp only [Val.kind_mk,Val.n_mk,Val.b_mk,Val.rule_mk,Val.more_mk]
      rw [this];omega
   have h10:=zOF h10
   rw [if_neg h10] at eR
   refine T.br (λhk=>?_) λh9=>?_
   ·have hk:=zOT hk
    rw [if_pos hk] at eR
    refine T.eq (zrI A x.fields (by omega) 0 (by omega)) ?_
    cases hp:pFld x.fields 0 ts with
    | none =>
     rw [hp] at eR
     refine T.jp0 (T.br (λh=>by cases h) λ_=>T.br (λh=>by cases h) λ_=>kk eR _ ?_)
     exact zj5 A (by decide) (zfV (b:=[]) (zNz _)) (zhS _ _ _)
    | some q =>
     obtain ⟨j,r⟩:=q
     rw [hp] at eR
     have hp':=hp
     obtain ⟨y0,r0,ey,_,_,_⟩:=A.cons
     rw [ey] at hp'
     change (bif decide (y0.kind=2) then (fidx x.fields y0.text (x.fields.length - 0) 0).map (λj=>(j,r0)) else none)=some (j,r) at hp'
     cases hk2:decide (y0.kind=2) with
     | false=>rw [hk2] at hp';cases hp'
     | true =>
      rw [hk2,zCt] at hp'
      obtain ⟨j',hj,e2⟩:=Option.map_eq_some_iff.1 hp'
      cases e2
      obtain ⟨A1,l1⟩:=A.next ey (by have:=zOT hk2;omega)
      obtain ⟨_,y,hy,_⟩:=zrF hj
      have hjl:=(List.getElem?_eq_some_iff.1 hy).1
      have egy:getI x.fields (j:Int)=some y:=by rw [zdS (by omega) (by omega)];exact congrArg some (List.getElem?_eq_some_iff.1 hy).2
      refine T.jp0 (T.br (λ_=>T.eq (zlb A1 [58]) ?_) λh=>by cases h)
      dsimp only at eR ⊢
      cases h58:pIs [58] r with
      | none =>
       rw [h58] at eR
       refine T.br (λh=>by cases h) λ_=>kk eR _ ?_
       exact zj5 A (by decide) (zfV (b:=[]) (zNz _)) (zhS _ _ _)
      | some r2 =>
       obtain ⟨A2,l2⟩:=A1.is h58
       rw [h58] at eR
       dsimp only at eR
       rw [hy] at eR
       dsimp only at eR
       obtain ⟨y0',y1'⟩:=ht.kf x hxm y (List.mem_of_getElem? hy)
       refine T.br (λ_=>T.eq egy (T.ck (by omega) (T.cal (ih (n + 3) y.ty (d + 1) (by omega) (by omega) (by omega) y0' y1' _ _ A2) λz _ hz=>kk eR _ ?_))) λh=>by cases h
       rw [hk]
       cases hR:pv h t.types y.ty r2 with
       | ok w rest =>
        rw [hR] at hz
        obtain ⟨a2,e1,A3,f1,c1⟩:=hz
        subst e1
        refine ⟨a2,rfl,A3,zdW (zNz _) (by simp) (λw' hw'=>by rw [zMo.1 hw'];exact f1),?_⟩
        rw [zha,List.map_singleton,List.sum_singleton];omega
       | bad p e =>
        rw [hR] at hz
        obtain ⟨e1,e2,e3,e4,e5,e6⟩:=hz
        refine ⟨e2,e3,e4,zdW (k:=9) (n:=(j:Int)) (zNz _) (by simp) (λw' hw'=>by rw [zMo.1 hw'];exact e5),?_⟩
        show cnt (leafV 9 (j:Int) [] [z.1]) <= _
        rw [zha,List.map_singleton,List.sum_singleton];omega
   have h9:=zOF h9
   rw [if_neg h9] at eR
   refine T.jp (λb=>b=true) (λJ2 k2=>T.br (λh=>k2 _ h) λh=>k2 _ (zDT (by have:=zOF h;omega))) λb hb=>?_
   subst hb
   refine T.br (λ_=>?_) λh=>by cases h
   refine T.cal (zwc (n:=n) (x:=x) (d:=d) (v0:=Val.mk x.kind 0 [] [] 0 []) (f:=pv h t.types) (by omega) hfl (λy hy=>by
    obtain ⟨y0,y1⟩:=ht.kf x hxm y hy
    exact ih n y.ty (d + 1) (by omega) (by omega) (by omega) y0 y1) A) λy _ hy=>kk eR _ ?_
   generalize pSeq x.fields (pv h t.types) ts=Q at hy ⊢
   cases Q with
   | ok l rest =>
    obtain ⟨a',e1,A1,f1,g1,c1⟩:=hy
    subst e1
    exact ⟨a',rfl,A1,zdW (zNz _) (by omega) f1,by rw [zha];omega⟩
   | bad p e =>
    obtain ⟨e1,e2,e3,e4,l,e5,f1,g1,c1⟩:=hy
    refine ⟨e2,e3,e4,?_,?_⟩
    ·show Fine y.2.2
     rw [e5];exact zdW (zNz _) (by omega) f1
    ·show cnt y.2.2 <= _
     rw [e5]
     have:=zha x.kind 0 [] l
     unfold leafV at this
     simp only [Val.kind_mk,Val.n_mk,Val.b_mk,Val.rule_mk,Val.more_mk]
     rw [this];omega
  ·refine T.and' (T.some ?_)
   cases R with
   | ok v rest =>
    obtain ⟨a',e1,A1,f1,c1⟩:=hq
    subst e1
    exact ⟨a',rfl,A1,f1,c1⟩
   | bad p e =>
    obtain ⟨e1,e2,e3,f1,c1⟩:=hq
    refine ⟨?_,e1,e2,e3,f1,c1⟩
    show (q.1 && decide (q.2.2.e=0))=false
    rw [e2,zDF e3,Bool.and_false]
end Go.Proofs.Q


namespace Go.Proofs.Q
open Go.Sy
set_option linter.unusedVariables false

/-! ### Octets as digits of 16 -/
def hexv (c:UInt8):Nat:=if c.toNat <= 57 then c.toNat - 48 else c.toNat - 55
def hexP:List UInt8->List UInt8
 | a :: b :: r=>UInt8.ofNat (hexv a * 16 + hexv b) :: hexP r
 | _=>[]
def hexL:List UInt8:=[48,49,50,51,52,53,54,55,56,57,65,66,67,68,69,70]
def hexChk (a b:UInt8):Bool:=match zdz ⟨[a,b]⟩ 16 8 with
 | some r=>decide (r.1.toUInt8=UInt8.ofNat (hexv a * 16 + hexv b))
 | none=>false
theorem zu3:(hexL.all λa=>hexL.all λb=>hexChk a b)=true:=by kernel_rfl
theorem zsq:∀ X:Fin 256,isHex (UInt8.ofNat X.val)=true->UInt8.ofNat X.val ∈ hexL:=by decide +kernel
theorem zrX {c:UInt8} (h:isHex c=true):c ∈ hexL:=by
 have:=zsq ⟨c.toNat,c.toNat_lt⟩
 simp only [UInt8.ofNat_toNat] at this
 exact this h
theorem zwG {a b:UInt8} (ha:isHex a=true) (hb:isHex b=true):T (λr=>r.1.toUInt8=UInt8.ofNat (hexv a * 16 + hexv b)) (zdz ⟨[a,b]⟩ 16 8):=by
 have h:=List.all_eq_true.1 (List.all_eq_true.1 zu3 a (zrX ha)) b (zrX hb)
 unfold hexChk at h
 cases hp:zdz ⟨[a,b]⟩ 16 8 with
 | none=>rw [hp] at h;cases h
 | some r=>rw [hp] at h;exact ⟨r,rfl,zOT h⟩
theorem zp2:∀ l:List UInt8,(hexP l).length <= l.length
 | []=>zNl _
 | [_]=>zNz _
 | a :: b :: r=>by
  have:=zp2 r
  show (hexP r).length + 1 <= r.length + 1 + 1
  omega
theorem zoH {l:List UInt8} (h:l.all isHex=true) (h2:l.length % 2=0) (hl:l.length <= 1000000):zdQ ⟨l⟩=some (hexP l):=by
 refine T.eqs ?_
 unfold zdQ
 refine T.lp (ι:=List UInt8 × Int) (λq=>0 <= q.2/\q.2 <= (l.length:Int)/\q.2.toNat % 2=0/\q.1.length <= q.2.toNat/\q.1 ++ hexP (l.drop q.2.toNat)=hexP l) (λq=>((l.length:Int) - q.2).toNat) ⟨zIl _,by dsimp only;omega,rfl,zNl _,rfl⟩ (by dsimp only;omega) λJ q ⟨q0,q1,q2,q3,q4⟩ hJ=>?_
 obtain ⟨acc,k⟩:=q
 dsimp only at q0 q1 q2 q3 q4 hJ ⊢
 refine T.ck (by omega) (T.br (λhb=>?_) λhb=>?_)
 ·have hb:=zOT hb
  refine T.ck (by omega) (T.asd (by omega) ?_)
  obtain ⟨a,ha⟩:∃ a,l[k.toNat]?=some a:=⟨_,List.getElem?_eq_getElem (by omega)⟩
  obtain ⟨b,hb'⟩:∃ b,l[k.toNat + 1]?=some b:=⟨_,List.getElem?_eq_getElem (by omega)⟩
  have hd:l.drop k.toNat=a :: b :: l.drop (k.toNat + 2):=by
   obtain ⟨h1,h2⟩:=List.getElem?_eq_some_iff.1 ha
   obtain ⟨h3,h4⟩:=List.getElem?_eq_some_iff.1 hb'
   rw [List.drop_eq_getElem_cons h1,h2,List.drop_eq_getElem_cons h3,h4]
  have e1:((l.take (k + 2).toNat).drop k.toNat)=[a,b]:=by
   rw [show (k + 2).toNat=k.toNat + 2 by omega,List.drop_take,hd,show k.toNat + 2 - k.toNat=2 by omega];rfl
  rw [e1]
  have ha':=List.all_eq_true.1 h a (List.mem_of_getElem? ha)
  have hb2:=List.all_eq_true.1 h b (List.mem_of_getElem? hb')
  refine T.cal (zwG ha' hb2) λr _ hr=>T.abl (by simp only [zLs];omega) (T.ck (by omega) (hJ _ ⟨by dsimp only;omega,by dsimp only;omega,by dsimp only;omega,?_,?_⟩ (by dsimp only;omega)))
  ·dsimp only
   rw [zLa,zLs];omega
  ·dsimp only
   rw [<- q4,hd,show (k + 2).toNat=k.toNat + 2 by omega,hr,zLA];rfl
 ·have hb:=zOF hb
  refine T.some ?_
  have e:l.drop k.toNat=[]:=zDn (by omega)
  rw [<- q4,e]
  exact (List.append_nil _).symm

/-! ### What is known of the signs of a text -/
theorem zoN (n:Nat):∀ (f:Nat) (b:List UInt8) (acc:List GTok),(toksF n f b acc).1.length <= acc.length + b.length + 1
 | 0,b,acc=>by simp [toksF]
 | f + 1,b,acc=>by
  rw [zgV]
  have hwl:=zfp b .out
  cases hwh:wh .out b with
  | nil=>simp
  | cons c r =>
   rw [hwh] at hwl
   simp only
   cases ho:oneS (c :: r) with
   | none=>simp
   | some p =>
    obtain ⟨k,t,r'⟩:=p
    simp only
    have ih:=zoN n f r' (acc ++ [⟨k,⟨t⟩,(n:Int) - ((c :: r).length:Int)⟩])
    have hol:=zkm ho
    simp only [zLa,zLs] at ih
    omega
theorem ztW (b:List UInt8):(toks b).1.length <= 8001:=by
 unfold toks
 by_cases h:8000 < b.length
 ·rw [zDT h];simp
 ·rw [zDF h,zCf]
  have:=zoN b.length (b.length + 1) b []
  simp only [zLn] at this
  omega
theorem zmY:∀ (b:List UInt8) (f:Bool) (acc t r:List UInt8),qd f b acc=some (t,r)->t.length <= acc.length + b.length
 | [],f,acc,t,r,h=>by cases f <;> simp [qd] at h
 | c :: b,true,acc,t,r,h=>by
  simp only [qd] at h
  have:=zmY b _ _ _ _ h
  rw [zLa,zLs] at this
  rw [zLc];omega
 | c :: b,false,acc,t,r,h=>by
  simp only [qd] at h
  by_cases h1:c=34
  ·simp only [zDT h1,zCt] at h
   by_cases h2:hd b=34
   ·simp only [zDT h2,zCt] at h
    have:=zmY b _ _ _ _ h
    rw [zLc];omega
   ·simp only [zDF h2,zCf] at h
    cases hv:Lib.validD acc with
    | true=>rw [hv] at h;simp at h;rw [<- h.1];simp
    | false=>rw [hv] at h;cases h
  ·simp only [zDF h1,zCf] at h
   have:=zmY b _ _ _ _ h
   rw [zLa,zLs] at this
   rw [zLc];omega
theorem zr3:∀ d:List UInt8,(d.take (hx d)).all isHex=true
 | []=>rfl
 | c :: r=>by
  rw [zpz]
  cases h:isHex c with
  | false=>rfl
  | true =>
   simp only [zCt,List.take_succ_cons,List.all_cons,h,zr3 r];rfl
structure OneG (k:Int) (t:List UInt8) (n:Nat):Prop where
 k0:k ≠ 0
 len:t.length <= n
 hex:k=4->t.all isHex=true/\t.length % 2=0
theorem zrc {b t r:List UInt8} {k:Int} (h:oneS b=some (k,t,r)):OneG k t b.length:=by
 unfold oneS at h
 simp only at h
 cases h1:zaO (hd b) with
 | true =>
  rw [h1,zCt] at h
  cases h2:nmBad b with
  | true=>rw [h2] at h;cases h
  | false =>
   rw [h2,zCf] at h
   injection h with h;injection h with h3 h;injection h with h4 h5
   subst h3;subst h4
   refine ⟨?_,by rw [zLt];omega,?_⟩
   ·cases isWord (List.take (nm b) b) <;> cases decide (hd b <= 90) <;> decide
   ·cases isWord (List.take (nm b) b) <;> cases decide (hd b <= 90) <;> intro h <;> cases h
 | false =>
  rw [h1,zCf] at h
  cases h2:(isDigit (hd b) || (decide (hd b=45) && isDigit (hd (b.drop 1)))) with
  | true =>
   rw [h2,zCt] at h
   cases hn:numLen b with
   | none=>rw [hn] at h;cases h
   | some n =>
    rw [hn] at h
    injection h with h;injection h with h3 h;injection h with h4 h5
    subst h3;subst h4
    exact ⟨by decide,by rw [zLt];omega,λh=>by cases h⟩
  | false =>
   rw [h2,zCf] at h
   cases h3:decide (hd b=39) with
   | true =>
    rw [h3,zCt] at h
    cases h4:hexBad (b.drop 1) with
    | true=>rw [h4] at h;cases h
    | false =>
     rw [h4,zCf] at h
     injection h with h;injection h with h5 h;injection h with h6 h7
     subst h5;subst h6
     refine ⟨by decide,by rw [zLt,zLd];omega,λ_=>⟨zr3 _,?_⟩⟩
     unfold hexBad at h4
     rw [Bool.or_eq_false_iff,Bool.or_eq_false_iff] at h4
     have h8:hx (b.drop 1) % 2=0:=by simpa using h4.1.1
     have:=zvN (b.drop 1)
     rw [zLt];omega
   | false =>
    rw [h3,zCf] at h
    cases h4:decide (hd b=34) with
    | true =>
     rw [h4,zCt] at h
     cases hq:qd false (b.drop 1) [] with
     | none=>rw [hq] at h;cases h
     | some q =>
      obtain ⟨t',r'⟩:=q
      rw [hq] at h
      injection h with h;injection h with h5 h;injection h with h6 h7
      subst h5;subst h6
      have:=zmY _ _ _ _ _ hq
      simp only [zLn,zLd] at this
      exact ⟨by decide,by omega,λh=>by cases h⟩
    | false =>
     rw [h4,zCf] at h
     cases h5:decide (0 < sg b) with
     | false=>rw [h5] at h;cases h
     | true =>
      rw [h5,zCt] at h
      injection h with h;injection h with h6 h;injection h with h7 h8
      subst h6;subst h7
      exact ⟨by decide,by rw [zLt];omega,λh=>by cases h⟩
inductive Src:List GTok->Prop
 | fin {a:Int}:Src [⟨0,⟨[]⟩,a⟩]
 | cons {t:GTok} {l:List GTok}:OneG t.kind t.text.b 8000->Src l->Src (t :: l)
theorem zoJ (n:Nat):∀ (f:Nat) (b:List UInt8) (acc:List GTok),b.length < f->b.length <= 8000->(∃ l,toksF n f b acc=(acc ++ l,0,0)/\Src l) \/ (toksF n f b acc).2.2 ≠ 0
 | 0,b,acc,h,_=>by omega
 | f + 1,b,acc,h,h8=>by
  rw [zgV]
  have hwl:=zfp b .out
  cases hwh:wh .out b with
  | nil=>exact .inl ⟨_,rfl,.fin⟩
  | cons c r =>
   rw [hwh] at hwl
   simp only
   cases ho:oneS (c :: r) with
   | none=>exact .inr (by simp)
   | some q =>
    obtain ⟨k,t,r'⟩:=q
    simp only
    have hol:=zkm ho
    have hf:=zrc ho
    rcases zoJ n f r' (acc ++ [⟨k,⟨t⟩,(n:Int) - ((c :: r).length:Int)⟩]) (by omega) (by omega) with ⟨l,e,g⟩ | e
    ·exact .inl ⟨_ :: l,by rw [e,zLA];rfl,.cons ⟨hf.k0,Nat.le_trans hf.len (by omega),hf.hex⟩ g⟩
    ·exact .inr e
theorem ztm (b:List UInt8) (h:(toks b).2.2=0):Src (toks b).1:=by
 unfold toks at h ⊢
 by_cases hl:8000 < b.length
 ·rw [zDT hl] at h;simp at h
 ·rw [zDF hl,zCf] at h ⊢
  rcases zoJ b.length (b.length + 1) b [] (by omega) (by omega) with ⟨l,e,g⟩ | e
  ·rw [e];simpa using g
  ·exact absurd h e
theorem Src.ends {l:List GTok} (h:Src l):∃ k t,l=k ++ [t]/\t.kind=0:=by
 induction h with
 | fin=>exact ⟨[],_,rfl,rfl⟩
 | @cons t l _ _ ih=>obtain ⟨k,u,e,h⟩:=ih;exact ⟨t :: k,u,by rw [e];rfl,h⟩
theorem zuQ (s:Str) (h:s.b.length <= 9000):∃ r,zbf s 10 64=some r:=by
 unfold zbf
 rw [show (decide ((10:Int)=10) && decide ((64:Int)=64) && Nat.ble s.b.length 281474976710656)=true by rw [Nat.ble_eq_true_of_le (by omega)];rfl,zCt]
 cases Lib.parseIntB 64 s.b <;> exact ⟨_,rfl⟩
theorem ztV {t:GTok} (h:OneG t.kind t.text.b 8000):TokG t:=by
 have hl:=h.len
 have hx:=zp2 t.text.b
 exact ⟨by omega,λ_=>zuQ _ (by omega),λh4=>⟨hexP t.text.b,zoH (l:=t.text.b) (h.hex h4).1 (h.hex h4).2 (by omega),by omega⟩⟩
theorem Src.good {l:List GTok} (h:Src l):∀ y ∈ l,TokG y:=by
 induction h with
 | fin=>intro y hy;rw [zMo.1 hy];exact ⟨zNz _,(λh=>by cases h),λh=>by cases h⟩
 | cons h1 _ ih =>
  intro y hy
  rcases List.mem_cons.1 hy with e | e
  ·rw [e];exact ztV h1
  ·exact ih y e
theorem zut {l:List UInt8} (h:l.all isHex=true) (h2:l.length % 2=0) (hl:l.length <= 1000000):octV ⟨l⟩=hexP l:=zoW (zoH h h2 hl)
theorem Src.sd {l:List GTok} (h:Src l) (hl:l.length <= 8001):Sd l 0 l:=⟨zIl _,by omega,rfl,h.ends⟩
noncomputable def pNote (l:List GTyp) (i:Int) (b:List UInt8):PR Val :=
 if (toks b).2.2 ≠ 0 then .bad (toks b).2.1 (toks b).2.2
 else match pv 17 l i (toks b).1 with
  | .bad p e=>.bad p e
  | .ok v r=>match r with
   | []=>.bad 0 7
   | t :: r'=>if t.kind=0 then .ok v [] else .bad t.at_ 7
theorem zuF {t:GTab} (ht:TOk t.types) {i:Int} (i0:0 <= i) (i1:i < t.types.length) (s:Str) {R:Val × Int × Int->Prop}
    (hb:∀ p e,pNote t.types i s.b=.bad p e->e ≠ 0->R (zeroV,p,e))
    (hk:∀ v r,pNote t.types i s.b=.ok v r->Fine v->cnt v <= 10000000->T (λy=>if y=true then R (v,0,0) else R (zeroV,0,13)) (zfY t i v)):T R (zgW t i s):=by
  unfold zgW
  refine T.eq (ctokens s) (T.br (λh=>?_) λh=>?_)
  · have h:¬ (toks s.b).2.2=0:=by simpa using h
    exact T.some (hb _ _ (by unfold pNote;rw [if_pos h]) h)
  have h:(toks s.b).2.2=0:=by simpa using h
  have hs:=ztm s.b h
  have hl:=ztW s.b
  have hA:=hs.sd hl
  unfold pNote at hb hk
  rw [if_neg (show ¬ (toks s.b).2.2 ≠ 0 from λk=>k h)] at hb hk
  refine T.or' (T.br (λh=>?_) λ_=>?_)
  · rw [Bool.or_eq_true] at h
    rcases h with h | h
    · exact absurd (zOT h) (by omega)
    · exact absurd (zOT h) (by omega)
  refine T.cal (pvP ht (p0:=0) hs.good 17 fuel i 0 (zIl _) (by decide) (by unfold fuel;decide) i0 i1 0 _ hA) λy _ hy=>?_
  cases hR:pv 17 t.types i (toks s.b).1 with
  | bad p e =>
    rw [hR] at hy hb
    obtain ⟨y1,y2,y3,y4,_⟩:=hy
    refine T.jp (λq=>q=(false,y.2.2)) (λJ k=>T.br (λh=>by rw [y1] at h;cases h) λ_=>k _ rfl) λq hq=>?_
    subst hq
    refine T.jp (λq=>q=(false,y.2.2)) (λJ k=>T.br (λh=>by cases h) λ_=>k _ (by rw [y1])) λq hq=>?_
    subst hq
    refine T.br (λ_=>T.some ?_) λh=>by cases h
    dsimp only
    rw [y2,y3]
    exact hb _ _ rfl y4
  | ok v r =>
    rw [hR] at hy hb hk
    obtain ⟨a',e1,A1,f1,c1⟩:=hy
    subst e1
    obtain ⟨z,r',er,e2,_,_⟩:=A1.cons
    obtain ⟨z',r'',er',e4⟩:=znO (t:=t) (p:=0) A1
    rw [er] at er';cases er'
    subst er
    dsimp only at hb hk
    have hc:cnt v <= 10000000:=by omega
    refine T.jp (λq=>q=(!decide (z.kind=0),st (toks s.b).1 t 0 a')) (λJ k=>T.br (λ_=>T.eq e4 (k _ rfl)) λh=>by cases h) λq hq=>?_
    subst hq
    by_cases hz:z.kind=0
    · rw [if_pos hz] at hb hk
      rw [zDT hz]
      refine T.jp (λq=>q=(true,st (toks s.b).1 t 0 a')) (λJ k=>T.br (λh=>by cases h) λ_=>k _ rfl) λq hq=>?_
      subst hq
      refine T.br (λh=>by cases h) λ_=>T.cal (hk _ _ rfl f1 hc) λb _ hb'=>T.br (λh=>T.some ?_) λh=>T.some ?_
      · have:b=false:=by simpa using h
        subst this
        rw [if_neg (by decide)] at hb'
        exact hb'
      · have:b=true:=by simpa using h
        subst this
        rw [if_pos rfl] at hb'
        exact hb'
    · rw [if_neg hz] at hb hk
      rw [zDF hz]
      refine T.jp (λq=>q.1=false/\q.2.at_=z.at_/\q.2.e=7) (λJ k=>T.br (λ_=>T.eq (zlc A1 7) (k _ ⟨rfl,rfl,rfl⟩)) λh=>by cases h) λq hq=>?_
      obtain ⟨q1,q2,q3⟩:=hq
      refine T.br (λ_=>T.some ?_) λh=>by rw [q1] at h;cases h
      rw [q2,q3]
      exact hb _ _ rfl (by decide)
end Go.Proofs.Q


namespace Go.Proofs.Q
open Go.Sy
set_option linter.unusedVariables false

abbrev KS:=List (Int × List UInt8)
def stp (x:List UInt8):Prop:=hd x=0/\x=[] \/ hd x=32 \/ hd x=44
structure Stp (x:List UInt8):Prop where
 sN:stopN x=true
 dg:isDigit (hd x)=false
 lt:zaO (hd x)=false
 q:hd x ≠ 34
theorem zmm {x:List UInt8} (h:stp x):Stp x:=by
 rcases h with ⟨_,h⟩ | h | h
 ·subst h;exact ⟨rfl,rfl,rfl,(by decide:(0:UInt8) ≠ 34)⟩
 ·cases x with
  | nil=>cases h
  | cons c r =>
   have h:c=32:=h
   subst h;exact ⟨rfl,rfl,rfl,(by decide:(32:UInt8) ≠ 34)⟩
 ·cases x with
  | nil=>cases h
  | cons c r =>
   have h:c=44:=h
   subst h;exact ⟨rfl,rfl,rfl,(by decide:(44:UInt8) ≠ 34)⟩
def Lx (p:List UInt8) (q:KS):Prop:=∀ x ks,stp x->KT x ks->KT (p ++ x) (q ++ ks)
/-! ### Names -/
def nmOk (s:List UInt8):Bool:=zaO (hd s) && nmAll s 0 && !decide (s.getLast?=some 45) && decide (s.length <= 60) && decide (kindN s=2)
theorem zrm {c:UInt8} {r s:List UInt8} (h:c ≠ 45):inName c r=inName c s:=by
 unfold inName
 rw [zDF h];rfl
theorem zmJ:∀ {w:List UInt8} {d e:UInt8},w.getLast? ≠ some 45->nmAll w d=nmAll w e
 | [],_,_,_=>rfl
 | [c],d,e,h=>by
  have hc:c ≠ 45:=λh2=>h (by rw [h2];rfl)
  show (inName c [d] && true)=(inName c [e] && true)
  rw [zrm hc]
 | c :: a :: w,d,e,h=>by
  have ih:=zmJ (w:=a :: w) (d:=d) (e:=e) (by rw [List.getLast?_cons_cons] at h;exact h)
  show (inName c ((a :: w) ++ [d]) && nmAll (a :: w) d)=(inName c ((a :: w) ++ [e]) && nmAll (a :: w) e)
  rw [ih,zoS (show hd ((a :: w) ++ [d])=hd ((a :: w) ++ [e]) from rfl)]
theorem zpg {s x:List UInt8} {ks:KS} (h:nmOk s=true) (hx:Stp x) (hk:KT x ks):KT (s ++ x) ((2,s) :: ks):=by
 unfold nmOk at h
 simp only [zBa] at h
 obtain ⟨⟨⟨⟨h1,h2⟩,h3⟩,h4⟩,h5⟩:=h
 have h3:s.getLast? ≠ some 45:=by simpa using h3
 have:=KT.name h1 (by rw [zmJ h3,h2]) hx.sN h3 (zOT h4) hk
 rwa [zOT h5] at this
theorem zoX {w:List UInt8} (h1:zaO (hd w)=true) (h2:nmAll w 0=true) (h3:w.getLast? ≠ some 45) (h4:w.length <= 60) (h5:kindN w=5):Lx w [(5,w)]:=λx ks hx hk=>by
 have:=KT.name h1 (by rw [zmJ h3,h2]) (zmm hx).sN h3 h4 hk
 rwa [h5] at this
theorem zt3 {x:List UInt8}:stp (32 :: x):=.inr (.inl rfl)
theorem zwt {x:List UInt8}:stp (44 :: x):=.inr (.inr rfl)
/-! ### Numbers -/
theorem zth {u:Nat} (h:u < 10):isDigit (UInt8.ofNat (48 + u))=true/\(UInt8.ofNat (48 + u)).toNat - 48=u:=by
 have:∀ u:Fin 10,isDigit (UInt8.ofNat (48 + u.val))=true/\(UInt8.ofNat (48 + u.val)).toNat - 48=u.val:=by decide
 exact this ⟨u,h⟩
theorem znC (u:Nat):digs (Lib.decDigits u)/\dval (Lib.decDigits u)=u:=by
 induction u using Nat.strongRecOn with
 | _ u ih =>
  by_cases h:u < 10
  ·rw [Lib.decDigits_one h]
   obtain ⟨h1,h2⟩:=zth h
   refine ⟨λd hd=>by rw [zMo.1 hd];exact h1,?_⟩
   have:=ziO [] (UInt8.ofNat (48 + u))
   rw [List.nil_append] at this
   rw [this,h2];simp [dval]
  ·rw [Lib.decDigits,dif_neg h]
   obtain ⟨h1,h2⟩:=zth (Nat.mod_lt u (show 0 < 10 by decide))
   obtain ⟨h3,h4⟩:=ih (u / 10) (by omega)
   refine ⟨λd hd=>?_,?_⟩
   ·rcases List.mem_append.1 hd with h5 | h5
    ·exact h3 d h5
    ·rw [zMo.1 h5];exact h1
   ·rw [ziO,h4,h2];omega
theorem znk (u:Nat):Lib.decDigits u ≠ []:=by
 by_cases h:u < 10
 ·rw [Lib.decDigits_one h];simp
 ·rw [Lib.decDigits,dif_neg h];simp
theorem zt2 (u:Nat) (h0:u ≠ 0):hd (Lib.decDigits u) ≠ 48:=by
 induction u using Nat.strongRecOn with
 | _ u ih =>
  by_cases h:u < 10
  ·rw [Lib.decDigits_one h]
   have:∀ u:Fin 10,u.val ≠ 0->UInt8.ofNat (48 + u.val) ≠ 48:=by decide
   exact this ⟨u,h⟩ h0
  ·rw [Lib.decDigits,dif_neg h,zjy (znk _)]
   exact ih (u / 10) (by omega) (by omega)
theorem ztu {m:Bool} {u:Nat} (h:u <= if m then 9223372036854775808 else 9223372036854775807) (hm:m=true->u ≠ 0):numOk m (Lib.decDigits u)=true:=by
 obtain ⟨h1,h2⟩:=znC u
 have hlen:(Lib.decDigits u).length <= 19:=zm4 18 u (by
  have:(10:Nat) ^ (18 + 1)=10000000000000000000:=by decide
  rw [this];revert h;cases m <;> simp <;> omega)
 have hne:1 <= (Lib.decDigits u).length:=List.length_pos_iff.2 (znk u)
 have hu:=zmc _ h1 hlen
 unfold numOk
 have e1:digs2 (Lib.decDigits u)=true:=List.all_eq_true.2 h1
 rw [e1,zDT hne,zDT hlen,hu,h2,zDT h]
 have e2:(decide ((Lib.decDigits u).length <= 1) || !decide (hd (Lib.decDigits u)=48))=true:=by
  by_cases h0:u=0
  ·subst h0;rw [Lib.decDigits_one (by decide)];rfl
  ·rw [zDF (zt2 u h0)];simp
 have e3:(!m || !decide (hd (Lib.decDigits u)=48))=true:=by
  cases m with
  | false=>rfl
  | true=>rw [zDF (zt2 u (hm rfl))];rfl
 rw [e2,e3];rfl
theorem zuU {n:Int} (h0:-9223372036854775808 <= n) (h1:n <= 9223372036854775807):Lx (Lib.itoa n) [(3,Lib.itoa n)]:=λx ks hx hk=>by
 have hs:=zmm hx
 unfold Lib.itoa
 split
 ·rename_i hn
  exact KT.neg (ztu (by rw [if_pos rfl];omega) λ_=>by omega) hs.dg hs.lt hk
 ·rename_i hn
  exact KT.num (ztu (by rw [if_neg (by decide)];omega) (λh=>by cases h)) hs.dg hs.lt hk
theorem zs1 {n:Int} (h0:-9223372036854775808 <= n) (h1:n <= 9223372036854775807):numV ⟨Lib.itoa n⟩=n:=by
 have hl:=zlG h0 h1
 have key:Lib.parseIntB 64 (Lib.itoa n)=.ok n:=by
  unfold Lib.itoa at hl ⊢
  split
  ·rename_i hn
   obtain ⟨d1,d2⟩:=znC n.natAbs
   have hu:=parseU _ d1 (znk _)
   rw [d2,if_pos (by omega)] at hu
   unfold Lib.parseIntB
   simp only [show (45:UInt8).toNat=45 from rfl,or_true,if_true,hu,not_true,false_and,if_false,true_and,if_neg (show ¬ 2 ^ (64 - 1) < n.natAbs by omega)]
   exact congrArg _ (by omega)
  ·rename_i hn
   obtain ⟨d1,d2⟩:=znC n.toNat
   have hu:=parseU _ d1 (znk _)
   rw [d2,if_pos (by omega)] at hu
   obtain ⟨c,r,e⟩:=List.exists_cons_of_ne_nil (znk n.toNat)
   rw [e] at hu d1 ⊢
   have hr:=zeC (d1 c (zMs ..))
   have n45:¬ c.toNat=45:=by omega
   have n43:¬ c.toNat=43:=by omega
   unfold Lib.parseIntB
   simp only [n43,n45,or_self,if_false,hu,not_false_eq_true,true_and,false_and,if_false,if_neg (show ¬ 2 ^ (64 - 1) <= n.toNat by omega)]
   exact congrArg _ (by omega)
 unfold numV zbf
 rw [show (decide ((10:Int)=10) && decide ((64:Int)=64) && Nat.ble (Str.mk (Lib.itoa n)).b.length 281474976710656)=true by rw [Nat.ble_eq_true_of_le (by dsimp only;omega)];rfl,zCt]
 dsimp only
 rw [key]
/-! ### Octets -/
theorem zue:∀ X:Fin 256,isHex (hiD (UInt8.ofNat X.val))=true/\isHex (loD (UInt8.ofNat X.val))=true/\UInt8.ofNat (hexv (hiD (UInt8.ofNat X.val)) * 16 + hexv (loD (UInt8.ofNat X.val)))=UInt8.ofNat X.val:=by decide +kernel
theorem zvH (c:UInt8):isHex (hiD c)=true/\isHex (loD c)=true/\UInt8.ofNat (hexv (hiD c) * 16 + hexv (loD c))=c:=by
 have:=zue ⟨c.toNat,c.toNat_lt⟩
 simpa only [UInt8.ofNat_toNat] using this
theorem znN:∀ b:List UInt8,(hexE b).all isHex=true
 | []=>rfl
 | c :: b=>by
  obtain ⟨h1,h2,_⟩:=zvH c
  rw [zmA,List.all_cons,List.all_cons,h1,h2,znN b];rfl
theorem zt4:∀ b:List UInt8,hexP (hexE b)=b
 | []=>rfl
 | c :: b=>by
  obtain ⟨_,_,h3⟩:=zvH c
  rw [zmA]
  show UInt8.ofNat _ :: hexP (hexE b)=_
  rw [h3,zt4 b]
theorem zv0 {b:List UInt8} (hb:b.length <= 100000):octV ⟨hexE b⟩=b:=by
 have hl:=zlD b
 rw [zut (znN b) (by omega) (by omega),zt4]
/-! ### Values within braces -/
def cm:List KS->KS
 | []=>[]
 | [p]=>p
 | p :: q :: r=>p ++ (6,[44]) :: cm (q :: r)
def brcT (qs:List KS):KS:=(6,[123]) :: (cm qs ++ [(6,[125])])
inductive LxA:List (List UInt8)->List KS->Prop
 | nil:LxA [] []
 | cons {p q ps qs}:Lx p q->LxA ps qs->LxA (p :: ps) (q :: qs)
theorem zr6 {x:List UInt8} {ks:KS} (hk:KT x ks):KT (123 :: x) ((6,[123]) :: ks):=KT.sign (s:=[123]) (by decide) (by simp [sgN]) hk
theorem zsa {x:List UInt8} {ks:KS} (hk:KT x ks):KT (125 :: x) ((6,[125]) :: ks):=KT.sign (s:=[125]) (by decide) (by simp [sgN]) hk
theorem comma {x:List UInt8} {ks:KS} (hk:KT x ks):KT (44 :: x) ((6,[44]) :: ks):=KT.sign (s:=[44]) (by decide) (by simp [sgN]) hk
theorem zup {ps:List (List UInt8)} {qs:List KS} (h:LxA ps qs) {x:List UInt8} {ks:KS} (hx:KT (32 :: x) ks):KT (joinC ps ++ 32 :: x) (cm qs ++ ks):=by
 induction h with
 | nil=>exact hx
 | @cons p q ps qs hp hr ih =>
  cases hr with
  | nil=>exact hp _ _ zt3 hx
  | @cons p2 q2 ps qs hp2 hr2 =>
   show KT ((p ++ 44 :: 32 :: joinC (p2 :: ps)) ++ 32 :: x) ((q ++ (6,[44]) :: cm (q2 :: qs)) ++ ks)
   rw [zLA,zLA]
   exact hp _ _ zwt (comma (KT.sp ih))
theorem zt9 {ps:List (List UInt8)} {qs:List KS} (h:LxA ps qs):Lx (brc ps) (brcT qs):=λx ks hx hk=>by
 unfold brc brcT
 cases h with
 | nil=>exact zr6 (zsa hk)
 | @cons p q ps qs hp hr =>
  rw [if_neg (by simp)]
  have:=zup (.cons hp hr) (x:=125 :: x) (KT.sp (zsa hk))
  show KT (123 :: 32 :: ((joinC (p :: ps) ++ [32,125]) ++ x)) ((6,[123]) :: ((cm (q :: qs) ++ [(6,[125])]) ++ ks))
  rw [zLA,zLA]
  exact zr6 (KT.sp this)
/-! ### Any value -/
def leafK (v:Val):KS :=
 if v.kind=1 then [(5,if v.n=0 then [70,65,76,83,69] else [84,82,85,69])]
 else if v.kind=4 then [(5,[78,85,76,76])]
 else if v.kind=2 then [(3,Lib.itoa v.n)]
 else if v.kind=5 then [(4,hexE v.b)]
 else if v.kind=6 then [(7,v.b)]
 else []
def partsT (f:Int->Val->KS):List GFld->List Val->List KS
 | y :: fs,w :: ws=>if w.kind=0 then partsT f fs ws else ((2,y.name.b) :: f y.ty w) :: partsT f fs ws
 | _,_=>[]
def txtKT (f:Int->Val->KS) (x:GTyp) (v:Val):KS :=
 if x.kind=3 then [(2,itemN x v.n)]
 else if x.kind=10 then brcT (v.l.map (f x.of))
 else if x.kind=9 then (match x.fields[v.n.toNat]?,v.l with
  | some y,w :: _=>(2,y.name.b) :: (6,[58]) :: f y.ty w
  | _,_=>[])
 else if x.kind=7 \/ x.kind=8 then brcT (partsT f x.fields v.l)
 else leafK v
def txtT:Nat->List GTyp->Int->Val->KS
 | 0,_,_,_=>[]
 | h + 1,l,i,v=>match l[i.toNat]? with
  | none=>[]
  | some x=>txtKT (txtT h l) x v
theorem zpA {h:Nat} {l:List GTyp} {i:Int} {x:GTyp} (hx:l[i.toNat]?=some x) (v:Val):txtT (h + 1) l i v=txtKT (txtT h l) x v:=by
 show (match l[i.toNat]? with | none=>_ | some x=>_)=_
 rw [hx]
structure NmW (l:List GTyp):Prop where
 fn:∀ x ∈ l,∀ f ∈ x.fields,nmOk f.name.b=true
 inm:∀ x ∈ l,∀ it ∈ x.items,nmOk it.name.b=true
 fd:∀ x ∈ l,(x.fields.map λf=>f.name).Nodup
 id:∀ x ∈ l,(x.items.map λit=>it.name).Nodup
theorem znR:kindN [70,65,76,83,69]=5/\kindN [84,82,85,69]=5/\kindN [78,85,76,76]=5:=by decide +kernel
theorem zmZ {v:Val} (h0:-9223372036854775808 <= v.n) (h1:v.n <= 9223372036854775807) (hk:v.kind=1 \/ v.kind=4 \/ v.kind=2 \/ v.kind=5 \/ v.kind=6) (hv:v.kind=6->Lib.validD v.b=true):Lx (leafT v) (leafK v):=by
 unfold leafT leafK
 split
 ·split
  ·exact zoX rfl rfl (by decide) (by decide) znR.1
  ·exact zoX rfl rfl (by decide) (by decide) znR.2.1
 split
 ·exact zoX rfl rfl (by decide) (by decide) znR.2.2
 split
 ·exact zuU h0 h1
 split
 ·intro x ks hx hk
  have hl:=zlD v.b
  have:=KT.hex (x:=x) (znN v.b) (by omega) hk
  simpa using this
 split
 ·rename_i h6
  intro x ks hx hk
  have:=KT.str (x:=x) (s:=v.b) (zmm hx).q (hv h6) hk
  simpa using this
 ·omega
theorem zvi {s p:List UInt8} {q:KS} (hs:nmOk s=true) (h:Lx p q):Lx (s ++ 32 :: p) ((2,s) :: q):=λx ks hx hk=>by
 have:=zpg hs (zmm zt3) (KT.sp (h x ks hx hk))
 simpa using this
theorem zqi {f:Int->Val->List UInt8} {g:Int->Val->KS}:∀ {fs:List GFld} {ws:List Val},(∀ y ∈ fs,nmOk y.name.b=true)->(∀ (k:Nat) y w,fs[k]?=some y->ws[k]?=some w->w.kind ≠ 0->Lx (f y.ty w) (g y.ty w))->LxA (parts f fs ws) (partsT g fs ws)
 | [],ws,_,_=>by cases ws <;> exact .nil
 | y :: fs,[],_,_=>.nil
 | y :: fs,w :: ws,hn,h=>by
  have ih:=zqi (fs:=fs) (ws:=ws) (λz hz=>hn z (zMm _ hz)) λk z u hz hu=>h (k + 1) z u (by simpa using hz) (by simpa using hu)
  show LxA (if w.kind=0 then parts f fs ws else _) (if w.kind=0 then partsT g fs ws else _)
  by_cases h0:w.kind=0
  ·rw [if_pos h0,if_pos h0];exact ih
  ·rw [if_neg h0,if_neg h0]
   exact .cons (zvi (hn y zMs) (h 0 y w rfl rfl h0)) ih
theorem zr0 {f:Val->List UInt8} {g:Val->KS}:∀ {ws:List Val},(∀ w ∈ ws,Lx (f w) (g w))->LxA (ws.map f) (ws.map g)
 | [],_=>.nil
 | w :: ws,h=>.cons (h w zMs) (zr0 λz hz=>h z (zMm _ hz))
theorem zuB {b:List UInt8} (hl:(b.length:Int) <= 70000) (h:zei b=some true):Lib.validD b=true:=by
 rw [zim b (by omega)] at h
 injection h
theorem zvZ {t:GTab} (hW:NmW t.types):∀ {h:Nat} {i:Int} {v:Val},Fit t h i v->bare v=true->I64V v->Lx (txt h t.types i v) (txtT h t.types i v):=by
 intro h
 induction h with
 | zero=>intro i v hF;cases hF
 | succ h ih =>
  intro i v hF hb hI
  obtain ⟨h0,x,hx,hk⟩:=hF
  obtain ⟨hk12,hmore,hkb⟩:=ziF hb
  have hk:=hk.resolve_left hk12
  obtain ⟨e,hK⟩:=hk
  have hxm:x ∈ t.types:=List.mem_of_getElem? hx
  rw [zq0 hx,zpA hx]
  unfold txtK txtKT
  rcases hK with ⟨k,_⟩ | ⟨k,_⟩ | ⟨k,_,hit⟩ | ⟨k,_⟩ | ⟨k,_,h7,_,h6⟩ | ⟨k,_,_,hl⟩ | ⟨k,_,hn0,f,w,hf,hl,hfw⟩ | ⟨k,_,_,hlen,hfl,_⟩
  ·rw [if_neg (by omega),if_neg (by omega),if_neg (by omega),if_neg (by omega),if_neg (by omega),if_neg (by omega),if_neg (by omega),if_neg (by omega)]
   exact zmZ hI.lo hI.hi (by omega) λh=>absurd h (by omega)
  ·rw [if_neg (by omega),if_neg (by omega),if_neg (by omega),if_neg (by omega),if_neg (by omega),if_neg (by omega),if_neg (by omega),if_neg (by omega)]
   exact zmZ hI.lo hI.hi (by omega) λh=>absurd h (by omega)
  ·rw [if_pos k,if_pos k]
   obtain ⟨it,e1,e2,_⟩:=zkx hit
   unfold itemN
   rw [e1]
   exact λx' ks hx' hk'=>zpg (hW.inm x hxm it e2) (zmm hx') hk'
  ·rw [if_neg (by omega),if_neg (by omega),if_neg (by omega),if_neg (by omega),if_neg (by omega),if_neg (by omega),if_neg (by omega),if_neg (by omega)]
   exact zmZ hI.lo hI.hi (by omega) λh=>absurd h (by omega)
  ·rw [if_neg (by omega),if_neg (by omega),if_neg (by omega),if_neg (by omega),if_neg (by omega),if_neg (by omega),if_neg (by omega),if_neg (by omega)]
   exact zmZ hI.lo hI.hi (by omega) λh=>zuB h7 (h6.resolve_left (by omega))
  ·rw [if_neg (by omega),if_pos k,if_neg (by omega),if_pos k]
   exact zt9 (zr0 λw hw=>ih (hl w hw) (hkb w hw) (hI.kid w hw))
  ·rw [if_neg (by omega),if_neg (by omega),if_pos k,if_neg (by omega),if_neg (by omega),if_pos k,hf,hl]
   have hw:w ∈ v.l:=by rw [hl];exact zMo.2 rfl
   have hq:=ih hfw (hkb w hw) (hI.kid w hw)
   intro x' ks hx' hk'
   have h2:KT (58 :: 32 :: (txt h t.types f.ty w ++ x')) ((6,[58]) :: (txtT h t.types f.ty w ++ ks)):=KT.sign (s:=[58]) (by decide) (show sgN [58] 32=true by decide) (KT.sp (hq x' ks hx' hk'))
   have:=zpg (hW.fn x hxm f (List.mem_of_getElem? hf)) (zmm zt3) (KT.sp h2)
   simpa using this
  ·rw [if_neg (by omega),if_neg (by omega),if_neg (by omega),if_pos k,if_neg (by omega),if_neg (by omega),if_neg (by omega),if_pos k]
   refine zt9 (zqi (hW.fn x hxm) λm y w h8 h9 h10=>?_)
   rcases hfl m y w h8 h9 with ⟨z,_⟩ | ⟨_,z,_⟩
   ·exact absurd z h10
   ·exact ih z (hkb w (List.mem_of_getElem? h9)) (hI.kid w (List.mem_of_getElem? h9))
end Go.Proofs.Q


namespace Go.Proofs.Q
open Go.Sy
set_option linter.unusedVariables false

theorem zkI {ts:List GTok} {k:Int} {s:List UInt8} {ks:KS} (h:ts.map kt=(k,s) :: ks):∃ t r,ts=t :: r/\t.kind=k/\t.text=⟨s⟩/\r.map kt=ks:=by
 cases ts with
 | nil=>cases h
 | cons t r =>
  rw [List.map_cons] at h
  injection h with h1 h2
  obtain ⟨kd,tx,a⟩:=t
  obtain ⟨b⟩:=tx
  unfold kt at h1
  injection h1 with h3 h4
  exact ⟨_,r,rfl,h3,by rw [show b=s from h4],h2⟩
theorem zt8 {t:GTok} {k:Int} {s u:List UInt8} (h1:t.kind=k) (h2:t.text=⟨s⟩):isW t u=((decide (k=5) || decide (k=6)) && decide (s=u)):=by
 unfold isW
 rw [h1,h2]
 have:decide (Str.mk s=Str.mk u)=decide (s=u):=decide_eq_decide.2 ⟨λh=>by injection h,λh=>by rw [h]⟩
 rw [this]
theorem zhk {ts:List GTok} {k:Int} {s:List UInt8} {ks:KS} (h:ts.map kt=(k,s) :: ks) (hk:k=5 \/ k=6):∃ r,pIs s ts=some r/\r.map kt=ks:=by
 obtain ⟨t,r,e,h1,h2,h3⟩:=zkI h
 subst e
 refine ⟨r,?_,h3⟩
 show (bif isW t s then some r else none)=_
 rw [zt8 h1 h2,zDT rfl]
 rcases hk with h | h <;> rw [h] <;> rfl
theorem zn4 {ts:List GTok} {k:Int} {s u:List UInt8} {ks:KS} (h:ts.map kt=(k,s) :: ks) (hk:((decide (k=5) || decide (k=6)) && decide (s=u))=false):pIs u ts=none:=by
 obtain ⟨t,r,e,h1,h2,h3⟩:=zkI h
 subst e
 show (bif isW t u then some r else none)=_
 rw [zt8 h1 h2,hk];rfl
theorem zqX {ts:List GTok} {k:Int} {s:List UInt8} {ks:KS} (h:ts.map kt=(k,s) :: ks):∃ r,pOf k ts=some (⟨s⟩,r)/\r.map kt=ks:=by
 obtain ⟨t,r,e,h1,h2,h3⟩:=zkI h
 subst e
 refine ⟨r,?_,h3⟩
 show (bif decide (t.kind=k) then some (t.text,r) else none)=_
 rw [zDT h1,h2];rfl
/-! ### Names -/
theorem zt1 {fs:List GFld} (hd:(fs.map λf=>f.name).Nodup) {j:Nat} {f:GFld} (hj:fs[j]?=some f):∀ (n s:Nat),s <= j->j < s + n->fidx fs f.name n s=some j:=by
 intro n
 induction n with
 | zero=>intro s h1 h2;omega
 | succ n ih =>
  intro s h1 h2
  obtain ⟨hlt,_⟩:=List.getElem?_eq_some_iff.1 hj
  obtain ⟨g,hg⟩:∃ g,fs[s]?=some g:=⟨_,List.getElem?_eq_getElem (by omega)⟩
  show (match fs[s]? with | some f'=>(bif decide (f'.name=f.name) then some s else fidx fs f.name n (s + 1)) | none=>none)=_
  rw [hg]
  dsimp only
  by_cases he:s=j
  ·subst he
   rw [hj] at hg;cases hg
   rw [zDT rfl];rfl
  ·have hne:g.name ≠ f.name:=λe=>he (by
    have h3:(fs.map λf=>f.name)[s]?=some g.name:=by rw [List.getElem?_map,hg];rfl
    have h4:(fs.map λf=>f.name)[j]?=some f.name:=by rw [List.getElem?_map,hj];rfl
    exact (List.getElem?_inj (by rw [List.length_map];omega) hd).1 (by rw [h3,h4,e]))
   rw [zDF hne,zCf]
   exact ih (s + 1) (by omega) (by omega)
theorem zrK {fs:List GFld} (hd:(fs.map λf=>f.name).Nodup) {j s:Nat} {f:GFld} (hj:fs[j]?=some f) (hs:s <= j) {ts:List GTok} {ks:KS} (h:ts.map kt=(2,f.name.b) :: ks):∃ r,pFld fs s ts=some (j,r)/\r.map kt=ks:=by
 obtain ⟨t,r,e,h1,h2,h3⟩:=zkI h
 subst e
 obtain ⟨hlt,_⟩:=List.getElem?_eq_some_iff.1 hj
 refine ⟨r,?_,h3⟩
 show (bif decide (t.kind=2) then (fidx fs t.text (fs.length - s) s).map λj=>(j,r) else none)=_
 rw [zDT h1,h2,show (Str.mk f.name.b)=f.name from rfl,zt1 hd hj _ s hs (by omega)];rfl
theorem zp6:∀ {l:List GItem} {it:GItem},(l.map λit=>it.name).Nodup->it ∈ l->iidx it.name l=some it.number
 | [],_,_,h=>by cases h
 | y :: l,it,hd,h=>by
  show (bif decide (y.name=it.name) then some y.number else iidx it.name l)=_
  rw [List.map_cons,List.nodup_cons] at hd
  rcases List.mem_cons.1 h with e | e
  ·subst e;rw [zDT rfl];rfl
  ·have:y.name ≠ it.name:=λe2=>hd.1 (by rw [e2];exact List.mem_map.2 ⟨it,e,rfl⟩)
   rw [zDF this,zCf]
   exact zp6 hd.2 e
/-! ### Within braces -/
/-- Such signs are read as that value, whatever stands behind. -/
def Rr (f:List GTok->PR Val) (q:KS) (w:Val):Prop:=∀ (ts:List GTok) (ks:KS),ts.map kt=q ++ ks->∃ r,f ts=.ok w r/\r.map kt=ks
theorem zp4 {f:List GTok->PR Val} {g:Val->KS}:∀ {ws:List Val} (n:Nat) (ts:List GTok) (acc:List Val) (ks:KS),ws ≠ []->(∀ w ∈ ws,Rr f (g w) w)->ts.map kt=cm (ws.map g) ++ (6,[125]) :: ks->ws.length <= n ->
    ∃ r,pItems f n ts acc=.ok (acc ++ ws) r/\r.map kt=ks
  | [],_,_,_,_,h,_,_,_=>absurd rfl h
  | _ :: _,0,_,_,_,_,_,_,hn=>by simp at hn
  | [w],n + 1,ts,acc,ks,_,hf,h,hn=>by
    obtain ⟨r,e1,e2⟩:=hf w zMs ts _ h
    obtain ⟨r2,e3,e4⟩:=zhk e2 (.inr rfl)
    refine ⟨r2,?_,e4⟩
    show (match f ts with | .bad p e=>PR.bad p e | .ok w r=>_)=_
    rw [e1]
    dsimp only
    rw [zn4 e2 (by decide),e3]
  | w :: w2 :: ws,n + 1,ts,acc,ks,_,hf,h,hn=>by
    have h:ts.map kt=g w ++ ((6,[44]) :: cm ((w2 :: ws).map g) ++ (6,[125]) :: ks):=by
      rw [h]
      show (g w ++ (6,[44]) :: cm ((w2 :: ws).map g)) ++ _=_
      rw [zLA]
    obtain ⟨r,e1,e2⟩:=hf w zMs ts _ h
    obtain ⟨r2,e3,e4⟩:=zhk (show r.map kt=(6,[44]) :: (cm ((w2 :: ws).map g) ++ (6,[125]) :: ks) from e2) (.inr rfl)
    obtain ⟨r3,e5,e6⟩:=zp4 (ws:=w2 :: ws) n r2 (acc ++ [w]) ks (by simp) (λy hy=>hf y (zMm _ hy)) e4 (by simpa using hn)
    refine ⟨r3,?_,e6⟩
    show (match f ts with | .bad p e=>PR.bad p e | .ok w r=>_)=_
    rw [e1]
    dsimp only
    rw [e3]
    dsimp only
    rw [e5,zLA];rfl
theorem zpR (q:KS) (qs:List KS):cm (q :: qs)=q ++ (if qs=[] then [] else (6,[44]) :: cm qs):=by
 cases qs with
 | nil=>rw [if_pos rfl,List.append_nil];rfl
 | cons a b=>rw [if_neg (by simp)];rfl
theorem zk8 {g:Int->Val->KS}:∀ {fs:List GFld} {ws:List Val},fs.length=ws.length->partsT g fs ws=[]->∀ w ∈ ws,w.kind=0
 | [],[],_,_=>λw hw=>by cases hw
 | [],_ :: _,h,_=>by simp at h
 | _ :: _,[],h,_=>by simp at h
 | y :: fs,w :: ws,h,hp=>λu hu=>by
  change (if w.kind=0 then partsT g fs ws else _ :: partsT g fs ws)=[] at hp
  by_cases h0:w.kind=0
  ·rw [if_pos h0] at hp
   rcases List.mem_cons.1 hu with e | e
   ·rw [e];exact h0
   ·exact zk8 (by simpa using h) hp u e
  ·rw [if_neg h0] at hp;cases hp
theorem zeros {ws:List Val} (h:∀ w ∈ ws,w=zeroV):ws=List.replicate ws.length zeroV:=List.eq_replicate_iff.2 ⟨rfl,h⟩
theorem zu5 {a:List Val} {w:Val} {n:Nat}:(a ++ List.replicate (n + 1) zeroV).set a.length w=(a ++ [w]) ++ List.replicate n zeroV:=by
 rw [List.set_append_right _ _ (zNl _),Nat.sub_self,List.replicate_succ,List.set_cons_zero,zLA];rfl
theorem zpv {fs:List GFld} (hd:(fs.map λf=>f.name).Nodup) {f:Int->List GTok->PR Val} {g:Int->Val->KS}:∀ {f2:List GFld} {w2:List Val} (pre:List Val) (s n:Nat) (ts:List GTok) (ks:KS),s <= pre.length->fs.drop pre.length=f2->f2.length=w2.length->partsT g f2 w2 ≠ [] ->
    (∀ (k:Nat) y w,f2[k]?=some y->w2[k]?=some w->(w.kind=0->w=zeroV)/\(w.kind ≠ 0->Rr (f y.ty) (g y.ty w) w/\(y.has=true->w ≠ y.dflt)))->ts.map kt=cm (partsT g f2 w2) ++ (6,[125]) :: ks->ts.length <= n ->
    ∃ r,pFlds fs f n ts s (pre ++ List.replicate f2.length zeroV)=.ok (pre ++ w2) r/\r.map kt=ks
  | [],[],_,_,_,_,_,_,_,_,h,_,_,_=>absurd rfl h
  | [],_ :: _,_,_,_,_,_,_,_,h,_,_,_,_=>by simp at h
  | _ :: _,[],_,_,_,_,_,_,_,h,_,_,_,_=>by simp at h
  | y :: f2,w :: w2,pre,s,n,ts,ks,hs,hdr,hl,hne,hF,h,hn=>by
    have hlt:pre.length < fs.length:=by
      have:=congrArg List.length hdr
      rw [zLd,zLc] at this;omega
    have hy:fs[pre.length]?=some y:=by
      have:=List.getElem?_drop (xs:=fs) (i:=pre.length) (j:=0)
      rw [hdr] at this
      simpa using this.symm
    have hdr2:fs.drop (pre ++ [w]).length=f2:=by
      rw [zLa,zLs,<- List.drop_drop,hdr];rfl
    have hl2:f2.length=w2.length:=by simpa using hl
    have hF2:∀ (k:Nat) y w,f2[k]?=some y->w2[k]?=some w->(w.kind=0->w=zeroV)/\(w.kind ≠ 0->Rr (f y.ty) (g y.ty w) w/\(y.has=true->w ≠ y.dflt)):=λk y' w' h1 h2=>hF (k + 1) y' w' (by simpa using h1) (by simpa using h2)
    obtain ⟨hz,hw⟩:=hF 0 y w rfl rfl
    change partsT g (y :: f2) (w :: w2) ≠ [] at hne
    by_cases h0:w.kind=0
    · have e0:partsT g (y :: f2) (w :: w2)=partsT g f2 w2:=by show (if w.kind=0 then _ else _)=_;rw [if_pos h0]
      rw [e0] at h hne
      obtain ⟨r,e1,e2⟩:=zpv hd (pre ++ [w]) s n ts ks (by rw [zLa];omega) hdr2 hl2 hne hF2 h hn
      refine ⟨r,?_,e2⟩
      rw [zLA,zLA] at e1
      rw [<- show ([w]:List Val) ++ w2=w :: w2 from rfl,<- e1,hz h0];rfl
    · have e0:partsT g (y :: f2) (w :: w2)=((2,y.name.b) :: g y.ty w) :: partsT g f2 w2:=by show (if w.kind=0 then _ else _)=_;rw [if_neg h0]
      obtain ⟨hR,hdf⟩:=hw h0
      rw [e0,zpR] at h
      have h:ts.map kt=(2,y.name.b) :: (g y.ty w ++ ((if partsT g f2 w2=[] then [] else (6,[44]) :: cm (partsT g f2 w2)) ++ (6,[125]) :: ks)):=by
        rw [h,zLA];rfl
      obtain ⟨r0,e1,e2⟩:=zrK hd hy hs h
      obtain ⟨r,e3,e4⟩:=hR r0 _ e2
      have hput:putF y pre.length w (pre ++ List.replicate (f2.length + 1) zeroV)=(pre ++ [w]) ++ List.replicate f2.length zeroV:=by
        have:putF y pre.length w (pre ++ List.replicate (f2.length + 1) zeroV)=(pre ++ List.replicate (f2.length + 1) zeroV).set pre.length w:=by
          cases hh:y.has with
          | false=>exact zqD hh
          | true=>exact zrY (hdf hh)
        rw [this,zu5]
      obtain ⟨n,rfl⟩:∃ n',n=n' + 1:=⟨n - 1,by
        have:=congrArg List.length h
        rw [List.length_map,zLc] at this;omega⟩
      unfold pFlds
      rw [e1]
      dsimp only
      rw [hy]
      dsimp only
      rw [e3]
      dsimp only
      rw [zLc,hput]
      by_cases hp:partsT g f2 w2=[]
      · rw [if_pos hp] at e4
        obtain ⟨r2,e5,e6⟩:=zhk (show r.map kt=(6,[125]) :: ks from e4) (.inr rfl)
        refine ⟨r2,?_,e6⟩
        rw [zn4 (show r.map kt=(6,[125]) :: ks from e4) (by decide),e5]
        have hall:=zk8 hl2 hp
        have:w2=List.replicate w2.length zeroV:=zeros λu hu=>by
          obtain ⟨k,hk⟩:=List.mem_iff_getElem?.1 hu
          obtain ⟨hk1,_⟩:=List.getElem?_eq_some_iff.1 hk
          exact (hF2 k _ u (List.getElem?_eq_getElem (by omega)) hk).1 (hall u hu)
        rw [hl2,<- this,zLA];rfl
      · rw [if_neg hp] at e4
        obtain ⟨r2,e5,e6⟩:=zhk (show r.map kt=(6,[44]) :: (cm (partsT g f2 w2) ++ (6,[125]) :: ks) from e4) (.inr rfl)
        rw [e5]
        dsimp only
        have hlen:r2.length <= n:=by
          have a1:=congrArg List.length h
          have a2:=congrArg List.length e6
          rw [if_neg hp] at a1
          rw [List.length_map] at a1 a2
          simp only [zLc,zLa] at a1 a2
          omega
        obtain ⟨r3,e7,e8⟩:=zpv hd (pre ++ [w]) (pre.length + 1) n r2 ks (by rw [zLa];exact zNl _) hdr2 hl2 hp hF2 e6 hlen
        refine ⟨r3,?_,e8⟩
        rw [e7,zLA];rfl
/-! ### Any value -/
/-- Signs that do not begin with a brace that closes. -/
def Opn1 (q:KS):Prop:=∃ k s r,q=(k,s) :: r/\((decide (k=5) || decide (k=6)) && decide (s=[125]))=false
theorem zlB {v:Val} (hk:v.kind=1 \/ v.kind=4 \/ v.kind=2 \/ v.kind=5 \/ v.kind=6):Opn1 (leafK v):=by
 unfold leafK
 split
 ·split
  ·exact ⟨_,_,_,rfl,by decide⟩
  ·exact ⟨_,_,_,rfl,by decide⟩
 split
 ·exact ⟨_,_,_,rfl,by decide⟩
 split
 ·exact ⟨_,_,_,rfl,by simp⟩
 split
 ·exact ⟨_,_,_,rfl,by simp⟩
 split
 ·exact ⟨_,_,_,rfl,by simp⟩
 ·omega
theorem zrG {t:GTab}:∀ {h:Nat} {i:Int} {v:Val},Fit t h i v->bare v=true->Opn1 (txtT h t.types i v):=by
 intro h
 cases h with
 | zero=>intro i v hF;cases hF
 | succ h =>
  intro i v hF hb
  obtain ⟨h0,x,hx,hk⟩:=hF
  obtain ⟨hk12,hmore,hkb⟩:=ziF hb
  obtain ⟨e,hK⟩:=hk.resolve_left hk12
  rw [zpA hx]
  unfold txtKT
  rcases hK with ⟨k,_⟩ | ⟨k,_⟩ | ⟨k,_,hit⟩ | ⟨k,_⟩ | ⟨k,_⟩ | ⟨k,_,_,hl⟩ | ⟨k,_,hn0,f,w,hf,hl,hfw⟩ | ⟨k,_,_,hlen,hfl,_⟩
  ·rw [if_neg (by omega),if_neg (by omega),if_neg (by omega),if_neg (by omega)]
   exact zlB (by omega)
  ·rw [if_neg (by omega),if_neg (by omega),if_neg (by omega),if_neg (by omega)]
   exact zlB (by omega)
  ·rw [if_pos k]
   exact ⟨_,_,_,rfl,by simp⟩
  ·rw [if_neg (by omega),if_neg (by omega),if_neg (by omega),if_neg (by omega)]
   exact zlB (by omega)
  ·rw [if_neg (by omega),if_neg (by omega),if_neg (by omega),if_neg (by omega)]
   exact zlB (by omega)
  ·rw [if_neg (by omega),if_pos k]
   exact ⟨_,_,_,rfl,by decide⟩
  ·rw [if_neg (by omega),if_neg (by omega),if_pos k,hf,hl]
   exact ⟨_,_,_,rfl,by simp⟩
  ·rw [if_neg (by omega),if_neg (by omega),if_neg (by omega),if_pos k]
   exact ⟨_,_,_,rfl,by decide⟩
theorem zs8 {q:KS} {qs:List KS} (h:Opn1 q) (ks:KS):Opn1 (cm (q :: qs) ++ ks):=by
 obtain ⟨k,s,r,e,h2⟩:=h
 rw [zpR,e]
 exact ⟨k,s,_,rfl,h2⟩
theorem zh5 {v:Val} {n b l m:Bool} (h:pln v n b l m=true):(n=false->v.n=0)/\(b=false->v.b=[])/\(l=false->v.l=[])/\(m=false->v.rule=0):=by
 unfold pln at h
 simp only [zBa] at h
 obtain ⟨⟨⟨h1,h2⟩,h3⟩,h4⟩:=h
 refine ⟨λe=>?_,λe=>?_,λe=>?_,λe=>?_⟩
 ·rw [e,Bool.false_or] at h1;exact zOT h1
 ·rw [e,Bool.false_or] at h2;exact List.length_eq_zero_iff.1 (by have:=zOT h2;omega)
 ·rw [e,Bool.false_or] at h3;exact List.length_eq_zero_iff.1 (by have:=zOT h3;omega)
 ·rw [e,Bool.false_or,zBa] at h4;exact zOT h4.1
theorem zir {v:Val} {k n:Int} {b:List UInt8} {l:List Val} (h1:v.kind=k) (h2:v.n=n) (h3:v.b=b) (h4:v.l=l) (h5:v.rule=0) (h6:v.more=[]):v=leafV k n b l:=by
 rw [<- Val.eta v,h1,h2,h3,h4,h5,h6];rfl
theorem zwf {t:GTab} (hW:NmW t.types):∀ {h:Nat} {i:Int} {v:Val},Fit t h i v->bare v=true->I64V v->Rr (pv h t.types i) (txtT h t.types i v) v:=by
 intro h
 induction h with
 | zero=>intro i v hF;cases hF
 | succ h ih =>
  intro i v hF hb hI ts ks hts
  obtain ⟨h0,x,hx,hk⟩:=hF
  obtain ⟨hk12,hmore,hkb⟩:=ziF hb
  obtain ⟨e,hK⟩:=hk.resolve_left hk12
  have hxm:x ∈ t.types:=List.mem_of_getElem? hx
  rw [zvO hx]
  rw [zpA hx] at hts
  unfold pvK
  unfold txtKT leafK at hts
  have n1:=hI.lo
  have n2:=hI.hi
  rcases hK with ⟨k,hp,hn⟩ | ⟨k,hp,_⟩ | ⟨k,hp,hit⟩ | ⟨k,hp⟩ | ⟨k,hp,h7,_,h6⟩ | ⟨k,hp,_,hl⟩ | ⟨k,hp,hn0,f,w,hf,hl,hfw⟩ | ⟨k,hp,hr,hlen,hfl,_⟩
  ·obtain ⟨_,p2,p3,p4⟩:=zh5 hp
   rw [if_neg (by omega),if_neg (by omega),if_neg (by omega),if_neg (by omega),if_pos (by omega)] at hts
   rw [if_pos k]
   by_cases hz:v.n=0
   ·rw [if_pos hz] at hts
    obtain ⟨r,e1,e2⟩:=zhk hts (.inl rfl)
    refine ⟨r,?_,e2⟩
    rw [zn4 hts (by decide),e1]
    dsimp only
    rw [<- zir (by omega) hz (p2 rfl) (p3 rfl) (p4 rfl) hmore]
   ·rw [if_neg hz] at hts
    obtain ⟨r,e1,e2⟩:=zhk hts (.inl rfl)
    refine ⟨r,?_,e2⟩
    rw [e1]
    dsimp only
    rw [Bool.or_eq_true] at hn
    rw [<- zir (by omega) (zOT (hn.resolve_left (by simpa using hz))) (p2 rfl) (p3 rfl) (p4 rfl) hmore]
  ·obtain ⟨_,p2,p3,p4⟩:=zh5 hp
   rw [if_neg (by omega),if_neg (by omega),if_neg (by omega),if_neg (by omega),if_neg (by omega),if_neg (by omega),if_pos (by omega)] at hts
   rw [if_neg (by omega),if_neg (by omega),if_pos k]
   obtain ⟨r,e1,e2⟩:=zqX hts
   refine ⟨r,?_,e2⟩
   rw [e1]
   dsimp only
   rw [zs1 n1 n2,<- zir (by omega) rfl (p2 rfl) (p3 rfl) (p4 rfl) hmore]
  ·obtain ⟨_,p2,p3,p4⟩:=zh5 hp
   rw [if_pos k] at hts
   rw [if_neg (by omega),if_neg (by omega),if_neg (by omega),if_pos k]
   obtain ⟨it,i1,i2,i3⟩:=zkx hit
   unfold itemN at hts
   rw [i1] at hts
   obtain ⟨tk,r,e1,e2,e3,e4⟩:=zkI hts
   subst e1
   refine ⟨r,?_,e4⟩
   have:pItem x (tk :: r)=some (v.n,r):=by
    show (bif decide (tk.kind=2) then (iidx tk.text x.items).map λj=>(j,r) else none)=_
    rw [zDT e2,e3,show Str.mk it.name.b=it.name from rfl,zp6 (hW.id x hxm) i2,i3];rfl
   rw [this]
   dsimp only
   rw [<- zir (by omega) rfl (p2 rfl) (p3 rfl) (p4 rfl) hmore]
  ·obtain ⟨p1,p2,p3,p4⟩:=zh5 hp
   rw [if_neg (by omega),if_neg (by omega),if_neg (by omega),if_neg (by omega),if_neg (by omega),if_pos (by omega)] at hts
   rw [if_neg (by omega),if_pos k]
   obtain ⟨r,e1,e2⟩:=zhk hts (.inl rfl)
   refine ⟨r,?_,e2⟩
   rw [e1]
   dsimp only
   rw [<- zir (by omega) (p1 rfl) (p2 rfl) (p3 rfl) (p4 rfl) hmore]
  ·obtain ⟨p1,p2,p3,p4⟩:=zh5 hp
   rw [if_neg (by omega),if_neg (by omega),if_neg (by omega),if_neg (by omega),if_neg (by omega),if_neg (by omega),if_neg (by omega)] at hts
   rw [if_neg (by omega),if_neg (by omega),if_neg (by omega),if_neg (by omega)]
   rcases k with k | k
   ·rw [if_pos (by omega)] at hts
    rw [if_pos k]
    obtain ⟨r,e1,e2⟩:=zqX hts
    refine ⟨r,?_,e2⟩
    rw [e1]
    dsimp only
    rw [zv0 (by omega),<- zir (by omega) (p1 rfl) rfl (p3 rfl) (p4 rfl) hmore]
   ·rw [if_neg (by omega),if_pos (by omega)] at hts
    rw [if_neg (by omega),if_pos k]
    obtain ⟨r,e1,e2⟩:=zqX hts
    refine ⟨r,?_,e2⟩
    rw [e1]
    dsimp only
    rw [<- zir (by omega) (p1 rfl) rfl (p3 rfl) (p4 rfl) hmore]
  ·obtain ⟨p1,p2,p3,p4⟩:=zh5 hp
   rw [if_neg (by omega),if_pos k] at hts
   rw [if_neg (by omega),if_neg (by omega),if_neg (by omega),if_neg (by omega),if_neg (by omega),if_neg (by omega),if_pos k]
   have hv:v=leafV 10 0 [] v.l:=zir (by omega) (p1 rfl) (p2 rfl) rfl (p4 rfl) hmore
   obtain ⟨r,e1,e2⟩:=zhk (show ts.map kt=(6,[123]) :: ((cm (v.l.map (txtT h t.types x.of)) ++ [(6,[125])]) ++ ks) from hts) (.inr rfl)
   unfold pLst
   rw [e1]
   dsimp only
   rw [zLA] at e2
   cases hvl:v.l with
   | nil =>
    rw [hvl] at e2
    obtain ⟨r2,e3,e4⟩:=zhk (show r.map kt=(6,[125]) :: ks from e2) (.inr rfl)
    refine ⟨r2,?_,e4⟩
    rw [e3]
    show PR.ok (leafV 10 0 [] []) r2=_
    rw [hv,hvl]
   | cons w ws =>
    rw [hvl] at e2 hl hkb
    have hw:=zrG (hl w zMs) (hkb w zMs)
    obtain ⟨a,b,c,e3,e4⟩:=zs8 (qs:=ws.map (txtT h t.types x.of)) hw ([(6,[125])] ++ ks)
    have e5:r.map kt=(a,b) :: c:=by rw [e2];exact e3
    rw [zn4 e5 e4]
    dsimp only
    obtain ⟨r3,e6,e7⟩:=zp4 (f:=pv h t.types x.of) (g:=txtT h t.types x.of) (ws:=w :: ws) r.length r [] ks (by simp) (λu hu=>ih (hl u hu) (hkb u hu) (hI.kid u (by rw [hvl];exact hu))) e2 (by
     have:=congrArg List.length e2
     rw [List.length_map] at this
     rw [this]
     have:∀ (l:List KS),(∀ q ∈ l,1 <= q.length)->l.length <= (cm l).length:=by
      intro l
      induction l with
      | nil=>intro _;exact zNz _
      | cons q l ih2 =>
       intro hq
       have h1:=ih2 λz hz=>hq z (zMm _ hz)
       have h2:=hq q zMs
       rw [zpR,zLc,zLa]
       split
       ·rename_i hl0;rw [hl0];simp;omega
       ·rw [zLc];omega
     have h3:=this ((w :: ws).map (txtT h t.types x.of)) λq hq=>by
      obtain ⟨u,hu,rfl⟩:=List.mem_map.1 hq
      obtain ⟨_,_,_,e8,_⟩:=zrG (hl u hu) (hkb u hu)
      rw [e8];simp
     rw [List.length_map] at h3
     rw [zLa];omega)
    refine ⟨r3,?_,e7⟩
    rw [e6]
    show PR.ok (leafV 10 0 [] ([] ++ w :: ws)) r3=_
    rw [List.nil_append,hv,hvl]
  ·obtain ⟨p1,p2,p3,p4⟩:=zh5 hp
   rw [if_neg (by omega),if_neg (by omega),if_pos k,hf,hl] at hts
   rw [if_neg (by omega),if_neg (by omega),if_neg (by omega),if_neg (by omega),if_neg (by omega),if_neg (by omega),if_neg (by omega),if_pos k]
   have hw:w ∈ v.l:=by rw [hl];exact zMo.2 rfl
   obtain ⟨r,e1,e2⟩:=zrK (hW.fd x hxm) hf (zNz _) hts
   obtain ⟨r2,e3,e4⟩:=zhk (show r.map kt=(6,[58]) :: (txtT h t.types f.ty w ++ ks) from e2) (.inr rfl)
   obtain ⟨r3,e5,e6⟩:=ih hfw (hkb w hw) (hI.kid w hw) r2 ks e4
   refine ⟨r3,?_,e6⟩
   rw [e1]
   dsimp only
   rw [e3]
   dsimp only
   rw [hf]
   dsimp only
   rw [e5]
   show PR.ok (leafV 9 (v.n.toNat:Int) [] [w]) r3=_
   rw [<- zir (by omega) (by omega) (p2 rfl) hl (p4 rfl) hmore]
  ·obtain ⟨p1,p2,p3,p4⟩:=zh5 hp
   rw [if_neg (by omega),if_neg (by omega),if_neg (by omega),if_pos k] at hts
   rw [if_neg (by omega),if_neg (by omega),if_neg (by omega),if_neg (by omega),if_neg (by omega),if_neg (by omega),if_neg (by omega),if_neg (by omega)]
   have hv:v=leafV x.kind 0 [] v.l:=zir e (p1 rfl) (p2 rfl) rfl (hr hmore) hmore
   have hF:∀ (k:Nat) y w,x.fields[k]?=some y->v.l[k]?=some w->(w.kind=0->w=zeroV)/\(w.kind ≠ 0->Rr (pv h t.types y.ty) (txtT h t.types y.ty w) w/\(y.has=true->w ≠ y.dflt)):=λm y w h8 h9=>by
    rcases hfl m y w h8 h9 with ⟨z1,z2,_⟩ | ⟨z1,z2,z3⟩
    ·exact ⟨λ_=>z2,λz=>absurd z1 z⟩
    ·exact ⟨λz=>absurd z z1,λ_=>⟨ih z2 (hkb w (List.mem_of_getElem? h9)) (hI.kid w (List.mem_of_getElem? h9)),z3⟩⟩
   obtain ⟨r,e1,e2⟩:=zhk (show ts.map kt=(6,[123]) :: ((cm (partsT (txtT h t.types) x.fields v.l) ++ [(6,[125])]) ++ ks) from hts) (.inr rfl)
   unfold pSeq
   rw [e1]
   dsimp only
   rw [zLA] at e2
   by_cases hp0:partsT (txtT h t.types) x.fields v.l=[]
   ·rw [hp0] at e2
    obtain ⟨r2,e3,e4⟩:=zhk (show r.map kt=(6,[125]) :: ks from e2) (.inr rfl)
    refine ⟨r2,?_,e4⟩
    rw [e3]
    have hall:=zk8 hlen.symm hp0
    have:v.l=List.replicate v.l.length zeroV:=zeros λu hu=>by
     obtain ⟨m,hm⟩:=List.mem_iff_getElem?.1 hu
     obtain ⟨hm1,_⟩:=List.getElem?_eq_some_iff.1 hm
     exact (hF m _ u (List.getElem?_eq_getElem (by omega)) hm).1 (hall u hu)
    show PR.ok (leafV x.kind 0 [] (List.replicate x.fields.length zeroV)) r2=_
    rw [<- hlen,<- this,<- hv]
   ·have hfirst:∃ c,cm (partsT (txtT h t.types) x.fields v.l) ++ ([(6,[125])] ++ ks)=c/\Opn1 c:=by
     have:∀ {fs:List GFld} {ws:List Val},∀ q ∈ partsT (txtT h t.types) fs ws,Opn1 q:=by
      intro fs
      induction fs with
      | nil=>intro ws q hq;cases ws <;> cases hq
      | cons y fs ih2 =>
       intro ws q hq
       cases ws with
       | nil=>cases hq
       | cons w ws =>
        change q ∈ (if w.kind=0 then partsT (txtT h t.types) fs ws else _ :: partsT (txtT h t.types) fs ws) at hq
        by_cases h0:w.kind=0
        ·rw [if_pos h0] at hq;exact ih2 q hq
        ·rw [if_neg h0] at hq
         rcases List.mem_cons.1 hq with e | e
         ·rw [e];exact ⟨_,_,_,rfl,by simp⟩
         ·exact ih2 q e
     obtain ⟨q,qs,eq⟩:=List.exists_cons_of_ne_nil hp0
     rw [eq]
     exact ⟨_,rfl,zs8 (this q (by rw [eq];exact zMs)) _⟩
    obtain ⟨c,c1,a,b,d,c2,c3⟩:=hfirst
    rw [zn4 (show r.map kt=(a,b) :: d by rw [e2,c1,c2]) c3]
    dsimp only
    obtain ⟨r3,e6,e7⟩:=zpv (fs:=x.fields) (hW.fd x hxm) (f:=pv h t.types) (g:=txtT h t.types) (f2:=x.fields) (w2:=v.l) [] 0 r.length r ks (zNz _) rfl hlen.symm hp0 hF e2 (zNl _)
    refine ⟨r3,?_,e7⟩
    rw [List.nil_append,List.nil_append] at e6
    rw [e6]
    show PR.ok (leafV x.kind 0 [] v.l) r3=_
    rw [<- hv]
theorem zuW {t:GTab} (hW:NmW t.types) {i:Int} {v:Val} (hF:Fit t 17 i v) (hb:bare v=true) (hI:I64V v) (hl:(txt 17 t.types i v).length <= 8000):pNote t.types i (txt 17 t.types i v)=.ok v []:=by
 have h:=zvZ hW hF hb hI [] [] (.inl ⟨rfl,rfl⟩) (.fin rfl)
 rw [List.append_nil,List.append_nil] at h
 obtain ⟨l,e1,e2⟩:=zve h hl
 obtain ⟨r,e3,e4⟩:=zwf hW hF hb hI l [(0,[])] e2
 obtain ⟨y,r',e5,e6,_,e7⟩:=zkI e4
 unfold pNote
 rw [e1,if_neg (by simp)]
 dsimp only
 rw [e3]
 dsimp only
 rw [e5]
 dsimp only
 rw [if_pos e6]
end Go.Proofs.Q


namespace Go.Proofs.Q
open Go.Sy
set_option linter.unusedVariables false

theorem ztC:∀ {k n:Nat} {v:Val},cnt v <= k->4 * k <= n->Fine v->zfo n v=some (bare v):=by
 intro k
 induction k with
 | zero=>intro n v h;have:=zfy v;omega
 | succ k ih =>
  intro n v hk hn hf
  obtain ⟨n,rfl⟩:∃ n',n=n' + 4:=⟨n - 4,by omega⟩
  have hfl:=hf.l
  have hc:zaC (n + 3) v.l=some (!(v.l.map bare).all id):=by
   refine T.eqs ?_
   show T _ (zaN (zfK (n + 2)) (zfo (n + 2)) (zaC (n + 2)) (za5 (n + 2)) v.l)
   unfold zaN
   refine T.cal (Q:=λ(r:Int)=>decide (0 <= r)=!(v.l.map bare).all id) ?_ λy _ hy=>T.some hy
   show T _ (zaY (zfK (n + 1)) (zfo (n + 1)) (zaC (n + 1)) (za5 (n + 1)) v.l)
   unfold zaY
   refine T.lp (ι:=Int) (λq=>0 <= q/\q <= (v.l.length:Int)/\((v.l.take q.toNat).map bare).all id=true) (λq=>((v.l.length:Int) - q).toNat) ⟨zIl _,by omega,rfl⟩ (by omega) λL q ⟨q1,q2,q3⟩ hL=>T.br (λhb=>?_) λhb=>T.some ?_
   ·have hb:=zOT hb
    refine T.get q1 hb λy hy=>?_
    have hm:=List.mem_of_getElem? hy
    have hk:=zfv hm
    refine T.eq (y:=!bare y) ?_ (T.br (λh2=>T.some ?_) λh2=>T.ck (by omega) (hL _ ⟨by omega,by omega,?_⟩ (by omega)))
    ·refine T.eqs ?_
     show T _ (zeU (zfK n) (zfo n) (zaC n) (za5 n) y)
     unfold zeU
     exact T.eq (ih (by omega) (by omega) (hf.kid y hm)) (T.some rfl)
    ·have h2:bare y=false:=by simpa using h2
     have:(v.l.map bare).all id=false:=by
      rw [List.all_eq_false]
      exact ⟨bare y,List.mem_map.2 ⟨y,hm,rfl⟩,by rw [h2];decide⟩
     rw [this,zDT q1];rfl
    ·have h2:bare y=true:=by simpa using h2
     have e:(q + 1).toNat=q.toNat + 1:=by omega
     rw [e,List.take_add_one,hy,List.map_append,List.all_append,q3]
     show (true && (bare y && true))=true
     rw [h2];rfl
   ·have hb:=zOF hb
    rw [zTl (by omega)] at q3
    rw [q3];rfl
  refine T.eqs ?_
  show T _ (zgz (zfK (n + 3)) (zfo (n + 3)) (zaC (n + 3)) (za5 (n + 3)) v)
  unfold zgz
  rw [zks]
  have e0:(!(decide (v.kind=12) || decide (0 < v.more.length)))=(!decide (v.kind=12) && decide ((v.more.length:Int)=0)):=by
   rw [Bool.not_or]
   congr 1
   cases h:decide (0 < v.more.length) with
   | true=>have:=zOT h;rw [zDF (by omega)];rfl
   | false=>have:=zOF h;rw [zDT (by omega)];rfl
  rw [e0]
  refine T.andJ (d:=decide ((v.more.length:Int)=0)) (λJ kk=>kk) ?_
  refine T.andJ (d:=(v.l.map bare).all id) (λJ kk=>T.eq hc ?_) (T.some rfl)
  rw [Bool.not_not]
  exact kk
theorem zp1 {t:GTab} (ht:TabOk t) {i:Int} {v:Val} (hF:Fit t 17 i v) (hb:bare v=true) (hf:Fine v) (hc:cnt v <= 5000):zfY t i v=some true:=by
 refine T.eqs ?_
 unfold zfY
 have hs:=zs6 hF hb
 have h:=zuc ht (b:=false) (h:=17) (n:=fuel) (i:=i) (v:=v) (d:=1) (by decide) (by decide) (by unfold fuel;decide) hf (by omega) hF (by rw [hs];exact hb)
 rw [hs] at h
 exact T.eq h (T.jp (λb=>b=true) (λJ kk=>T.br (λ_=>T.eq (zst (by unfold fuel;omega) (by omega) hf) (kk _ (zDT (by omega)))) λh=>by cases h) λb hb=>T.some hb)
def pTxt (l:List GTyp) (i:Int) (v:Val):Str × Int:=if 8000 < (txt 17 l i v).length then (⟨[]⟩,5) else (⟨txt 17 l i v⟩,0)
theorem zqA {t:GTab} (ht:TabOk t) (hB:NmB t.types) {i:Int} {v:Val} (hF:Fit t 17 i v) (hb:bare v=true) (hI:I64V v) (hf:Fine v) (hc:cnt v <= 5000):zgT t i v=some (pTxt t.types i v):=by
 refine T.eqs ?_
 unfold zgT
 have h:=prP hB (h:=17) (n:=fuel) (b:=[]) (by unfold fuel;decide) hF hb hI hf (by omega) (by simp only [zLn];omega)
 refine T.eq (zp1 ht hF hb hf hc) (T.br (λh=>by cases h) λ_=>T.eq (ztC (k:=5000) (by omega) (by unfold fuel;decide) hf) ?_)
 rw [hb]
 refine T.br (λh=>by cases h) λ_=>T.eq h (T.br (λhl=>T.some ?_) λhl=>T.some ?_)
 ·have hl:=zOT hl
  unfold pTxt
  rw [if_pos (by have h9:(8000:Int) < ((txt 17 t.types i v).length:Nat):=(by simpa using hl);omega)]
 ·have hl:=zOF hl
  unfold pTxt
  rw [if_neg (by have h9:((txt 17 t.types i v).length:Int) <= 8000:=(by simpa using hl);omega)];rfl
theorem zwd {t:GTab} {h:Nat} {i:Int} {v:Val} (hF:Fit t h i v):0 <= i/\i < t.types.length:=by
 cases h with
 | zero=>cases hF
 | succ h =>
  obtain ⟨h0,x,hx,_⟩:=hF
  have:=(List.getElem?_eq_some_iff.1 hx).1
  exact ⟨h0,by omega⟩
theorem ztf {t:GTab} (ht:TabOk t) (hk:TOk t.types) (hW:NmW t.types) {i:Int} {v:Val} (hF:Fit t 17 i v) (hb:bare v=true) (hI:I64V v) (hf:Fine v) (hc:cnt v <= 5000) (hl:(txt 17 t.types i v).length <= 8000):zgW t i ⟨txt 17 t.types i v⟩=some (v,0,0):=by
 refine T.eqs ?_
 obtain ⟨i0,i1⟩:=zwd hF
 have h:=zuW hW hF hb hI hl
 refine zuF hk i0 i1 _ (λp e hp=>?_) λw r hp _ _=>?_
 ·rw [h] at hp;cases hp
 ·rw [h] at hp
  cases hp
  exact ⟨true,zp1 ht hF hb hf hc,by dsimp only;rw [if_pos rfl]⟩
end Go.Proofs.Q


namespace Go.Proofs.Q
open Go.Sy
set_option maxRecDepth 4000
def tokF (s:Str):Option (List GTok × Int × Int):=some (toks s.b)
theorem zu0:zgH=tokF:=funext zsj
def zle (zaQ:Str):Option (GMod × Int × Int) :=
 cal (tokF zaQ) λy2=>br (!decide (y2.2.2=(0:Int))) (some ((GMod.mk (Str.mk []) (0:Int) ([]:(List Str)) ([]:(List Int)) ([]:(List GNode))),y2.2.1,y2.2.2)) (cal (zb0 (GPar.mk y2.1 (0:Int) (GMod.mk (Str.mk []) (0:Int) ([]:(List Str)) ([]:(List Int)) ([]:(List GNode))) (0:Int) (0:Int)) (1:Int)) λy7=>cal (zU (GPar.mk y7.2.l y7.2.at_ (GMod.mk y7.1 y7.2.m.tagging y7.2.m.names y7.2.m.types y7.2.m.nodes) y7.2.e y7.2.p) (Str.mk [68,69,70,73,78,73,84,73,79,78,83])) λy10=>jp (ι:=GPar) (λJ14=>cal (zJ y10 (Str.mk [69,88,80,76,73,67,73,84])) λy15=>br y15.1 (cal (zU y15.2 (Str.mk [84,65,71,83])) λy18=>J14 (y18)) (cal (zJ y15.2 (Str.mk [73,77,80,76,73,67,73,84])) λy21=>br y21.1 (cal (zU (GPar.mk y21.2.l y21.2.at_ (GMod.mk y21.2.m.name (1:Int) y21.2.m.names y21.2.m.types y21.2.m.nodes) y21.2.e y21.2.p) (Str.mk [84,65,71,83])) λy24=>J14 (y24)) (cal (zJ y21.2 (Str.mk [65,85,84,79,77,65,84,73,67])) λy27=>br y27.1 (cal (zU (GPar.mk y27.2.l y27.2.at_ (GMod.mk y27.2.m.name (2:Int) y27.2.m.names y27.2.m.types y27.2.m.nodes) y27.2.e y27.2.p) (Str.mk [84,65,71,83])) λy30=>J14 (y30)) (J14 (y27.2))))) (λq13=>cal (zU q13 (Str.mk [58,58,61])) λy33=>cal (zU y33 (Str.mk [66,69,71,73,78])) λy36=>lp (ι:=GPar) (λL40 q39=>jp (ι:=Bool × GPar) (λJ92=>br (decide (q39.e=(0:Int))) (cal (zJ q39 (Str.mk [69,78,68])) λy94=>J92 ((!y94.1),y94.2)) (J92 (false,q39))) (λq91=>br q91.1 (cal (zaS q91.2) λy97=>cal (zb0 y97.2 (1:Int)) λy101=>jp (ι:=Bool) (λJ105=>br (decide (y101.2.e=(0:Int))) (J105 ((decide ((40:Int) <= (y101.2.m.names.length:Int))))) (J105 (false))) (λq104=>jp (ι:=GPar) (λJ108=>br q104 (cal (zbb y101.2 (5:Int) y97.1) λy109=>J108 (y109)) (J108 (y101.2))) (λq107=>cal (zU q107 (Str.mk [58,58,61])) λy112=>cal (zcT fuel y112 (0:Int)) λy115=>asr (Nat.ble (y115.2.m.names.length + ([y101.1]:(List Str)).length) 68719476736) <| asr (Nat.ble (y115.2.m.types.length + ([y115.1]:(List Int)).length) 68719476736) <| L40 ((GPar.mk y115.2.l y115.2.at_ (GMod.mk y115.2.m.name y115.2.m.tagging (y115.2.m.names ++ ([y101.1]:(List Str))) (y115.2.m.types ++ ([y115.1]:(List Int))) y115.2.m.nodes) y115.2.e y115.2.p))))) (jp (ι:=Bool × GPar) (λJ126=>br (decide (q91.2.e=(0:Int))) (cal (zaS q91.2) λy128=>J126 ((!decide (y128.1.kind=(0:Int))),y128.2)) (J126 (false,q91.2))) (λq125=>jp (ι:=GPar) (λJ132=>br q125.1 (cal (zaS q125.2) λy133=>cal (zbb y133.2 (7:Int) y133.1) λy136=>J132 (y136)) (J132 (q125.2))) (λq131=>br (!decide (q131.e=(0:Int))) (some ((GMod.mk (Str.mk []) (0:Int) ([]:(List Str)) ([]:(List Int)) ([]:(List GNode))),q131.p,q131.e)) (some (q131.m,(0:Int),(0:Int)))))))) ((y36))))
theorem zos:zi2=zle:=by
 funext zaQ
 unfold zi2 zle
 rw [zu0]
def ziB (zaQ:Str):Option (GTab × Bool) :=
 br (decide ((3000:Int) < (zaQ.b.length:Int))) (some ((GTab.mk (Str.mk []) ([]:(List Str)) ([]:(List Int)) ([]:(List GTyp))),false)) (cal (zle zaQ) λy2=>br (!decide (y2.2.2=(0:Int))) (some ((GTab.mk (Str.mk []) ([]:(List Str)) ([]:(List Int)) ([]:(List GTyp))),false)) (cal (zlE y2.1) λy4=>jp (ι:=Bool) (λJ7=>br (decide (y4.2.2=(0:Int))) (J7 ((decide ((y4.1.types.length:Int) <= (120:Int))))) (J7 (false))) (λq6=>some (y4.1,q6))))
theorem zho:zc7=ziB:=by
 funext zaQ
 unfold zc7 ziB
 rw [zos]
end Go.Proofs.Q


namespace Go.Proofs.Q
open Go.Sy
set_option maxRecDepth 4000
def zfq (a_n_:Int) (a_s:Str) (a_b:(List UInt8)):Option (Bool) :=
 jp (ι:=Bool) (λJ2=>br (decide ((500:Int) < (a_s.b.length:Int))) (J2 (true)) (J2 ((decide ((500:Int) < (a_b.length:Int)))))) (λq1=>jp (ι:=Bool) (λJ5=>br q1 (J5 (true)) (cal (utf8_ValidString a_s) λy7=>J5 ((!y7)))) (λq4=>br q4 (cal (zf3 ) λy8=>some (y8)) (cal (zc7 (Str.mk [77,32,68,69,70,73,78,73,84,73,79,78,83,32,58,58,61,32,66,69,71,73,78,32,65,32,58,58,61,32,83,69,81,85,69,78,67,69,32,123,32,97,32,73,78,84,69,71,69,82,44,32,98,32,85,84,70,56,83,116,114,105,110,103,44,32,99,32,79,67,84,69,84,32,83,84,82,73,78,71,32,125,32,69,78,68])) λy9=>asr (Nat.ble a_s.b.length 68719476736) <| cal (zgT y9.1 (0:Int) (Val.mk (7:Int) (0:Int) ([]:(List UInt8)) ([(Val.mk (2:Int) a_n_ ([]:(List UInt8)) ([]:(List Val)) (0:Int) ([]:(List Raw))),(Val.mk (6:Int) (0:Int) a_s.b ([]:(List Val)) (0:Int) ([]:(List Raw))),(Val.mk (5:Int) (0:Int) a_b ([]:(List Val)) (0:Int) ([]:(List Raw)))]:(List Val)) (0:Int) ([]:(List Raw)))) λy14=>cal (zgW y9.1 (0:Int) y14.1) λy15=>cal (zf3 ) λy17=>jp (ι:=Bool) (λJ19=>br y17 (J19 (y9.2)) (J19 (false))) (λq18=>jp (ι:=Bool) (λJ22=>br q18 (J22 ((decide (y14.2=(0:Int))))) (J22 (false))) (λq21=>jp (ι:=Bool) (λJ25=>br q21 (J25 ((decide (y15.2.2=(0:Int))))) (J25 (false))) (λq24=>jp (ι:=Bool) (λJ28=>br q24 (J28 ((decide (y15.2.1=(0:Int))))) (J28 (false))) (λq27=>jp (ι:=Bool) (λJ31=>br q27 (cal (zku fuel (Val.mk (7:Int) (0:Int) ([]:(List UInt8)) ([(Val.mk (2:Int) a_n_ ([]:(List UInt8)) ([]:(List Val)) (0:Int) ([]:(List Raw))),(Val.mk (6:Int) (0:Int) a_s.b ([]:(List Val)) (0:Int) ([]:(List Raw))),(Val.mk (5:Int) (0:Int) a_b ([]:(List Val)) (0:Int) ([]:(List Raw)))]:(List Val)) (0:Int) ([]:(List Raw))) y15.1) λy33=>J31 (y33)) (J31 (false))) (λq30=>some (q30)))))))))
end Go.Proofs.Q


namespace Go.Proofs.Q
open Go.Sy
set_option linter.unusedVariables false
set_option maxRecDepth 4000

def conN:GCon:=⟨false,false,false,false,0,0⟩
def tabGood (l:List GTyp):Bool:=decide (l.length <= 1000) && l.all λx=>decide (x.fields.length <= 1000) && decide (x.items.length <= 1000) && (x.fields.all λf=>decide (0 <= f.ty) && decide (f.ty < l.length) && nmOk f.name.b && decide (f.name.b.length <= 90)) && (x.items.all λit=>nmOk it.name.b && decide (it.name.b.length <= 90)) &&
 (!decide (x.kind=10) || (decide (0 <= x.of) && decide (x.of < l.length))) && decide (1 <= x.kind) && decide (x.kind <= 10) && decide ((x.fields.map λf=>f.name).Nodup) && decide ((x.items.map λit=>it.name).Nodup)
structure TG (l:List GTyp):Prop where
 ok:TOk l
 nb:NmB l
 nw:NmW l
theorem zp0 {l:List GTyp} (h:tabGood l=true):TG l:=by
 unfold tabGood at h
 rw [zBa] at h
 have hl:=zOT h.1
 have ha:=λx hx=>List.all_eq_true.1 h.2 x hx
 simp only [zBa] at ha
 refine ⟨⟨hl,λx hx=>zOT (ha x hx).1.1.1.1.1.1.1.1,λx hx=>?_,λx hx f hf=>?_,λx hx hk=>?_,λx hx=>?_⟩,⟨hl,λx hx=>zOT (ha x hx).1.1.1.1.1.1.1.1,λx hx=>?_,λx hx f hf=>?_,λx hx it hit=>?_⟩,⟨λx hx f hf=>?_,λx hx it hit=>?_,λx hx=>?_,λx hx=>?_⟩⟩
 ·have:=zOT (ha x hx).1.1.1.1.1.1.1.2;omega
 ·have:=List.all_eq_true.1 (ha x hx).1.1.1.1.1.1.2 f hf
  simp only [zBa] at this
  exact ⟨zOT this.1.1.1,zOT this.1.1.2⟩
 ·have:=(ha x hx).1.1.1.1.2
  rw [zDT hk,Bool.not_true,Bool.false_or,zBa] at this
  exact ⟨zOT this.1,zOT this.2⟩
 ·exact ⟨zOT (ha x hx).1.1.1.2,zOT (ha x hx).1.1.2⟩
 ·have:=zOT (ha x hx).1.1.1.1.1.1.1.2;omega
 ·have:=List.all_eq_true.1 (ha x hx).1.1.1.1.1.1.2 f hf
  simp only [zBa] at this
  exact zOT this.2
 ·have:=List.all_eq_true.1 (ha x hx).1.1.1.1.1.2 it hit
  simp only [zBa] at this
  exact zOT this.2
 ·have:=List.all_eq_true.1 (ha x hx).1.1.1.1.1.1.2 f hf
  simp only [zBa] at this
  exact this.1.2
 ·have:=List.all_eq_true.1 (ha x hx).1.1.1.1.1.2 it hit
  simp only [zBa] at this
  exact this.1
 ·exact zOT (ha x hx).1.2
 ·exact zOT (ha x hx).2
/-! ### A table is well made: by looking -/
def dokB (v:Val):Bool:=decide (v.b.length <= 8000) && v.l.isEmpty && v.more.isEmpty && decide (0 <= v.kind) && decide (v.kind <= 6) && decide (v.rule=0)
def typB (t:GTyp):Bool:=(decide (t.kind=9) || !t.tags.isEmpty) && decide (t.tags.length <= 100000) && decide (0 <= t.root) && (if t.kind=7 \/ t.kind=8 \/ t.kind=9 then decide (t.root <= t.fields.length) else t.fields.isEmpty && (decide (t.kind=3) || decide (t.root=0))) && (if t.kind=3 then decide (t.root <= t.items.length) else t.items.isEmpty) && decide (t.items.length <= 8001) && (t.items.all λit=>decide (-9223372036854775808 <= it.number) && decide (it.number <= 9223372036854775807)) && t.fields.all λf=>dokB f.dflt
theorem zvS {t:GTyp} (h:typB t=true):TypOk t:=by
 unfold typB at h
 simp only [zBa] at h
 obtain ⟨⟨⟨⟨⟨⟨⟨h1,h2⟩,h3⟩,h4⟩,h5⟩,h6⟩,h7⟩,h8⟩:=h
 refine ⟨λk=>?_,zOT h2,zOT h3,λk=>?_,λk=>?_,λk=>?_,λk=>?_,zOT h6,λit hit=>?_,λf hf=>?_,λk k2=>?_⟩
 ·rw [zDF k,Bool.false_or] at h1
  intro e;rw [e] at h1;cases h1
 ·rw [if_pos k] at h4;exact zOT h4
 ·rw [if_pos k] at h5;exact zOT h5
 ·rw [if_neg k,zBa] at h4;exact List.isEmpty_iff.1 h4.1
 ·rw [if_neg k] at h5;exact List.isEmpty_iff.1 h5
 ·have:=List.all_eq_true.1 h7 it hit
  rw [zBa] at this
  exact ⟨zOT this.1,zOT this.2⟩
 ·have:=List.all_eq_true.1 h8 f hf
  unfold dokB at this
  simp only [zBa] at this
  exact ⟨zOT this.1.1.1.1.1,List.isEmpty_iff.1 this.1.1.1.1.2,List.isEmpty_iff.1 this.1.1.1.2,zOT this.1.1.2,zOT this.1.2,zOT this.2⟩
 ·rw [if_neg k2,zBa,zDF k,Bool.false_or] at h4
  exact zOT h4.2
def kidsJ (S:Nat->Option Nat):List Int->Nat->Option Nat
 | [],a=>some a
 | k :: r,a=>if k=(a:Int) then (match S a with
  | some c=>kidsJ S r c
  | none=>none) else none
theorem zpD {S:Nat->Option Nat} {R:Nat->Nat->Prop} (h:∀ a c,S a=some c->R a c):∀ {l:List Int} {a b:Nat},kidsJ S l a=some b->Kids R l a b
 | [],a,b,e=>by injection e
 | k :: r,a,b,e=>by
  change (if k=(a:Int) then (match S a with | some c=>kidsJ S r c | none=>none) else none)=some b at e
  by_cases hk:k=(a:Int)
  ·rw [if_pos hk] at e
   cases hc:S a with
   | none=>rw [hc] at e;cases e
   | some c=>rw [hc] at e;exact ⟨c,hk,h a c hc,zpD h e⟩
  ·rw [if_neg hk] at e;cases e
def subJ:Nat->List GTyp->Nat->Option Nat
 | 0,_,_=>none
 | h + 1,l,i=>match l[i]? with
  | none=>none
  | some t=>if typB t=true then kidsJ (subJ h l) (kidsT t) (i + 1) else none
theorem zv8:∀ {h:Nat} {l:List GTyp} {i j:Nat},subJ h l i=some j->SubT h l i j:=by
 intro h
 induction h with
 | zero=>intro l i j e;cases e
 | succ h ih =>
  intro l i j e
  change (match l[i]? with | none=>none | some t=>if typB t=true then kidsJ (subJ h l) (kidsT t) (i + 1) else none)=some j at e
  cases ht:l[i]? with
  | none=>rw [ht] at e;cases e
  | some t =>
   rw [ht] at e
   dsimp only at e
   by_cases hb:typB t=true
   ·rw [if_pos hb] at e
    exact ⟨t,ht,zvS hb,zpD (R:=SubT h l) (λa c h=>ih h) e⟩
   ·rw [if_neg hb] at e;cases e
def tabB (t:GTab):Bool:=decide (t.names.length <= 40) && decide (t.roots.length=t.names.length) && decide (t.types.length <= 300) && decide (kidsJ (subJ 17 t.types) t.roots 0=some t.types.length) && (List.range t.names.length).all λp=>(t.names[p]?).all λs=>decide (fnd t.names s=(p:Int))
theorem ztZ {t:GTab} (h:tabB t=true):TabOk t:=by
 unfold tabB at h
 simp only [zBa] at h
 obtain ⟨⟨⟨⟨h1,h2⟩,h3⟩,h4⟩,h5⟩:=h
 refine ⟨zOT h1,zOT h2,zOT h3,zpD (R:=SubT 17 t.types) (λa c h=>zv8 h) (zOT h4),λp s hp=>?_⟩
 have hlt:=(List.getElem?_eq_some_iff.1 hp).1
 have:=List.all_eq_true.1 h5 p (List.mem_range.2 hlt)
 rw [hp] at this
 exact zOT this

/-! ### awake -/
def tabW:GTab:=⟨⟨[77]⟩,[⟨[65]⟩],[0],[⟨7,[⟨0,16⟩],conN,[],[⟨⟨[97]⟩,1,false,false,zeroV,0⟩,⟨⟨[98]⟩,2,true,false,zeroV,0⟩],2,false,0⟩,⟨2,[⟨0,2⟩],conN,[],[],0,false,0⟩,⟨1,[⟨0,1⟩],conN,[],[],0,false,0⟩]⟩
theorem zuT:zc7 (Str.mk [77,32,68,69,70,73,78,73,84,73,79,78,83,32,58,58,61,32,66,69,71,73,78,32,65,32,58,58,61,32,83,69,81,85,69,78,67,69,32,123,32,97,32,73,78,84,69,71,69,82,44,32,98,32,66,79,79,76,69,65,78,32,79,80,84,73,79,78,65,76,32,125,32,69,78,68])=some (tabW,true):=by
 rw [zho];kernel_rfl
theorem zv6:TG tabW.types:=zp0 (by kernel_rfl)
theorem zvy:TabOk tabW:=ztZ (by kernel_rfl)
def valW:Val:=leafV 7 0 [] [leafV 2 5 [] [],leafV 1 1 [] []]
theorem zrP {t:GTab} {h:Nat} {i n:Int} {x:GTyp} (h0:0 <= i) (hx:t.types[i.toNat]?=some x) (hk:x.kind=2) (hc:(x.con.more || wthn x.con n)=true):Fit t (h + 1) i (leafV 2 n [] []) :=
 ⟨h0,x,hx,.inr ⟨hk.symm,.inr (.inl ⟨hk,rfl,hc⟩)⟩⟩
theorem zuy {t:GTab} {h:Nat} {i n:Int} {x:GTyp} (h0:0 <= i) (hx:t.types[i.toNat]?=some x) (hk:x.kind=1) (hc:(decide (n=0) || decide (n=1))=true):Fit t (h + 1) i (leafV 1 n [] []) :=
 ⟨h0,x,hx,.inr ⟨hk.symm,.inl ⟨hk,rfl,hc⟩⟩⟩
theorem zr8 {t:GTab} {h:Nat} {i k:Int} {b:List UInt8} {x:GTyp} (h0:0 <= i) (hx:t.types[i.toNat]?=some x) (hk:x.kind=k) (k56:k=5 \/ k=6) (hl:b.length <= 70000) (hc:(x.con.more || wthn x.con (b.length:Int))=true) (hv:k=5 \/ Lib.validD b=true):Fit t (h + 1) i (leafV k 0 b []):=by
 subst hk
 exact ⟨h0,x,hx,.inr ⟨rfl,.inr (.inr (.inr (.inr (.inl ⟨k56,rfl,by show (b.length:Int) <= _;omega,hc,hv.imp id λh=>by show zei b=_;rw [zim b (by omega),h]⟩))))⟩⟩
theorem zrQ {t:GTab} {h:Nat} {i:Int} {l:List Val} {x:GTyp} (h0:0 <= i) (hx:t.types[i.toNat]?=some x) (hk:x.kind=7) (hl:l.length=x.fields.length) (hf:∀ (k:Nat) f w,x.fields[k]?=some f->l[k]?=some w->FldF x (Fit t h) k f w) (hs:slots x=[]):Fit t (h + 1) i (leafV 7 0 [] l) :=
 ⟨h0,x,hx,.inr ⟨hk.symm,.inr (.inr (.inr (.inr (.inr (.inr (.inr ⟨.inl hk,rfl,λ_=>rfl,hl,hf,λs hs'=>by rw [hs] at hs';cases hs'⟩))))))⟩⟩
theorem there {x:GTyp} {F:Int->Val->Prop} {k:Nat} {f:GFld} {w:Val} (h1:w.kind ≠ 0) (h2:F f.ty w) (h3:f.has=false):FldF x F k f w:=.inr ⟨h1,h2,λh=>by rw [h3] at h;cases h⟩
theorem ziA {k n:Int} {b:List UInt8} {l:List Val} (h:inI64 n) (hl:∀ w ∈ l,I64V w):I64V (leafV k n b l):=by
 unfold inI64 at h
 exact .mk h.1 (by have:=h.2;show n <= _;omega) hl
theorem zqm:zf3=some true:=by
 refine T.eqs ?_
 unfold zf3
 have hF:Fit tabW 17 0 valW:=zrQ (zIl _) rfl rfl rfl (λk f w hf hw=>by
  match k,hf,hw with
  | 0,hf,hw=>cases hf;cases hw;exact there (show (2:Int) ≠ 0 by decide) (zrP (by decide) rfl rfl rfl) rfl
  | 1,hf,hw=>cases hf;cases hw;exact there (show (1:Int) ≠ 0 by decide) (zuy (by decide) rfl rfl rfl) rfl
  | k + 2,hf,hw=>cases hw) rfl
 have hI:I64V valW:=ziA (ziN (by decide) (by decide)) λw hw=>by
  simp only [List.mem_cons,List.not_mem_nil,or_false] at hw
  rcases hw with e | e <;> subst e <;> exact ziA (ziN (by decide) (by decide)) λw hw=>by cases hw
 have hf:Fine valW:=zdW (zNz _) (by decide) λw hw=>by
  simp only [List.mem_cons,List.not_mem_nil,or_false] at hw
  rcases hw with e | e <;> subst e <;> exact zdW (zNz _) (zNz _) λw hw=>by cases hw
 have hb:bare valW=true:=by decide +kernel
 have hc:cnt valW <= 5000:=by decide +kernel
 have hp:=zqA zvy zv6.nb hF hb hI hf hc
 have ht:txt 17 tabW.types 0 valW=[123,32,97,32,53,44,32,98,32,84,82,85,69,32,125]:=by
  have e5:Lib.itoa 5=[53]:=by
   unfold Lib.itoa
   rw [if_neg (by decide),Lib.decDigits_one (by decide)];rfl
  show brc [[97] ++ 32 :: Lib.itoa 5,[98] ++ 32 :: [84,82,85,69]]=_
  rw [e5];rfl
 unfold pTxt at hp
 rw [ht,if_neg (by decide)] at hp
 refine T.eq zuT (T.eq hp ?_)
 exact T.and' (T.and' (T.some rfl))

/-! ### NoteLeaves -/
def tabL:GTab:=⟨⟨[77]⟩,[⟨[65]⟩],[0],[⟨7,[⟨0,16⟩],conN,[],[⟨⟨[97]⟩,1,false,false,zeroV,0⟩,⟨⟨[98]⟩,2,false,false,zeroV,0⟩,⟨⟨[99]⟩,3,false,false,zeroV,0⟩],3,false,0⟩,⟨2,[⟨0,2⟩],conN,[],[],0,false,0⟩,⟨6,[⟨0,12⟩],conN,[],[],0,false,0⟩,⟨5,[⟨0,4⟩],conN,[],[],0,false,0⟩]⟩
theorem zu9:zc7 (Str.mk [77,32,68,69,70,73,78,73,84,73,79,78,83,32,58,58,61,32,66,69,71,73,78,32,65,32,58,58,61,32,83,69,81,85,69,78,67,69,32,123,32,97,32,73,78,84,69,71,69,82,44,32,98,32,85,84,70,56,83,116,114,105,110,103,44,32,99,32,79,67,84,69,84,32,83,84,82,73,78,71,32,125,32,69,78,68])=some (tabL,true):=by
 rw [zho];kernel_rfl
theorem zqZ:TG tabL.types:=zp0 (by kernel_rfl)
theorem zr1:TabOk tabL:=ztZ (by kernel_rfl)
def valL (n:Int) (s b:List UInt8):Val:=leafV 7 0 [] [leafV 2 n [] [],leafV 6 0 s [],leafV 5 0 b []]
theorem zqB (n:Int) (hn:inI64 n) (s:Str) (b:List UInt8):zfq n s b=some true:=by
 refine T.eqs ?_
 unfold zfq
 refine T.orJ (d:=decide ((500:Int) < (b.length:Int))) (λJ k=>k) (T.orJ (d:=!Lib.validD s.b) (λJ k=>T.eq (y:=Lib.validD s.b) rfl k) ?_)
 refine T.br (λ_=>T.eq zqm (T.some rfl)) λh=>?_
 rw [Bool.or_eq_false_iff,Bool.or_eq_false_iff] at h
 have h1:=zOF h.1.1
 have h2:=zOF h.1.2
 have h3:Lib.validD s.b=true:=by simpa using h.2
 have hF:Fit tabL 17 0 (valL n s.b b):=zrQ (zIl _) rfl rfl rfl (λk f w hf hw=>by
  match k,hf,hw with
  | 0,hf,hw=>cases hf;cases hw;exact there (show (2:Int) ≠ 0 by decide) (zrP (by decide) rfl rfl rfl) rfl
  | 1,hf,hw=>cases hf;cases hw;exact there (show (6:Int) ≠ 0 by decide) (zr8 (by decide) rfl rfl (.inr rfl) (by omega) rfl (.inr h3)) rfl
  | 2,hf,hw=>cases hf;cases hw;exact there (show (5:Int) ≠ 0 by decide) (zr8 (by decide) rfl rfl (.inl rfl) (by omega) rfl (.inl rfl)) rfl
  | k + 3,hf,hw=>cases hw) rfl
 have hI:I64V (valL n s.b b):=ziA (ziN (by decide) (by decide)) λw hw=>by
  simp only [List.mem_cons,List.not_mem_nil,or_false] at hw
  rcases hw with e | e | e <;> subst e
  ·exact ziA hn λw hw=>by cases hw
  ·exact ziA (ziN (by decide) (by decide)) λw hw=>by cases hw
  ·exact ziA (ziN (by decide) (by decide)) λw hw=>by cases hw
 have hf:Fine (valL n s.b b):=zdW (zNz _) (by simp) λw hw=>by
  simp only [List.mem_cons,List.not_mem_nil,or_false] at hw
  rcases hw with e | e | e <;> subst e
  ·exact zdW (zNz _) (zNz _) λw hw=>by cases hw
  ·exact zdW (by omega) (zNz _) λw hw=>by cases hw
  ·exact zdW (by omega) (zNz _) λw hw=>by cases hw
 have hb:bare (valL n s.b b)=true:=by simp [valL,leafV,zks]
 have hc:cnt (valL n s.b b)=4:=by simp [valL,zha]
 have hn0:=hI.kid (leafV 2 n [] []) zMs
 have hp:=zqA zr1 zqZ.nb hF hb hI hf (by omega)
 have ht:(txt 17 tabL.types 0 (valL n s.b b)).length <= 8000:=by
  show (brc [[97] ++ 32 :: Lib.itoa n,[98] ++ 32 :: 34 :: (esc s.b ++ [34]),[99] ++ 32 :: 39 :: (hexE b ++ [39,72])]).length <= 8000
  have h1:=zpI [[97] ++ 32 :: Lib.itoa n,[98] ++ 32 :: 34 :: (esc s.b ++ [34]),[99] ++ 32 :: 39 :: (hexE b ++ [39,72])]
  have h2:=zlG hn0.lo hn0.hi
  have h3:=zj0 s.b
  have h4:=zlD b
  change (Lib.itoa n).length <= 20 at h2
  simp only [List.map_cons,List.map_nil,List.sum_cons,List.sum_nil,zLa,zLc,zLn] at h1
  omega
 have hr:=ztf zr1 zqZ.ok zqZ.nw hF hb hI hf (by omega) ht
 unfold pTxt at hp
 rw [if_neg (by omega)] at hp
 refine T.eq zu9 (T.abl (by omega) (T.eq hp (T.eq hr (T.eq zqm ?_))))
 refine T.and' (T.and' (T.and' (T.and' ?_)))
 refine T.andJ (d:=true) (λJ k=>T.cal (zqW (k:=4) (n:=fuel) (by omega) (by unfold fuel;decide) hf _) λr _ hr=>?_) (T.some rfl)
 rw [hr.2 rfl]
 exact k
end Go.Proofs.Q


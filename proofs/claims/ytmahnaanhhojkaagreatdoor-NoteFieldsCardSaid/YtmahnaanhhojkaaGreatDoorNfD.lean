/- NoteFields: the law's model answers true. No condition: general lemmas. -/
import Derived.Test.YtmahnaanhhojkaaGreatDoorNfA
import Derived.Test.YtmahnaanhhojkaaGreatDoorNfB
import Derived.Test.YtmahnaanhhojkaaGreatDoorNfC
set_option linter.unusedVariables false
set_option linter.unusedSimpArgs false

namespace Go.Proofs.Q
open Go.Sy
set_option linter.unusedVariables false

section leaf
variable {L:List GTok} {t:GTab} {p0 a:Int} {ts:List GTok}
theorem znx {v:Val} {r:List GTok} (h:Sd L a ts) (h2:Sd L (a + 1) r) (hl:r.length + 1=ts.length) (hf:Fine v) (hc:cnt v <= 1000):KR L t p0 ts (.ok v r) (true,v,st L t p0 (a + 1)) :=
 ⟨a + 1,rfl,h2,hf,by omega⟩
theorem zjS {v:Val} {p e:Int} {b:Bool} {s:GStm} {g:GTab} (h:Sd L a ts) (he:e ≠ 0) (hf:Fine v) (hc:cnt v <= 1000):KR L t p0 ts (.bad p e) (b,v,⟨s,g,p,e⟩):=by
 obtain ⟨_,_,eT,_,_,_⟩:=h.cons
 exact ⟨rfl,rfl,he,hf,by show cnt v <= _;rw [eT,zLc];omega⟩
theorem zf0 {k n:Int} {b:List UInt8} (hb:b.length <= 9000):Fine (leafV k n b []):=zew (by omega) (zNz _) λw hw=>by cases hw
theorem zhP (k n:Int) (b:List UInt8):cnt (leafV k n b []) <= 1000:=by rw [zgr];simp
end leaf
theorem zuP {s:Str} {r:Int × Er} (h:zbn s 10 64=some r):numV s=r.1:=by unfold numV;rw [h]
theorem zrK {s:Str} {r:List UInt8} (h:zdP s=some r):octV s=r:=by unfold octV;rw [h]
theorem zuf:∃ r,zbn ⟨[]⟩ 10 64=some r:=⟨_,rfl⟩
theorem zu3:zdP ⟨[]⟩=some []:=by
 refine T.eqs ?_
 unfold zdP
 exact T.lp (ι:=List UInt8 × Int) (λq=>q=([],0)) (λq=>0) rfl (by omega) λJ q e hJ=>by
  subst e
  exact T.ck (by decide) (T.br (λh=>by cases h) λ_=>T.some rfl)
theorem zqI {L:List GTok} {a:Int} {ts:List GTok} (h:Sd L a ts) {k:Int} {s:Str} {r:List GTok} (e:pOf k ts=some (s,r)) (hk:k ≠ 0):∃ y ∈ L,y.kind=k/\y.text=s/\Sd L (a + 1) r/\r.length + 1=ts.length:=by
 obtain ⟨y,e1,e2,e3⟩:=ztL e
 obtain ⟨h1,h2⟩:=h.next e1 (by rw [e2];exact hk)
 have hm:y ∈ L.drop a.toNat:=by rw [h.dr,e1];exact zMs
 exact ⟨y,List.mem_of_mem_drop hm,e2,e3,h1,h2⟩
set_option maxHeartbeats 1000000 in
theorem pvP {t:GTab} (ht:TOk t.types) {L:List GTok} {p0:Int} (hG:∀ y ∈ L,TokG y):∀ (h n:Nat) (i d:Int),0 <= d->d + h=17->5 * h + 5 <= n->0 <= i->i < t.types.length->Rd L t p0 (pv h t.types i) λs=>za7 n s i d:=by
 intro h
 induction h with
 | zero =>
  intro n i d d0 hd hn i0 i1 a ts A
  obtain ⟨n,rfl⟩:∃ n',n=n' + 1:=⟨n - 1,by omega⟩
  rw [zjA]
  unfold zc5
  refine T.br (λ_=>T.eq (zk6 A 5) (T.some ⟨rfl,rfl,rfl,by decide,zkx,?_⟩)) λh=>absurd (zOF h) (by omega)
  obtain ⟨_,_,eT,_,_,_⟩:=A.cons
  show cnt zeroV <= _
  rw [zlK,eT,zLc];omega
 | succ h ih =>
  intro n i d d0 hd hn i0 i1 a ts A
  obtain ⟨n,rfl⟩:∃ n',n=n' + 4:=⟨n - 4,by omega⟩
  rw [zjA]
  unfold zc5
  refine T.br (λh=>absurd (zOT h) (by omega)) λ_=>T.or' (T.br (λh=>?_) λ_=>?_)
  ·rw [Bool.or_eq_true] at h
   rcases h with h | h
   ·exact absurd (zOT h) (by omega)
   ·have h:(t.types.length:Int) <= i:=zOT h
    omega
  refine T.get i0 i1 λx hx=>?_
  have hx:t.types[i.toNat]?=some x:=hx
  have hxm:x ∈ t.types:=List.mem_of_getElem? hx
  have hfl:=ht.fl x hxm
  have hil:=ht.il x hxm
  have hkd:=ht.kd x hxm
  rw [zt2 hx]
  obtain ⟨R,eR⟩:∃ R,R=pvK (pv h t.types) x ts:=⟨_,rfl⟩
  rw [<- eR]
  refine T.jp (KR L t p0 ts R) (λJ k=>?_) λq hq=>?_
  ·have kk:∀ {R'},R=R'->∀ q,KR L t p0 ts R' q->T (VR L t p0 ts R) (J q):=λe q hq=>k q (e ▸ hq)
   unfold pvK at eR
   refine T.br (λhk=>?_) λh1=>?_
   ·have hk:=zOT hk
    rw [if_pos hk] at eR
    refine T.eq (zsl A _) ?_
    cases h1:pIs [84,82,85,69] ts with
    | some r =>
     obtain ⟨A1,l1⟩:=A.is h1
     rw [h1] at eR
     refine T.br (λ_=>kk eR _ ?_) λh=>by cases h
     rw [hk];exact znx A A1 l1 (zf0 (zNz _)) (zhP _ _ _)
    | none =>
     rw [h1] at eR
     refine T.br (λh=>by cases h) λ_=>T.eq (zlc A _) (kk eR _ ?_)
     rw [hk]
     cases h2:pIs [70,65,76,83,69] ts with
     | some r =>
      obtain ⟨A1,l1⟩:=A.is h2
      exact znx A A1 l1 (zf0 (zNz _)) (zhP _ _ _)
     | none=>exact zjS A (by decide) (zf0 (b:=[]) (zNz _)) (zhP _ _ _)
   have h1:=zOF h1
   rw [if_neg h1] at eR
   refine T.br (λhk=>?_) λh4=>?_
   ·have hk:=zOT hk
    rw [if_pos hk] at eR
    refine T.eq (zlc A _) (kk eR _ ?_)
    rw [hk]
    cases h2:pIs [78,85,76,76] ts with
    | some r =>
     obtain ⟨A1,l1⟩:=A.is h2
     exact znx A A1 l1 (zf0 (zNz _)) (zhP _ _ _)
    | none=>exact zjS A (by decide) (zf0 (b:=[]) (zNz _)) (zhP _ _ _)
   have h4:=zOF h4
   rw [if_neg h4] at eR
   refine T.br (λhk=>?_) λh2=>?_
   ·have hk:=zOT hk
    rw [if_pos hk] at eR
    refine T.eq (zvt A 3) ?_
    cases h3:pOf 3 ts with
    | some q =>
     obtain ⟨s,r⟩:=q
     obtain ⟨y,ym,y1,y2,A1,l1⟩:=zqI A h3 (by decide)
     obtain ⟨z,hz⟩:=(hG y ym).num y1
     rw [y2] at hz
     rw [h3] at eR
     refine T.eq hz (kk eR _ ?_)
     rw [hk,<- zuP hz]
     exact znx A A1 l1 (zf0 (zNz _)) (zhP _ _ _)
    | none =>
     rw [h3] at eR
     obtain ⟨z,hz⟩:=zuf
     refine T.eq hz (kk eR _ ?_)
     exact zjS A (by decide) (zf0 (b:=[]) (zNz _)) (zhP _ _ _)
   have h2:=zOF h2
   rw [if_neg h2] at eR
   refine T.br (λhk=>?_) λh3=>?_
   ·have hk:=zOT hk
    rw [if_pos hk] at eR
    refine T.eq (zvy A x (by omega)) (kk eR _ ?_)
    rw [hk]
    cases h3:pItem x ts with
    | some q =>
     obtain ⟨m,r⟩:=q
     cases ts with
     | nil=>cases h3
     | cons y r' =>
      change (bif decide (y.kind=2) then (iidx y.text x.items).map (λj=>(j,r')) else none)=some (m,r) at h3
      cases hk2:decide (y.kind=2) with
      | false=>rw [hk2] at h3;cases h3
      | true =>
       rw [hk2,zCt] at h3
       obtain ⟨j',_,e2⟩:=Option.map_eq_some_iff.1 h3
       cases e2
       obtain ⟨A1,l1⟩:=A.next rfl (by have:=zOT hk2;omega)
       exact znx A A1 l1 (zf0 (zNz _)) (zhP _ _ _)
    | none=>exact zjS A (by decide) (zf0 (b:=[]) (zNz _)) (zhP _ _ _)
   have h3:=zOF h3
   rw [if_neg h3] at eR
   refine T.br (λhk=>?_) λh5=>?_
   ·have hk:=zOT hk
    rw [if_pos hk] at eR
    refine T.eq (zvt A 4) ?_
    cases h3:pOf 4 ts with
    | some q =>
     obtain ⟨s,r⟩:=q
     obtain ⟨y,ym,y1,y2,A1,l1⟩:=zqI A h3 (by decide)
     obtain ⟨z,hz,hzl⟩:=(hG y ym).hex y1
     rw [y2] at hz
     rw [h3] at eR
     refine T.eq hz (kk eR _ ?_)
     rw [hk,<- zrK hz]
     exact znx A A1 l1 (zf0 (by rw [zrK hz];exact hzl)) (zhP _ _ _)
    | none =>
     rw [h3] at eR
     refine T.eq zu3 (kk eR _ ?_)
     exact zjS A (by decide) (zf0 (b:=[]) (zNz _)) (zhP _ _ _)
   have h5:=zOF h5
   rw [if_neg h5] at eR
   refine T.br (λhk=>?_) λh6=>?_
   ·have hk:=zOT hk
    rw [if_pos hk] at eR
    refine T.eq (zvt A 7) ?_
    cases h3:pOf 7 ts with
    | some q =>
     obtain ⟨s,r⟩:=q
     obtain ⟨y,ym,y1,y2,A1,l1⟩:=zqI A h3 (by decide)
     have hz:=(hG y ym).len
     rw [y2] at hz
     rw [h3] at eR
     refine T.abl (by dsimp only;omega) (kk eR _ ?_)
     rw [hk]
     exact znx A A1 l1 (zf0 hz) (zhP _ _ _)
    | none =>
     rw [h3] at eR
     refine T.abl (zNz _) (kk eR _ ?_)
     exact zjS A (by decide) (zf0 (b:=[]) (zNz _)) (zhP _ _ _)
   have h6:=zOF h6
   rw [if_neg h6] at eR
   refine T.br (λhk=>?_) λh10=>?_
   ·have hk:=zOT hk
    rw [if_pos hk] at eR
    obtain ⟨o0,o1⟩:=ht.ko x hxm hk
    refine T.cal (zuW (n:=n + 1) (x:=x) (d:=d) (v0:=Val.mk x.kind 0 [] [] 0 []) (by omega) (ih (n + 1) x.of (d + 1) (by omega) (by omega) (by omega) o0 o1) A rfl) λy _ hy=>kk eR _ ?_
    generalize pLst (pv h t.types x.of) ts=Q at hy ⊢
    cases Q with
    | ok l rest =>
     obtain ⟨a',e1,A1,f1,g1,c1⟩:=hy
     subst e1
     simp only [Val.kind_mk,Val.n_mk,Val.b_mk,Val.rule_mk,Val.more_mk]
     rw [hk]
     exact ⟨a',rfl,A1,zew (zNz _) (by omega) f1,by rw [zgr];omega⟩
    | bad p e =>
     obtain ⟨e1,e2,e3,e4,l,e5,f1,g1,c1⟩:=hy
     refine ⟨e2,e3,e4,?_,?_⟩
     ·show Fine y.2.2
      rw [e5];exact zew (zNz _) (by omega) f1
     ·show cnt y.2.2 <= _
      rw [e5]
      have:=zgr x.kind 0 [] l
      unfold leafV at this
      simp only [Val.kind_mk,Val.n_mk,Val.b_mk,Val.rule_mk,Val.more_mk]
      rw [this];omega
   have h10:=zOF h10
   rw [if_neg h10] at eR
   refine T.br (λhk=>?_) λh9=>?_
   ·have hk:=zOT hk
    rw [if_pos hk] at eR
    refine T.eq (zrn A x.fields (by omega) 0 (by omega)) ?_
    cases hp:pFld x.fields 0 ts with
    | none =>
     rw [hp] at eR
     refine T.jp0 (T.br (λh=>by cases h) λ_=>T.br (λh=>by cases h) λ_=>kk eR _ ?_)
     exact zjS A (by decide) (zf0 (b:=[]) (zNz _)) (zhP _ _ _)
    | some q =>
     obtain ⟨j,r⟩:=q
     rw [hp] at eR
     have hp':=hp
     obtain ⟨y0,r0,ey,_,_,_⟩:=A.cons
     rw [ey] at hp'
     change (bif decide (y0.kind=2) then (fidx x.fields y0.text (x.fields.length - 0) 0).map (λj=>(j,r0)) else none)=some (j,r) at hp'
     cases hk2:decide (y0.kind=2) with
     | false=>rw [hk2] at hp';cases hp'
     | true =>
      rw [hk2,zCt] at hp'
      obtain ⟨j',hj,e2⟩:=Option.map_eq_some_iff.1 hp'
      cases e2
      obtain ⟨A1,l1⟩:=A.next ey (by have:=zOT hk2;omega)
      obtain ⟨_,y,hy,_⟩:=zro hj
      have hjl:=(List.getElem?_eq_some_iff.1 hy).1
      have egy:getI x.fields (j:Int)=some y:=by rw [zdT (by omega) (by omega)];exact congrArg some (List.getElem?_eq_some_iff.1 hy).2
      refine T.jp0 (T.br (λ_=>T.eq (zlc A1 [58]) ?_) λh=>by cases h)
      dsimp only at eR ⊢
      cases h58:pIs [58] r with
      | none =>
       rw [h58] at eR
       refine T.br (λh=>by cases h) λ_=>kk eR _ ?_
       exact zjS A (by decide) (zf0 (b:=[]) (zNz _)) (zhP _ _ _)
      | some r2 =>
       obtain ⟨A2,l2⟩:=A1.is h58
       rw [h58] at eR
       dsimp only at eR
       rw [hy] at eR
       dsimp only at eR
       obtain ⟨y0',y1'⟩:=ht.kf x hxm y (List.mem_of_getElem? hy)
       refine T.br (λ_=>T.eq egy (T.ck (by omega) (T.cal (ih (n + 3) y.ty (d + 1) (by omega) (by omega) (by omega) y0' y1' _ _ A2) λz _ hz=>kk eR _ ?_))) λh=>by cases h
       rw [hk]
       cases hR:pv h t.types y.ty r2 with
       | ok w rest =>
        rw [hR] at hz
        obtain ⟨a2,e1,A3,f1,c1⟩:=hz
        subst e1
        refine ⟨a2,rfl,A3,zew (zNz _) (by simp) (λw' hw'=>by rw [zMo.1 hw'];exact f1),?_⟩
        rw [zgr,List.map_singleton,List.sum_singleton];omega
       | bad p e =>
        rw [hR] at hz
        obtain ⟨e1,e2,e3,e4,e5,e6⟩:=hz
        refine ⟨e2,e3,e4,zew (k:=9) (n:=(j:Int)) (zNz _) (by simp) (λw' hw'=>by rw [zMo.1 hw'];exact e5),?_⟩
        show cnt (leafV 9 (j:Int) [] [z.1]) <= _
        rw [zgr,List.map_singleton,List.sum_singleton];omega
   have h9:=zOF h9
   rw [if_neg h9] at eR
   refine T.jp (λb=>b=true) (λJ2 k2=>T.br (λh=>k2 _ h) λh=>k2 _ (zDT (by have:=zOF h;omega))) λb hb=>?_
   subst hb
   refine T.br (λ_=>?_) λh=>by cases h
   refine T.cal (zvu (n:=n) (x:=x) (d:=d) (v0:=Val.mk x.kind 0 [] [] 0 []) (f:=pv h t.types) (by omega) hfl (λy hy=>by
    obtain ⟨y0,y1⟩:=ht.kf x hxm y hy
    exact ih n y.ty (d + 1) (by omega) (by omega) (by omega) y0 y1) A) λy _ hy=>kk eR _ ?_
   generalize pSeq x.fields (pv h t.types) ts=Q at hy ⊢
   cases Q with
   | ok l rest =>
    obtain ⟨a',e1,A1,f1,g1,c1⟩:=hy
    subst e1
    exact ⟨a',rfl,A1,zew (zNz _) (by omega) f1,by rw [zgr];omega⟩
   | bad p e =>
    obtain ⟨e1,e2,e3,e4,l,e5,f1,g1,c1⟩:=hy
    refine ⟨e2,e3,e4,?_,?_⟩
    ·show Fine y.2.2
     rw [e5];exact zew (zNz _) (by omega) f1
    ·show cnt y.2.2 <= _
     rw [e5]
     have:=zgr x.kind 0 [] l
     unfold leafV at this
     simp only [Val.kind_mk,Val.n_mk,Val.b_mk,Val.rule_mk,Val.more_mk]
     rw [this];omega
  ·refine T.and' (T.some ?_)
   cases R with
   | ok v rest =>
    obtain ⟨a',e1,A1,f1,c1⟩:=hq
    subst e1
    exact ⟨a',rfl,A1,f1,c1⟩
   | bad p e =>
    obtain ⟨e1,e2,e3,f1,c1⟩:=hq
    refine ⟨?_,e1,e2,e3,f1,c1⟩
    show (q.1 && decide (q.2.2.e=0))=false
    rw [e2,zDF e3,Bool.and_false]
end Go.Proofs.Q


namespace Go.Proofs.Q
open Go.Sy
set_option linter.unusedVariables false

/-! ### Octets as digits of 16 -/
def hexv (c:UInt8):Nat:=if c.toNat <= 57 then c.toNat - 48 else c.toNat - 55
def hexP:List UInt8->List UInt8
 | a :: b :: r=>UInt8.ofNat (hexv a * 16 + hexv b) :: hexP r
 | _=>[]
def hexL:List UInt8:=[48,49,50,51,52,53,54,55,56,57,65,66,67,68,69,70]
def hexChk (a b:UInt8):Bool:=match zdx ⟨[a,b]⟩ 16 8 with
 | some r=>decide (r.1.toUInt8=UInt8.ofNat (hexv a * 16 + hexv b))
 | none=>false
theorem zut:(hexL.all λa=>hexL.all λb=>hexChk a b)=true:=by kernel_rfl
theorem zsM:∀ X:Fin 256,isHex (UInt8.ofNat X.val)=true->UInt8.ofNat X.val ∈ hexL:=by decide +kernel
theorem zrq {c:UInt8} (h:isHex c=true):c ∈ hexL:=by
 have:=zsM ⟨c.toNat,c.toNat_lt⟩
 simp only [UInt8.ofNat_toNat] at this
 exact this h
theorem zwe {a b:UInt8} (ha:isHex a=true) (hb:isHex b=true):T (λr=>r.1.toUInt8=UInt8.ofNat (hexv a * 16 + hexv b)) (zdx ⟨[a,b]⟩ 16 8):=by
 have h:=List.all_eq_true.1 (List.all_eq_true.1 zut a (zrq ha)) b (zrq hb)
 unfold hexChk at h
 cases hp:zdx ⟨[a,b]⟩ 16 8 with
 | none=>rw [hp] at h;cases h
 | some r=>rw [hp] at h;exact ⟨r,rfl,zOT h⟩
theorem zpZ:∀ l:List UInt8,(hexP l).length <= l.length
 | []=>zNl _
 | [_]=>zNz _
 | a :: b :: r=>by
  have:=zpZ r
  show (hexP r).length + 1 <= r.length + 1 + 1
  omega
theorem zsd {l:List UInt8} (h:l.all isHex=true) (h2:l.length % 2=0) (hl:l.length <= 1000000):zdP ⟨l⟩=some (hexP l):=by
 refine T.eqs ?_
 unfold zdP
 refine T.lp (ι:=List UInt8 × Int) (λq=>0 <= q.2/\q.2 <= (l.length:Int)/\q.2.toNat % 2=0/\q.1.length <= q.2.toNat/\q.1 ++ hexP (l.drop q.2.toNat)=hexP l) (λq=>((l.length:Int) - q.2).toNat) ⟨zIl _,by dsimp only;omega,rfl,zNl _,rfl⟩ (by dsimp only;omega) λJ q ⟨q0,q1,q2,q3,q4⟩ hJ=>?_
 obtain ⟨acc,k⟩:=q
 dsimp only at q0 q1 q2 q3 q4 hJ ⊢
 refine T.ck (by omega) (T.br (λhb=>?_) λhb=>?_)
 ·have hb:=zOT hb
  refine T.ck (by omega) (T.asd (by omega) ?_)
  obtain ⟨a,ha⟩:∃ a,l[k.toNat]?=some a:=⟨_,List.getElem?_eq_getElem (by omega)⟩
  obtain ⟨b,hb'⟩:∃ b,l[k.toNat + 1]?=some b:=⟨_,List.getElem?_eq_getElem (by omega)⟩
  have hd:l.drop k.toNat=a :: b :: l.drop (k.toNat + 2):=by
   obtain ⟨h1,h2⟩:=List.getElem?_eq_some_iff.1 ha
   obtain ⟨h3,h4⟩:=List.getElem?_eq_some_iff.1 hb'
   rw [List.drop_eq_getElem_cons h1,h2,List.drop_eq_getElem_cons h3,h4]
  have e1:((l.take (k + 2).toNat).drop k.toNat)=[a,b]:=by
   rw [show (k + 2).toNat=k.toNat + 2 by omega,List.drop_take,hd,show k.toNat + 2 - k.toNat=2 by omega];rfl
  rw [e1]
  have ha':=List.all_eq_true.1 h a (List.mem_of_getElem? ha)
  have hb2:=List.all_eq_true.1 h b (List.mem_of_getElem? hb')
  refine T.cal (zwe ha' hb2) λr _ hr=>T.abl (by simp only [zLs];omega) (T.ck (by omega) (hJ _ ⟨by dsimp only;omega,by dsimp only;omega,by dsimp only;omega,?_,?_⟩ (by dsimp only;omega)))
  ·dsimp only
   rw [zLa,zLs];omega
  ·dsimp only
   rw [<- q4,hd,show (k + 2).toNat=k.toNat + 2 by omega,hr,zLA];rfl
 ·have hb:=zOF hb
  refine T.some ?_
  have e:l.drop k.toNat=[]:=zDn (by omega)
  rw [<- q4,e]
  exact (List.append_nil _).symm

/-! ### What is known of the signs of a text -/
theorem zoy (n:Nat):∀ (f:Nat) (b:List UInt8) (acc:List GTok),(toksF n f b acc).1.length <= acc.length + b.length + 1
 | 0,b,acc=>by simp [toksF]
 | f + 1,b,acc=>by
  rw [zgS]
  have hwl:=zfn b .out
  cases hwh:wh .out b with
  | nil=>simp
  | cons c r =>
   rw [hwh] at hwl
   simp only
   cases ho:oneS (c :: r) with
   | none=>simp
   | some p =>
    obtain ⟨k,t,r'⟩:=p
    simp only
    have ih:=zoy n f r' (acc ++ [⟨k,⟨t⟩,(n:Int) - ((c :: r).length:Int)⟩])
    have hol:=zjO ho
    simp only [zLa,zLs] at ih
    omega
theorem zs6 (b:List UInt8):(toks b).1.length <= 8001:=by
 unfold toks
 by_cases h:8000 < b.length
 ·rw [zDT h];simp
 ·rw [zDF h,zCf]
  have:=zoy b.length (b.length + 1) b []
  simp only [zLn] at this
  omega
theorem zmW:∀ (b:List UInt8) (f:Bool) (acc t r:List UInt8),qd f b acc=some (t,r)->t.length <= acc.length + b.length
 | [],f,acc,t,r,h=>by cases f <;> simp [qd] at h
 | c :: b,true,acc,t,r,h=>by
  simp only [qd] at h
  have:=zmW b _ _ _ _ h
  rw [zLa,zLs] at this
  rw [zLc];omega
 | c :: b,false,acc,t,r,h=>by
  simp only [qd] at h
  by_cases h1:c=34
  ·simp only [zDT h1,zCt] at h
   by_cases h2:hd b=34
   ·simp only [zDT h2,zCt] at h
    have:=zmW b _ _ _ _ h
    rw [zLc];omega
   ·simp only [zDF h2,zCf] at h
    cases hv:Lib.validD acc with
    | true=>rw [hv] at h;simp at h;rw [<- h.1];simp
    | false=>rw [hv] at h;cases h
  ·simp only [zDF h1,zCf] at h
   have:=zmW b _ _ _ _ h
   rw [zLa,zLs] at this
   rw [zLc];omega
theorem zrR:∀ d:List UInt8,(d.take (hx d)).all isHex=true
 | []=>rfl
 | c :: r=>by
  rw [zpC]
  cases h:isHex c with
  | false=>rfl
  | true =>
   simp only [zCt,List.take_succ_cons,List.all_cons,h,zrR r];rfl
structure OneG (k:Int) (t:List UInt8) (n:Nat):Prop where
 k0:k ≠ 0
 len:t.length <= n
 hex:k=4->t.all isHex=true/\t.length % 2=0
theorem zqS {b t r:List UInt8} {k:Int} (h:oneS b=some (k,t,r)):OneG k t b.length:=by
 unfold oneS at h
 simp only at h
 cases h1:zaP (hd b) with
 | true =>
  rw [h1,zCt] at h
  cases h2:nmBad b with
  | true=>rw [h2] at h;cases h
  | false =>
   rw [h2,zCf] at h
   injection h with h;injection h with h3 h;injection h with h4 h5
   subst h3;subst h4
   refine ⟨?_,by rw [zLt];omega,?_⟩
   ·cases isWord (List.take (nm b) b) <;> cases decide (hd b <= 90) <;> decide
   ·cases isWord (List.take (nm b) b) <;> cases decide (hd b <= 90) <;> intro h <;> cases h
 | false =>
  rw [h1,zCf] at h
  cases h2:(isDigit (hd b) || (decide (hd b=45) && isDigit (hd (b.drop 1)))) with
  | true =>
   rw [h2,zCt] at h
   cases hn:numLen b with
   | none=>rw [hn] at h;cases h
   | some n =>
    rw [hn] at h
    injection h with h;injection h with h3 h;injection h with h4 h5
    subst h3;subst h4
    exact ⟨by decide,by rw [zLt];omega,λh=>by cases h⟩
  | false =>
   rw [h2,zCf] at h
   cases h3:decide (hd b=39) with
   | true =>
    rw [h3,zCt] at h
    cases h4:hexBad (b.drop 1) with
    | true=>rw [h4] at h;cases h
    | false =>
     rw [h4,zCf] at h
     injection h with h;injection h with h5 h;injection h with h6 h7
     subst h5;subst h6
     refine ⟨by decide,by rw [zLt,zLd];omega,λ_=>⟨zrR _,?_⟩⟩
     unfold hexBad at h4
     rw [Bool.or_eq_false_iff,Bool.or_eq_false_iff] at h4
     have h8:hx (b.drop 1) % 2=0:=by simpa using h4.1.1
     have:=zvh (b.drop 1)
     rw [zLt];omega
   | false =>
    rw [h3,zCf] at h
    cases h4:decide (hd b=34) with
    | true =>
     rw [h4,zCt] at h
     cases hq:qd false (b.drop 1) [] with
     | none=>rw [hq] at h;cases h
     | some q =>
      obtain ⟨t',r'⟩:=q
      rw [hq] at h
      injection h with h;injection h with h5 h;injection h with h6 h7
      subst h5;subst h6
      have:=zmW _ _ _ _ _ hq
      simp only [zLn,zLd] at this
      exact ⟨by decide,by omega,λh=>by cases h⟩
    | false =>
     rw [h4,zCf] at h
     cases h5:decide (0 < sg b) with
     | false=>rw [h5] at h;cases h
     | true =>
      rw [h5,zCt] at h
      injection h with h;injection h with h6 h;injection h with h7 h8
      subst h6;subst h7
      exact ⟨by decide,by rw [zLt];omega,λh=>by cases h⟩
inductive Src:List GTok->Prop
 | fin {a:Int}:Src [⟨0,⟨[]⟩,a⟩]
 | cons {t:GTok} {l:List GTok}:OneG t.kind t.text.b 8000->Src l->Src (t :: l)
theorem zoM (n:Nat):∀ (f:Nat) (b:List UInt8) (acc:List GTok),b.length < f->b.length <= 8000->(∃ l,toksF n f b acc=(acc ++ l,0,0)/\Src l) \/ (toksF n f b acc).2.2 ≠ 0
 | 0,b,acc,h,_=>by omega
 | f + 1,b,acc,h,h8=>by
  rw [zgS]
  have hwl:=zfn b .out
  cases hwh:wh .out b with
  | nil=>exact .inl ⟨_,rfl,.fin⟩
  | cons c r =>
   rw [hwh] at hwl
   simp only
   cases ho:oneS (c :: r) with
   | none=>exact .inr (by simp)
   | some q =>
    obtain ⟨k,t,r'⟩:=q
    simp only
    have hol:=zjO ho
    have hf:=zqS ho
    rcases zoM n f r' (acc ++ [⟨k,⟨t⟩,(n:Int) - ((c :: r).length:Int)⟩]) (by omega) (by omega) with ⟨l,e,g⟩ | e
    ·exact .inl ⟨_ :: l,by rw [e,zLA];rfl,.cons ⟨hf.k0,Nat.le_trans hf.len (by omega),hf.hex⟩ g⟩
    ·exact .inr e
theorem zsV (b:List UInt8) (h:(toks b).2.2=0):Src (toks b).1:=by
 unfold toks at h ⊢
 by_cases hl:8000 < b.length
 ·rw [zDT hl] at h;simp at h
 ·rw [zDF hl,zCf] at h ⊢
  rcases zoM b.length (b.length + 1) b [] (by omega) (by omega) with ⟨l,e,g⟩ | e
  ·rw [e];simpa using g
  ·exact absurd h e
theorem Src.ends {l:List GTok} (h:Src l):∃ k t,l=k ++ [t]/\t.kind=0:=by
 induction h with
 | fin=>exact ⟨[],_,rfl,rfl⟩
 | @cons t l _ _ ih=>obtain ⟨k,u,e,h⟩:=ih;exact ⟨t :: k,u,by rw [e];rfl,h⟩
theorem zub (s:Str) (h:s.b.length <= 9000):∃ r,zbn s 10 64=some r:=by
 unfold zbn
 rw [show (decide ((10:Int)=10) && decide ((64:Int)=64) && Nat.ble s.b.length 281474976710656)=true by rw [Nat.ble_eq_true_of_le (by omega)];rfl,zCt]
 cases Lib.parseIntB 64 s.b <;> exact ⟨_,rfl⟩
theorem ztc {t:GTok} (h:OneG t.kind t.text.b 8000):TokG t:=by
 have hl:=h.len
 have hx:=zpZ t.text.b
 exact ⟨by omega,λ_=>zub _ (by omega),λh4=>⟨hexP t.text.b,zsd (l:=t.text.b) (h.hex h4).1 (h.hex h4).2 (by omega),by omega⟩⟩
theorem Src.good {l:List GTok} (h:Src l):∀ y ∈ l,TokG y:=by
 induction h with
 | fin=>intro y hy;rw [zMo.1 hy];exact ⟨zNz _,(λh=>by cases h),λh=>by cases h⟩
 | cons h1 _ ih =>
  intro y hy
  rcases List.mem_cons.1 hy with e | e
  ·rw [e];exact ztc h1
  ·exact ih y e
theorem Src.sd {l:List GTok} (h:Src l) (hl:l.length <= 8001):Sd l 0 l:=⟨zIl _,by omega,rfl,h.ends⟩
noncomputable def pNote (l:List GTyp) (i:Int) (b:List UInt8):PR Val :=
 if (toks b).2.2 ≠ 0 then .bad (toks b).2.1 (toks b).2.2
 else match pv 17 l i (toks b).1 with
  | .bad p e=>.bad p e
  | .ok v r=>match r with
   | []=>.bad 0 7
   | t :: r'=>if t.kind=0 then .ok v [] else .bad t.at_ 7
theorem zu4 {t:GTab} (ht:TOk t.types) {i:Int} (i0:0 <= i) (i1:i < t.types.length) (s:Str) {R:Val × Int × Int->Prop}
    (hb:∀ p e,pNote t.types i s.b=.bad p e->e ≠ 0->R (zeroV,p,e))
    (hk:∀ v r,pNote t.types i s.b=.ok v r->Fine v->cnt v <= 10000000->T (λy=>if y=true then R (v,0,0) else R (zeroV,0,13)) (zfY t i v)):T R (zgW t i s):=by
  unfold zgW
  refine T.eq (ctokens s) (T.br (λh=>?_) λh=>?_)
  · have h:¬ (toks s.b).2.2=0:=by simpa using h
    exact T.some (hb _ _ (by unfold pNote;rw [if_pos h]) h)
  have h:(toks s.b).2.2=0:=by simpa using h
  have hs:=zsV s.b h
  have hl:=zs6 s.b
  have hA:=hs.sd hl
  unfold pNote at hb hk
  rw [if_neg (show ¬ (toks s.b).2.2 ≠ 0 from λk=>k h)] at hb hk
  refine T.or' (T.br (λh=>?_) λ_=>?_)
  · rw [Bool.or_eq_true] at h
    rcases h with h | h
    · exact absurd (zOT h) (by omega)
    · exact absurd (zOT h) (by omega)
  refine T.cal (pvP ht (p0:=0) hs.good 17 fuel i 0 (zIl _) (by decide) (by unfold fuel;decide) i0 i1 0 _ hA) λy _ hy=>?_
  cases hR:pv 17 t.types i (toks s.b).1 with
  | bad p e =>
    rw [hR] at hy hb
    obtain ⟨y1,y2,y3,y4,_⟩:=hy
    refine T.jp (λq=>q=(false,y.2.2)) (λJ k=>T.br (λh=>by rw [y1] at h;cases h) λ_=>k _ rfl) λq hq=>?_
    subst hq
    refine T.jp (λq=>q=(false,y.2.2)) (λJ k=>T.br (λh=>by cases h) λ_=>k _ (by rw [y1])) λq hq=>?_
    subst hq
    refine T.br (λ_=>T.some ?_) λh=>by cases h
    dsimp only
    rw [y2,y3]
    exact hb _ _ rfl y4
  | ok v r =>
    rw [hR] at hy hb hk
    obtain ⟨a',e1,A1,f1,c1⟩:=hy
    subst e1
    obtain ⟨z,r',er,e2,_,_⟩:=A1.cons
    obtain ⟨z',r'',er',e4⟩:=znk (t:=t) (p:=0) A1
    rw [er] at er';cases er'
    subst er
    dsimp only at hb hk
    have hc:cnt v <= 10000000:=by omega
    refine T.jp (λq=>q=(!decide (z.kind=0),st (toks s.b).1 t 0 a')) (λJ k=>T.br (λ_=>T.eq e4 (k _ rfl)) λh=>by cases h) λq hq=>?_
    subst hq
    by_cases hz:z.kind=0
    · rw [if_pos hz] at hb hk
      rw [zDT hz]
      refine T.jp (λq=>q=(true,st (toks s.b).1 t 0 a')) (λJ k=>T.br (λh=>by cases h) λ_=>k _ rfl) λq hq=>?_
      subst hq
      refine T.br (λh=>by cases h) λ_=>T.cal (hk _ _ rfl f1 hc) λb _ hb'=>T.br (λh=>T.some ?_) λh=>T.some ?_
      · have:b=false:=by simpa using h
        subst this
        rw [if_neg (by decide)] at hb'
        exact hb'
      · have:b=true:=by simpa using h
        subst this
        rw [if_pos rfl] at hb'
        exact hb'
    · rw [if_neg hz] at hb hk
      rw [zDF hz]
      refine T.jp (λq=>q.1=false/\q.2.at_=z.at_/\q.2.e=7) (λJ k=>T.br (λ_=>T.eq (zk6 A1 7) (k _ ⟨rfl,rfl,rfl⟩)) λh=>by cases h) λq hq=>?_
      obtain ⟨q1,q2,q3⟩:=hq
      refine T.br (λ_=>T.some ?_) λh=>by rw [q1] at h;cases h
      rw [q2,q3]
      exact hb _ _ rfl (by decide)
end Go.Proofs.Q


namespace Go.Proofs.Q
open Go.Sy
set_option linter.unusedVariables false

abbrev KS:=List (Int × List UInt8)
/-! ### Names -/
def nmOk (s:List UInt8):Bool:=zaP (hd s) && nmAll s 0 && !decide (s.getLast?=some 45) && decide (s.length <= 60) && decide (kindN s=2)
theorem zq2 {c:UInt8} {r s:List UInt8} (h:c ≠ 45):inName c r=inName c s:=by
 unfold inName
 rw [zDF h];rfl
theorem zoh:∀ {w:List UInt8} {d e:UInt8},w.getLast? ≠ some 45->nmAll w d=nmAll w e
 | [],_,_,_=>rfl
 | [c],d,e,h=>by
  have hc:c ≠ 45:=λh2=>h (by rw [h2];rfl)
  show (inName c [d] && true)=(inName c [e] && true)
  rw [zq2 hc]
 | c :: a :: w,d,e,h=>by
  have ih:=zoh (w:=a :: w) (d:=d) (e:=e) (by rw [List.getLast?_cons_cons] at h;exact h)
  show (inName c ((a :: w) ++ [d]) && nmAll (a :: w) d)=(inName c ((a :: w) ++ [e]) && nmAll (a :: w) e)
  rw [ih,zoj (show hd ((a :: w) ++ [d])=hd ((a :: w) ++ [e]) from rfl)]
/-! ### Values within braces -/
def cm:List KS->KS
 | []=>[]
 | [p]=>p
 | p :: q :: r=>p ++ (6,[44]) :: cm (q :: r)
structure NmW (l:List GTyp):Prop where
 fn:∀ x ∈ l,∀ f ∈ x.fields,nmOk f.name.b=true
 inm:∀ x ∈ l,∀ it ∈ x.items,nmOk it.name.b=true
 fd:∀ x ∈ l,(x.fields.map λf=>f.name).Nodup
 id:∀ x ∈ l,(x.items.map λit=>it.name).Nodup
theorem zt6:kindN [70,65,76,83,69]=5/\kindN [84,82,85,69]=5/\kindN [78,85,76,76]=5:=by decide +kernel
end Go.Proofs.Q


namespace Go.Proofs.Q
open Go.Sy
set_option linter.unusedVariables false

theorem zeros {ws:List Val} (h:∀ w ∈ ws,w=zeroV):ws=List.replicate ws.length zeroV:=List.eq_replicate_iff.2 ⟨rfl,h⟩
end Go.Proofs.Q


namespace Go.Proofs.Q
open Go.Sy
set_option linter.unusedVariables false

theorem zto:∀ {k n:Nat} {v:Val},cnt v <= k->4 * k <= n->Fine v->zfc n v=some (bare v):=by
 intro k
 induction k with
 | zero=>intro n v h;have:=zfr v;omega
 | succ k ih =>
  intro n v hk hn hf
  obtain ⟨n,rfl⟩:∃ n',n=n' + 4:=⟨n - 4,by omega⟩
  have hfl:=hf.l
  have hc:zaC (n + 3) v.l=some (!(v.l.map bare).all id):=by
   refine T.eqs ?_
   show T _ (zaO (zfG (n + 2)) (zfc (n + 2)) (zaC (n + 2)) (za6 (n + 2)) v.l)
   unfold zaO
   refine T.cal (Q:=λ(r:Int)=>decide (0 <= r)=!(v.l.map bare).all id) ?_ λy _ hy=>T.some hy
   show T _ (zaZ (zfG (n + 1)) (zfc (n + 1)) (zaC (n + 1)) (za6 (n + 1)) v.l)
   unfold zaZ
   refine T.lp (ι:=Int) (λq=>0 <= q/\q <= (v.l.length:Int)/\((v.l.take q.toNat).map bare).all id=true) (λq=>((v.l.length:Int) - q).toNat) ⟨zIl _,by omega,rfl⟩ (by omega) λL q ⟨q1,q2,q3⟩ hL=>T.br (λhb=>?_) λhb=>T.some ?_
   ·have hb:=zOT hb
    refine T.get q1 hb λy hy=>?_
    have hm:=List.mem_of_getElem? hy
    have hk:=zfu hm
    refine T.eq (y:=!bare y) ?_ (T.br (λh2=>T.some ?_) λh2=>T.ck (by omega) (hL _ ⟨by omega,by omega,?_⟩ (by omega)))
    ·refine T.eqs ?_
     show T _ (zeS (zfG n) (zfc n) (zaC n) (za6 n) y)
     unfold zeS
     exact T.eq (ih (by omega) (by omega) (hf.kid y hm)) (T.some rfl)
    ·have h2:bare y=false:=by simpa using h2
     have:(v.l.map bare).all id=false:=by
      rw [List.all_eq_false]
      exact ⟨bare y,List.mem_map.2 ⟨y,hm,rfl⟩,by rw [h2];decide⟩
     rw [this,zDT q1];rfl
    ·have h2:bare y=true:=by simpa using h2
     have e:(q + 1).toNat=q.toNat + 1:=by omega
     rw [e,List.take_add_one,hy,List.map_append,List.all_append,q3]
     show (true && (bare y && true))=true
     rw [h2];rfl
   ·have hb:=zOF hb
    rw [zTl (by omega)] at q3
    rw [q3];rfl
  refine T.eqs ?_
  show T _ (zgB (zfG (n + 3)) (zfc (n + 3)) (zaC (n + 3)) (za6 (n + 3)) v)
  unfold zgB
  rw [zi8]
  have e0:(!(decide (v.kind=12) || decide (0 < v.more.length)))=(!decide (v.kind=12) && decide ((v.more.length:Int)=0)):=by
   rw [Bool.not_or]
   congr 1
   cases h:decide (0 < v.more.length) with
   | true=>have:=zOT h;rw [zDF (by omega)];rfl
   | false=>have:=zOF h;rw [zDT (by omega)];rfl
  rw [e0]
  refine T.andJ (d:=decide ((v.more.length:Int)=0)) (λJ kk=>kk) ?_
  refine T.andJ (d:=(v.l.map bare).all id) (λJ kk=>T.eq hc ?_) (T.some rfl)
  rw [Bool.not_not]
  exact kk
theorem zpR {t:GTab} (ht:TabOk t) {i:Int} {v:Val} (hF:Fit t 17 i v) (hb:bare v=true) (hf:Fine v) (hc:cnt v <= 5000):zfY t i v=some true:=by
 refine T.eqs ?_
 unfold zfY
 have hs:=zsn hF hb
 have h:=ztk ht (b:=false) (h:=17) (n:=fuel) (i:=i) (v:=v) (d:=1) (by decide) (by decide) (by unfold fuel;decide) hf (by omega) hF (by rw [hs];exact hb)
 rw [hs] at h
 exact T.eq h (T.jp (λb=>b=true) (λJ kk=>T.br (λ_=>T.eq (zsO (by unfold fuel;omega) (by omega) hf) (kk _ (zDT (by omega)))) λh=>by cases h) λb hb=>T.some hb)
def pTxt (l:List GTyp) (i:Int) (v:Val):Str × Int:=if 8000 < (txt 17 l i v).length then (⟨[]⟩,5) else (⟨txt 17 l i v⟩,0)
theorem zta {t:GTab} (ht:TabOk t) (hB:NmB t.types) {i:Int} {v:Val} (hF:Fit t 17 i v) (hb:bare v=true) (hI:I64V v) (hf:Fine v) (hc:cnt v <= 5000):zhJ t i v=some (pTxt t.types i v):=by
 refine T.eqs ?_
 unfold zhJ
 have h:=prP hB (h:=17) (n:=fuel) (b:=[]) (by unfold fuel;decide) hF hb hI hf (by omega) (by simp only [zLn];omega)
 refine T.eq (zpR ht hF hb hf hc) (T.br (λh=>by cases h) λ_=>T.eq (zto (k:=5000) (by omega) (by unfold fuel;decide) hf) ?_)
 rw [hb]
 refine T.br (λh=>by cases h) λ_=>T.eq h (T.br (λhl=>T.some ?_) λhl=>T.some ?_)
 ·have hl:=zOT hl
  unfold pTxt
  rw [if_pos (by have h9:(8000:Int) < ((txt 17 t.types i v).length:Nat):=(by simpa using hl);omega)]
 ·have hl:=zOF hl
  unfold pTxt
  rw [if_neg (by have h9:((txt 17 t.types i v).length:Int) <= 8000:=(by simpa using hl);omega)];rfl
end Go.Proofs.Q


namespace Go.Proofs.Q
open Go.Sy
set_option maxRecDepth 4000
def tokF (s:Str):Option (List GTok × Int × Int):=some (toks s.b)
theorem zuy:zgZ=tokF:=funext zsy
def zk0 (zaQ:Str):Option (GMod × Int × Int) :=
 cal (tokF zaQ) λy2=>br (!decide (y2.2.2=(0:Int))) (some ((GMod.mk (Str.mk []) (0:Int) ([]:(List Str)) ([]:(List Int)) ([]:(List GNode))),y2.2.1,y2.2.2)) (cal (zb1 (GPar.mk y2.1 (0:Int) (GMod.mk (Str.mk []) (0:Int) ([]:(List Str)) ([]:(List Int)) ([]:(List GNode))) (0:Int) (0:Int)) (1:Int)) λy7=>cal (zU (GPar.mk y7.2.l y7.2.at_ (GMod.mk y7.1 y7.2.m.tagging y7.2.m.names y7.2.m.types y7.2.m.nodes) y7.2.e y7.2.p) (Str.mk [68,69,70,73,78,73,84,73,79,78,83])) λy10=>jp (ι:=GPar) (λJ14=>cal (zJ y10 (Str.mk [69,88,80,76,73,67,73,84])) λy15=>br y15.1 (cal (zU y15.2 (Str.mk [84,65,71,83])) λy18=>J14 (y18)) (cal (zJ y15.2 (Str.mk [73,77,80,76,73,67,73,84])) λy21=>br y21.1 (cal (zU (GPar.mk y21.2.l y21.2.at_ (GMod.mk y21.2.m.name (1:Int) y21.2.m.names y21.2.m.types y21.2.m.nodes) y21.2.e y21.2.p) (Str.mk [84,65,71,83])) λy24=>J14 (y24)) (cal (zJ y21.2 (Str.mk [65,85,84,79,77,65,84,73,67])) λy27=>br y27.1 (cal (zU (GPar.mk y27.2.l y27.2.at_ (GMod.mk y27.2.m.name (2:Int) y27.2.m.names y27.2.m.types y27.2.m.nodes) y27.2.e y27.2.p) (Str.mk [84,65,71,83])) λy30=>J14 (y30)) (J14 (y27.2))))) (λq13=>cal (zU q13 (Str.mk [58,58,61])) λy33=>cal (zU y33 (Str.mk [66,69,71,73,78])) λy36=>lp (ι:=GPar) (λL40 q39=>jp (ι:=Bool × GPar) (λJ92=>br (decide (q39.e=(0:Int))) (cal (zJ q39 (Str.mk [69,78,68])) λy94=>J92 ((!y94.1),y94.2)) (J92 (false,q39))) (λq91=>br q91.1 (cal (zaR q91.2) λy97=>cal (zb1 y97.2 (1:Int)) λy101=>jp (ι:=Bool) (λJ105=>br (decide (y101.2.e=(0:Int))) (J105 ((decide ((40:Int) <= (y101.2.m.names.length:Int))))) (J105 (false))) (λq104=>jp (ι:=GPar) (λJ108=>br q104 (cal (zbb y101.2 (5:Int) y97.1) λy109=>J108 (y109)) (J108 (y101.2))) (λq107=>cal (zU q107 (Str.mk [58,58,61])) λy112=>cal (zcY fuel y112 (0:Int)) λy115=>asr (Nat.ble (y115.2.m.names.length + ([y101.1]:(List Str)).length) 68719476736) <| asr (Nat.ble (y115.2.m.types.length + ([y115.1]:(List Int)).length) 68719476736) <| L40 ((GPar.mk y115.2.l y115.2.at_ (GMod.mk y115.2.m.name y115.2.m.tagging (y115.2.m.names ++ ([y101.1]:(List Str))) (y115.2.m.types ++ ([y115.1]:(List Int))) y115.2.m.nodes) y115.2.e y115.2.p))))) (jp (ι:=Bool × GPar) (λJ126=>br (decide (q91.2.e=(0:Int))) (cal (zaR q91.2) λy128=>J126 ((!decide (y128.1.kind=(0:Int))),y128.2)) (J126 (false,q91.2))) (λq125=>jp (ι:=GPar) (λJ132=>br q125.1 (cal (zaR q125.2) λy133=>cal (zbb y133.2 (7:Int) y133.1) λy136=>J132 (y136)) (J132 (q125.2))) (λq131=>br (!decide (q131.e=(0:Int))) (some ((GMod.mk (Str.mk []) (0:Int) ([]:(List Str)) ([]:(List Int)) ([]:(List GNode))),q131.p,q131.e)) (some (q131.m,(0:Int),(0:Int)))))))) ((y36))))
theorem zob:ziz=zk0:=by
 funext zaQ
 unfold ziz zk0
 rw [zuy]
def ziD (zaQ:Str):Option (GTab × Bool) :=
 br (decide ((3000:Int) < (zaQ.b.length:Int))) (some ((GTab.mk (Str.mk []) ([]:(List Str)) ([]:(List Int)) ([]:(List GTyp))),false)) (cal (zk0 zaQ) λy2=>br (!decide (y2.2.2=(0:Int))) (some ((GTab.mk (Str.mk []) ([]:(List Str)) ([]:(List Int)) ([]:(List GTyp))),false)) (cal (zl1 y2.1) λy4=>jp (ι:=Bool) (λJ7=>br (decide (y4.2.2=(0:Int))) (J7 ((decide ((y4.1.types.length:Int) <= (120:Int))))) (J7 (false))) (λq6=>some (y4.1,q6))))
theorem zhp:zc7=ziD:=by
 funext zaQ
 unfold zc7 ziD
 rw [zob]
end Go.Proofs.Q


namespace Go.Proofs.Q
open Go.Sy
set_option maxRecDepth 4000
end Go.Proofs.Q


namespace Go.Proofs.Q
open Go.Sy
set_option linter.unusedVariables false
set_option maxRecDepth 4000

def conN:GCon:=⟨false,false,false,false,0,0⟩
def tabGood (l:List GTyp):Bool:=decide (l.length <= 1000) && l.all λx=>decide (x.fields.length <= 1000) && decide (x.items.length <= 1000) && (x.fields.all λf=>decide (0 <= f.ty) && decide (f.ty < l.length) && nmOk f.name.b && decide (f.name.b.length <= 90)) && (x.items.all λit=>nmOk it.name.b && decide (it.name.b.length <= 90)) &&
 (!decide (x.kind=10) || (decide (0 <= x.of) && decide (x.of < l.length))) && decide (1 <= x.kind) && decide (x.kind <= 10) && decide ((x.fields.map λf=>f.name).Nodup) && decide ((x.items.map λit=>it.name).Nodup)
structure TG (l:List GTyp):Prop where
 ok:TOk l
 nb:NmB l
 nw:NmW l
theorem zpT {l:List GTyp} (h:tabGood l=true):TG l:=by
 unfold tabGood at h
 rw [zBa] at h
 have hl:=zOT h.1
 have ha:=λx hx=>List.all_eq_true.1 h.2 x hx
 simp only [zBa] at ha
 refine ⟨⟨hl,λx hx=>zOT (ha x hx).1.1.1.1.1.1.1.1,λx hx=>?_,λx hx f hf=>?_,λx hx hk=>?_,λx hx=>?_⟩,⟨hl,λx hx=>zOT (ha x hx).1.1.1.1.1.1.1.1,λx hx=>?_,λx hx f hf=>?_,λx hx it hit=>?_⟩,⟨λx hx f hf=>?_,λx hx it hit=>?_,λx hx=>?_,λx hx=>?_⟩⟩
 ·have:=zOT (ha x hx).1.1.1.1.1.1.1.2;omega
 ·have:=List.all_eq_true.1 (ha x hx).1.1.1.1.1.1.2 f hf
  simp only [zBa] at this
  exact ⟨zOT this.1.1.1,zOT this.1.1.2⟩
 ·have:=(ha x hx).1.1.1.1.2
  rw [zDT hk,Bool.not_true,Bool.false_or,zBa] at this
  exact ⟨zOT this.1,zOT this.2⟩
 ·exact ⟨zOT (ha x hx).1.1.1.2,zOT (ha x hx).1.1.2⟩
 ·have:=zOT (ha x hx).1.1.1.1.1.1.1.2;omega
 ·have:=List.all_eq_true.1 (ha x hx).1.1.1.1.1.1.2 f hf
  simp only [zBa] at this
  exact zOT this.2
 ·have:=List.all_eq_true.1 (ha x hx).1.1.1.1.1.2 it hit
  simp only [zBa] at this
  exact zOT this.2
 ·have:=List.all_eq_true.1 (ha x hx).1.1.1.1.1.1.2 f hf
  simp only [zBa] at this
  exact this.1.2
 ·have:=List.all_eq_true.1 (ha x hx).1.1.1.1.1.2 it hit
  simp only [zBa] at this
  exact this.1
 ·exact zOT (ha x hx).1.2
 ·exact zOT (ha x hx).2
/-! ### A table is well made: by looking -/
def dokB (v:Val):Bool:=decide (v.b.length <= 8000) && v.l.isEmpty && v.more.isEmpty && decide (0 <= v.kind) && decide (v.kind <= 6) && decide (v.rule=0)
def typB (t:GTyp):Bool:=(decide (t.kind=9) || !t.tags.isEmpty) && decide (t.tags.length <= 100000) && decide (0 <= t.root) && (if t.kind=7 \/ t.kind=8 \/ t.kind=9 then decide (t.root <= t.fields.length) else t.fields.isEmpty && (decide (t.kind=3) || decide (t.root=0))) && (if t.kind=3 then decide (t.root <= t.items.length) else t.items.isEmpty) && decide (t.items.length <= 8001) && (t.items.all λit=>decide (-9223372036854775808 <= it.number) && decide (it.number <= 9223372036854775807)) && t.fields.all λf=>dokB f.dflt
theorem zvn {t:GTyp} (h:typB t=true):TypOk t:=by
 unfold typB at h
 simp only [zBa] at h
 obtain ⟨⟨⟨⟨⟨⟨⟨h1,h2⟩,h3⟩,h4⟩,h5⟩,h6⟩,h7⟩,h8⟩:=h
 refine ⟨λk=>?_,zOT h2,zOT h3,λk=>?_,λk=>?_,λk=>?_,λk=>?_,zOT h6,λit hit=>?_,λf hf=>?_,λk k2=>?_⟩
 ·rw [zDF k,Bool.false_or] at h1
  intro e;rw [e] at h1;cases h1
 ·rw [if_pos k] at h4;exact zOT h4
 ·rw [if_pos k] at h5;exact zOT h5
 ·rw [if_neg k,zBa] at h4;exact List.isEmpty_iff.1 h4.1
 ·rw [if_neg k] at h5;exact List.isEmpty_iff.1 h5
 ·have:=List.all_eq_true.1 h7 it hit
  rw [zBa] at this
  exact ⟨zOT this.1,zOT this.2⟩
 ·have:=List.all_eq_true.1 h8 f hf
  unfold dokB at this
  simp only [zBa] at this
  exact ⟨zOT this.1.1.1.1.1,List.isEmpty_iff.1 this.1.1.1.1.2,List.isEmpty_iff.1 this.1.1.1.2,zOT this.1.1.2,zOT this.1.2,zOT this.2⟩
 ·rw [if_neg k2,zBa,zDF k,Bool.false_or] at h4
  exact zOT h4.2
def kidsJ (S:Nat->Option Nat):List Int->Nat->Option Nat
 | [],a=>some a
 | k :: r,a=>if k=(a:Int) then (match S a with
  | some c=>kidsJ S r c
  | none=>none) else none
theorem zpf {S:Nat->Option Nat} {R:Nat->Nat->Prop} (h:∀ a c,S a=some c->R a c):∀ {l:List Int} {a b:Nat},kidsJ S l a=some b->Kids R l a b
 | [],a,b,e=>by injection e
 | k :: r,a,b,e=>by
  change (if k=(a:Int) then (match S a with | some c=>kidsJ S r c | none=>none) else none)=some b at e
  by_cases hk:k=(a:Int)
  ·rw [if_pos hk] at e
   cases hc:S a with
   | none=>rw [hc] at e;cases e
   | some c=>rw [hc] at e;exact ⟨c,hk,h a c hc,zpf h e⟩
  ·rw [if_neg hk] at e;cases e
def subJ:Nat->List GTyp->Nat->Option Nat
 | 0,_,_=>none
 | h + 1,l,i=>match l[i]? with
  | none=>none
  | some t=>if typB t=true then kidsJ (subJ h l) (kidsT t) (i + 1) else none
theorem zvB:∀ {h:Nat} {l:List GTyp} {i j:Nat},subJ h l i=some j->SubT h l i j:=by
 intro h
 induction h with
 | zero=>intro l i j e;cases e
 | succ h ih =>
  intro l i j e
  change (match l[i]? with | none=>none | some t=>if typB t=true then kidsJ (subJ h l) (kidsT t) (i + 1) else none)=some j at e
  cases ht:l[i]? with
  | none=>rw [ht] at e;cases e
  | some t =>
   rw [ht] at e
   dsimp only at e
   by_cases hb:typB t=true
   ·rw [if_pos hb] at e
    exact ⟨t,ht,zvn hb,zpf (R:=SubT h l) (λa c h=>ih h) e⟩
   ·rw [if_neg hb] at e;cases e
def tabB (t:GTab):Bool:=decide (t.names.length <= 40) && decide (t.roots.length=t.names.length) && decide (t.types.length <= 300) && decide (kidsJ (subJ 17 t.types) t.roots 0=some t.types.length) && (List.range t.names.length).all λp=>(t.names[p]?).all λs=>decide (fnd t.names s=(p:Int))
theorem ztG {t:GTab} (h:tabB t=true):TabOk t:=by
 unfold tabB at h
 simp only [zBa] at h
 obtain ⟨⟨⟨⟨h1,h2⟩,h3⟩,h4⟩,h5⟩:=h
 refine ⟨zOT h1,zOT h2,zOT h3,zpf (R:=SubT 17 t.types) (λa c h=>zvB h) (zOT h4),λp s hp=>?_⟩
 have hlt:=(List.getElem?_eq_some_iff.1 hp).1
 have:=List.all_eq_true.1 h5 p (List.mem_range.2 hlt)
 rw [hp] at this
 exact zOT this

/-! ### awake -/
def tabW:GTab:=⟨⟨[77]⟩,[⟨[65]⟩],[0],[⟨7,[⟨0,16⟩],conN,[],[⟨⟨[97]⟩,1,false,false,zeroV,0⟩,⟨⟨[98]⟩,2,true,false,zeroV,0⟩],2,false,0⟩,⟨2,[⟨0,2⟩],conN,[],[],0,false,0⟩,⟨1,[⟨0,1⟩],conN,[],[],0,false,0⟩]⟩
theorem zun:zc7 (Str.mk [77,32,68,69,70,73,78,73,84,73,79,78,83,32,58,58,61,32,66,69,71,73,78,32,65,32,58,58,61,32,83,69,81,85,69,78,67,69,32,123,32,97,32,73,78,84,69,71,69,82,44,32,98,32,66,79,79,76,69,65,78,32,79,80,84,73,79,78,65,76,32,125,32,69,78,68])=some (tabW,true):=by
 rw [zhp];kernel_rfl
theorem zvp:TG tabW.types:=zpT (by kernel_rfl)
theorem zuc:TabOk tabW:=ztG (by kernel_rfl)
def valW:Val:=leafV 7 0 [] [leafV 2 5 [] [],leafV 1 1 [] []]
theorem zuH {t:GTab} {h:Nat} {i n:Int} {x:GTyp} (h0:0 <= i) (hx:t.types[i.toNat]?=some x) (hk:x.kind=2) (hc:(x.con.more || wthn x.con n)=true):Fit t (h + 1) i (leafV 2 n [] []) :=
 ⟨h0,x,hx,.inr ⟨hk.symm,.inr (.inl ⟨hk,rfl,hc⟩)⟩⟩
theorem ztS {t:GTab} {h:Nat} {i n:Int} {x:GTyp} (h0:0 <= i) (hx:t.types[i.toNat]?=some x) (hk:x.kind=1) (hc:(decide (n=0) || decide (n=1))=true):Fit t (h + 1) i (leafV 1 n [] []) :=
 ⟨h0,x,hx,.inr ⟨hk.symm,.inl ⟨hk,rfl,hc⟩⟩⟩
theorem zlu {t:GTab} {h:Nat} {i:Int} {x:GTyp} (h0:0 <= i) (hx:t.types[i.toNat]?=some x) (hk:x.kind=4):Fit t (h + 1) i (leafV 4 0 [] []) :=
 ⟨h0,x,hx,.inr ⟨hk.symm,.inr (.inr (.inr (.inl ⟨hk,rfl⟩)))⟩⟩
theorem zrk {t:GTab} {h:Nat} {i:Int} {l:List Val} {x:GTyp} (h0:0 <= i) (hx:t.types[i.toNat]?=some x) (hk:x.kind=7) (hl:l.length=x.fields.length) (hf:∀ (k:Nat) f w,x.fields[k]?=some f->l[k]?=some w->FldF x (Fit t h) k f w) (hs:slots x=[]):Fit t (h + 1) i (leafV 7 0 [] l) :=
 ⟨h0,x,hx,.inr ⟨hk.symm,.inr (.inr (.inr (.inr (.inr (.inr (.inr ⟨.inl hk,rfl,λ_=>rfl,hl,hf,λs hs'=>by rw [hs] at hs';cases hs'⟩))))))⟩⟩
theorem there {x:GTyp} {F:Int->Val->Prop} {k:Nat} {f:GFld} {w:Val} (h1:w.kind ≠ 0) (h2:F f.ty w) (h3:f.has=false):FldF x F k f w:=.inr ⟨h1,h2,λh=>by rw [h3] at h;cases h⟩
theorem zpF {k n:Int} {b:List UInt8} {l:List Val} (h:inI64 n) (hl:∀ w ∈ l,I64V w):I64V (leafV k n b l):=by
 unfold inI64 at h
 exact .mk h.1 (by have:=h.2;show n <= _;omega) hl
theorem znU:zfj=some true:=by
 refine T.eqs ?_
 unfold zfj
 have hF:Fit tabW 17 0 valW:=zrk (zIl _) rfl rfl rfl (λk f w hf hw=>by
  match k,hf,hw with
  | 0,hf,hw=>cases hf;cases hw;exact there (show (2:Int) ≠ 0 by decide) (zuH (by decide) rfl rfl rfl) rfl
  | 1,hf,hw=>cases hf;cases hw;exact there (show (1:Int) ≠ 0 by decide) (ztS (by decide) rfl rfl rfl) rfl
  | k + 2,hf,hw=>cases hw) rfl
 have hI:I64V valW:=zpF (zkR (by decide) (by decide)) λw hw=>by
  simp only [List.mem_cons,List.not_mem_nil,or_false] at hw
  rcases hw with e | e <;> subst e <;> exact zpF (zkR (by decide) (by decide)) λw hw=>by cases hw
 have hf:Fine valW:=zew (zNz _) (by decide) λw hw=>by
  simp only [List.mem_cons,List.not_mem_nil,or_false] at hw
  rcases hw with e | e <;> subst e <;> exact zew (zNz _) (zNz _) λw hw=>by cases hw
 have hb:bare valW=true:=by decide +kernel
 have hc:cnt valW <= 5000:=by decide +kernel
 have hp:=zta zuc zvp.nb hF hb hI hf hc
 have ht:txt 17 tabW.types 0 valW=[123,32,97,32,53,44,32,98,32,84,82,85,69,32,125]:=by
  have e5:Lib.itoa 5=[53]:=by
   unfold Lib.itoa
   rw [if_neg (by decide),Lib.decDigits_one (by decide)];rfl
  show brc [[97] ++ 32 :: Lib.itoa 5,[98] ++ 32 :: [84,82,85,69]]=_
  rw [e5];rfl
 unfold pTxt at hp
 rw [ht,if_neg (by decide)] at hp
 refine T.eq zun (T.eq hp ?_)
 exact T.and' (T.and' (T.some rfl))

end Go.Proofs.Q


namespace Go.Proofs.Q
open Go.Sy
set_option maxRecDepth 4000
def zfy (zkr:(List Int)):Option (Bool) :=
 cal (zc7 (Str.mk [77,32,68,69,70,73,78,73,84,73,79,78,83,32,73,77,80,76,73,67,73,84,32,84,65,71,83,32,58,58,61,32,66,69,71,73,78,32,65,32,58,58,61,32,83,69,81,85,69,78,67,69,32,123,32,97,32,91,48,93,32,78,85,76,76,32,79,80,84,73,79,78,65,76,44,32,98,32,91,49,93,32,78,85,76,76,32,79,80,84,73,79,78,65,76,44,32,99,32,91,50,93,32,78,85,76,76,32,79,80,84,73,79,78,65,76,44,32,100,32,91,51,93,32,78,85,76,76,32,79,80,84,73,79,78,65,76,32,125,32,69,78,68])) λy1=>br (decide ((8:Int) < (zkr.length:Int))) (cal (zfj ) λy3=>some (y3)) (asr (decide (0 <= (4:Int)/\(4:Int) <= 68719476736)) <| lp (ι:=Str × Int × Int × Int × Val) (λL9 q8=>br (decide (q8.2.2.2.1 < (zkr.length:Int))) (cal (getI zkr q8.2.2.2.1) λy57=>asr (!decide ((4:UInt64)=0)) <| ck ((((UInt64.ofNat (y57 % 18446744073709551616).toNat) % (4:UInt64)).toNat:Int)) <| jp (ι:=Str) (λJ61=>br (decide ((0:Int) < q8.2.2.2.1)) (asr (Nat.ble (q8.1.b.length + (Str.mk [44]).b.length) 4611686018427387904) <| J61 ((Str.mk (q8.1.b ++ (Str.mk [44]).b)))) (J61 (q8.1))) (λq60=>asr (Nat.ble (q60.b.length + (Str.mk [32]).b.length) 4611686018427387904) <| jp (ι:=Bool) (λJ65=>br (decide ((((UInt64.ofNat (y57 % 18446744073709551616).toNat) % (4:UInt64)).toNat:Int) <= q8.2.1)) (J65 ((decide (q8.2.2.1 < (0:Int))))) (J65 (false))) (λq64=>jp (ι:=Int) (λJ68=>br q64 (J68 (((Str.mk (q60.b ++ (Str.mk [32]).b)).b.length:Int))) (J68 (q8.2.2.1))) (λq67=>asr (decide (0 <= (((UInt64.ofNat (y57 % 18446744073709551616).toNat) % (4:UInt64)).toNat:Int)/\(((UInt64.ofNat (y57 % 18446744073709551616).toNat) % (4:UInt64)).toNat:Int) < ((q8.2.2.2.2.l.length:Nat):Int))) <| cal (q8.2.2.2.2.l[(((UInt64.ofNat (y57 % 18446744073709551616).toNat) % (4:UInt64)).toNat:Int).toNat]?) λy70=>ck (((97:Int) + (((UInt64.ofNat (y57 % 18446744073709551616).toNat) % (4:UInt64)).toNat:Int))) <| asr (Nat.ble ((Str.mk (q60.b ++ (Str.mk [32]).b)).b.length + (Str.mk ([(UInt8.ofNat (((97:Int) + (((UInt64.ofNat (y57 % 18446744073709551616).toNat) % (4:UInt64)).toNat:Int)) % 256).toNat)]:(List UInt8))).b.length) 4611686018427387904) <| asr (Nat.ble ((Str.mk ((Str.mk (q60.b ++ (Str.mk [32]).b)).b ++ (Str.mk ([(UInt8.ofNat (((97:Int) + (((UInt64.ofNat (y57 % 18446744073709551616).toNat) % (4:UInt64)).toNat:Int)) % 256).toNat)]:(List UInt8))).b)).b.length + (Str.mk [32,78,85,76,76]).b.length) 4611686018427387904) <| ck ((q8.2.2.2.1 + (1:Int))) <| L9 ((Str.mk ((Str.mk ((Str.mk (q60.b ++ (Str.mk [32]).b)).b ++ (Str.mk ([(UInt8.ofNat (((97:Int) + (((UInt64.ofNat (y57 % 18446744073709551616).toNat) % (4:UInt64)).toNat:Int)) % 256).toNat)]:(List UInt8))).b)).b ++ (Str.mk [32,78,85,76,76]).b)),(((UInt64.ofNat (y57 % 18446744073709551616).toNat) % (4:UInt64)).toNat:Int),q67,(q8.2.2.2.1 + (1:Int)),(Val.mk q8.2.2.2.2.kind q8.2.2.2.2.n q8.2.2.2.2.b (q8.2.2.2.2.l.set ((((UInt64.ofNat (y57 % 18446744073709551616).toNat) % (4:UInt64)).toNat:Int).toNat) (Val.mk (4:Int) (0:Int) ([]:(List UInt8)) ([]:(List Val)) (0:Int) ([]:(List Raw)))) q8.2.2.2.2.rule q8.2.2.2.2.more)))))) (asr (Nat.ble (q8.1.b.length + (Str.mk [32,125]).b.length) 4611686018427387904) <| cal (zgW y1.1 (0:Int) (Str.mk (q8.1.b ++ (Str.mk [32,125]).b))) λy77=>br (decide ((0:Int) <= q8.2.2.1)) (cal (zfj ) λy79=>jp (ι:=Bool) (λJ81=>br y79 (J81 (y1.2)) (J81 (false))) (λq80=>jp (ι:=Bool) (λJ84=>br q80 (J84 ((decide (y77.2.2=(7:Int))))) (J84 (false))) (λq83=>jp (ι:=Bool) (λJ87=>br q83 (J87 ((decide (y77.2.1=q8.2.2.1)))) (J87 (false))) (λq86=>jp (ι:=Bool) (λJ90=>br q86 (cal (zi9 fuel y77.1 (Val.mk (0:Int) (0:Int) ([]:(List UInt8)) ([]:(List Val)) (0:Int) ([]:(List Raw)))) λy92=>J90 (y92)) (J90 (false))) (λq89=>some (q89)))))) (cal (zfj ) λy93=>jp (ι:=Bool) (λJ95=>br y93 (J95 (y1.2)) (J95 (false))) (λq94=>jp (ι:=Bool) (λJ98=>br q94 (J98 ((decide (y77.2.2=(0:Int))))) (J98 (false))) (λq97=>jp (ι:=Bool) (λJ101=>br q97 (cal (zi9 fuel y77.1 q8.2.2.2.2) λy103=>J101 (y103)) (J101 (false))) (λq100=>some (q100))))))) (((Str.mk [123]),(-1:Int),(-1:Int),(0:Int),(Val.mk (7:Int) (0:Int) ([]:(List UInt8)) (List.replicate ((4:Int)).toNat (Val.mk (0:Int) (0:Int) ([]:(List UInt8)) ([]:(List Val)) (0:Int) ([]:(List Raw)))) (0:Int) ([]:(List Raw))))))
end Go.Proofs.Q


namespace Go.Proofs.Q
open Go.Sy
set_option linter.unusedVariables false
set_option maxRecDepth 4000

/-! ### Signs with their places -/
inductive WT (n:Nat):List UInt8->List GTok->Prop
 | fin {b:List UInt8}:wh .out b=[]->WT n b [⟨0,⟨[]⟩,(n:Int)⟩]
 | tok {b r r' t:List UInt8} {c:UInt8} {k:Int} {l:List GTok}:wh .out b=c :: r->oneS (c :: r)=some (k,t,r')->WT n r' l->WT n b (⟨k,⟨t⟩,(n:Int) - ((c :: r).length:Int)⟩ :: l)
theorem zsS {n:Nat} {b:List UInt8} {l:List GTok} (h:WT n b l):∀ f acc,b.length < f->toksF n f b acc=(acc ++ l,0,0):=by
 induction h with
 | @fin b h =>
  intro f acc hf
  obtain ⟨f,rfl⟩:∃ g,f=g + 1:=⟨f - 1,by omega⟩
  rw [zgS,h]
 | @tok b r r' t c k l h1 h2 _ ih =>
  intro f acc hf
  obtain ⟨f,rfl⟩:∃ g,f=g + 1:=⟨f - 1,by omega⟩
  have h3:=zjO h2
  have h4:=zfn b .out
  rw [h1] at h4
  rw [zgS,h1]
  simp only [h2]
  rw [ih f _ (by omega),zLA];rfl
theorem zrU {b:List UInt8} {l:List GTok} (h:WT b.length b l) (hl:b.length <= 8000):toks b=(l,0,0):=by
 unfold toks
 rw [zDF (show ¬ 8000 < b.length by omega),zCf,zsS h (b.length + 1) [] (by omega)]
 rfl
theorem WT.sp {n:Nat} {b:List UInt8} {l:List GTok} (h:WT n b l):WT n (32 :: b) l:=by
 cases h with
 | fin h=>exact .fin h
 | tok h1 h2 h3=>exact .tok h1 h2 h3
theorem WT.at {n:Nat} {w x:List UInt8} {l:List GTok} {k:Int} (h0:w ≠ []) (hw:wh .out (w ++ x)=w ++ x) (ho:oneS (w ++ x)=some (k,w,x)) (h:WT n x l):WT n (w ++ x) (⟨k,⟨w⟩,(n:Int) - ((w ++ x).length:Int)⟩ :: l):=by
 cases hz:w ++ x with
 | nil=>rw [List.append_eq_nil_iff] at hz;exact absurd hz.1 h0
 | cons c r=>rw [hz] at hw ho;exact .tok hw ho h
theorem WT.nm {n:Nat} {w x:List UInt8} {l:List GTok} (h0:zaP (hd w)=true) (h1:nmAll w 0=true) (h3:w.getLast? ≠ some 45) (h4:w.length <= 60) (hx:stopN x=true) (h:WT n x l):WT n (w ++ x) (⟨kindN w,⟨w⟩,(n:Int) - ((w ++ x).length:Int)⟩ :: l):=by
 refine WT.at (zlO h0) ?_ (zqx h0 (by rw [zoh h3,h1]) hx h3 h4) h
 obtain ⟨e1,e2⟩:=zog h0
 cases w with
 | nil=>cases h0
 | cons c r=>exact zmz e1 (.inl e2)
theorem WT.sg {n:Nat} {s x:List UInt8} {l:List GTok} (hs:s ∈ sgs) (h:sgN s (hd x)=true) (hl:WT n x l):WT n (s ++ x) (⟨6,⟨s⟩,(n:Int) - ((s ++ x).length:Int)⟩ :: l):=by
 obtain ⟨h1,h2⟩:=zpL hs h
 exact WT.at (by rintro rfl;revert hs;decide) h2 h1 hl

/-! ### The text -/
def bytF:List Nat->List UInt8
 | []=>[]
 | [k]=>[UInt8.ofNat (97 + k),32,78,85,76,76,32,125]
 | k :: j :: r=>UInt8.ofNat (97 + k) :: 32 :: 78 :: 85 :: 76 :: 76 :: 44 :: 32 :: bytF (j :: r)
def nmT (p:Int) (k:Nat):GTok:=⟨2,⟨[UInt8.ofNat (97 + k)]⟩,p⟩
def nuT (p:Int):GTok:=⟨5,⟨[78,85,76,76]⟩,p⟩
def tksF:Int->List Nat->List GTok
 | _,[]=>[]
 | p,[k]=>[nmT p k,nuT (p + 2),⟨6,⟨[125]⟩,p + 7⟩,⟨0,⟨[]⟩,p + 8⟩]
 | p,k :: j :: r=>nmT p k :: nuT (p + 2) :: ⟨6,⟨[44]⟩,p + 6⟩ :: tksF (p + 8) (j :: r)
theorem ltr:∀ k:Fin 4,zaP (hd [UInt8.ofNat (97 + k.val)])=true/\nmAll [UInt8.ofNat (97 + k.val)] 0=true/\[UInt8.ofNat (97 + k.val)].getLast? ≠ some 45/\kindN [UInt8.ofNat (97 + k.val)]=2:=by decide +kernel
theorem WT.name {n:Nat} {k:Nat} (hk:k < 4) {p:Int} {x:List UInt8} {l:List GTok} (hp:p + (x.length:Int) + 1=n) (hx:stopN x=true) (h:WT n x l):WT n (UInt8.ofNat (97 + k) :: x) (nmT p k :: l):=by
 obtain rfl:p=(n:Int) - (x.length + 1:Nat):=by omega
 obtain ⟨h1,h2,h3,h4⟩:=ltr ⟨k,hk⟩
 have:=WT.nm h1 h2 h3 (by simp) hx h
 rw [h4] at this
 exact this
theorem WT.null {n:Nat} {p:Int} {x:List UInt8} {l:List GTok} (hp:p + (x.length:Int) + 4=n) (hx:stopN x=true) (h:WT n x l):WT n (78 :: 85 :: 76 :: 76 :: x) (nuT p :: l):=by
 obtain rfl:p=(n:Int) - (x.length + 4:Nat):=by omega
 have:=WT.nm (w:=[78,85,76,76]) rfl rfl (by decide) (by decide) hx h
 rw [zt6.2.2] at this
 exact this
theorem WT.sign1 {n:Nat} {c:UInt8} (hc:c=44 \/ c=123 \/ c=125) {p:Int} {x:List UInt8} {l:List GTok} (hp:p + (x.length:Int) + 1=n) (h:WT n x l):WT n (c :: x) (⟨6,⟨[c]⟩,p⟩ :: l):=by
 obtain rfl:p=(n:Int) - (x.length + 1:Nat):=by omega
 refine WT.sg (s:=[c]) ?_ ?_ h
 ·rcases hc with e | e | e <;> subst e <;> decide
 ·rcases hc with e | e | e <;> subst e <;> simp [sgN]
theorem WT.end {n:Nat} {p:Int} (hp:p=n):WT n [] [⟨0,⟨[]⟩,p⟩]:=by subst hp;exact .fin rfl
theorem zth:∀ (ks:List Nat) (n:Nat) (p:Int),ks ≠ []->(∀ k ∈ ks,k < 4)->(n:Int)=p + (bytF ks).length->WT n (bytF ks) (tksF p ks)
 | [],_,_,h,_,_=>absurd rfl h
 | [k],n,p,_,hk,hn=>by
  have hn:(n:Int)=p + 8:=hn
  exact WT.name (hk k zMs) (by simp only [zLc,zLn];omega) (x:=32 :: 78 :: 85 :: 76 :: 76 :: 32 :: 125 :: []) rfl (WT.sp (WT.null (x:=32 :: 125 :: []) (by simp only [zLc,zLn];omega) rfl (WT.sp (WT.sign1 (.inr (.inr rfl)) (by simp only [zLn];omega) (WT.end (by omega))))))
 | k :: j :: r,n,p,_,hk,hn=>by
  have hn:(n:Int)=p + ((bytF (j :: r)).length + 8:Nat):=hn
  have ih:=zth (j :: r) n (p + 8) (by simp) (λz hz=>hk z (zMm _ hz)) (by omega)
  exact WT.name (hk k zMs) (by simp only [zLc];omega) (x:=32 :: 78 :: 85 :: 76 :: 76 :: 44 :: 32 :: bytF (j :: r)) rfl (WT.sp (WT.null (x:=44 :: 32 :: bytF (j :: r)) (by simp only [zLc];omega) rfl (WT.sign1 (.inl rfl) (by simp only [zLc];omega) (WT.sp ih))))

/-! ### The table -/
def nulV:Val:=leafV 4 0 [] []
def tabF:GTab:=⟨⟨[77]⟩,[⟨[65]⟩],[0],[⟨7,[⟨0,16⟩],conN,[],[⟨⟨[97]⟩,1,true,false,zeroV,0⟩,⟨⟨[98]⟩,2,true,false,zeroV,0⟩,⟨⟨[99]⟩,3,true,false,zeroV,0⟩,⟨⟨[100]⟩,4,true,false,zeroV,0⟩],4,false,0⟩,⟨4,[⟨2,0⟩],conN,[],[],0,false,0⟩,⟨4,[⟨2,1⟩],conN,[],[],0,false,0⟩,⟨4,[⟨2,2⟩],conN,[],[],0,false,0⟩,⟨4,[⟨2,3⟩],conN,[],[],0,false,0⟩]⟩
theorem zva:zc7 (Str.mk [77,32,68,69,70,73,78,73,84,73,79,78,83,32,73,77,80,76,73,67,73,84,32,84,65,71,83,32,58,58,61,32,66,69,71,73,78,32,65,32,58,58,61,32,83,69,81,85,69,78,67,69,32,123,32,97,32,91,48,93,32,78,85,76,76,32,79,80,84,73,79,78,65,76,44,32,98,32,91,49,93,32,78,85,76,76,32,79,80,84,73,79,78,65,76,44,32,99,32,91,50,93,32,78,85,76,76,32,79,80,84,73,79,78,65,76,44,32,100,32,91,51,93,32,78,85,76,76,32,79,80,84,73,79,78,65,76,32,125,32,69,78,68])=some (tabF,true):=by
 rw [zhp];kernel_rfl
theorem zvx:TG tabF.types:=zpT (by kernel_rfl)
theorem zuF:TabOk tabF:=ztG (by kernel_rfl)
def fldsF:List GFld:=[⟨⟨[97]⟩,1,true,false,zeroV,0⟩,⟨⟨[98]⟩,2,true,false,zeroV,0⟩,⟨⟨[99]⟩,3,true,false,zeroV,0⟩,⟨⟨[100]⟩,4,true,false,zeroV,0⟩]
def resF:Nat->List Val->Int->List Nat->PR (List Val)
 | _,acc,p,[]=>.ok acc [⟨0,⟨[]⟩,p⟩]
 | s,acc,p,k :: r=>if k < s then .bad p 7 else resF (k + 1) (acc.set k nulV) (p + 8) r
theorem zug (k s:Nat) (hk:k < 4):fidx fldsF ⟨[UInt8.ofNat (97 + k)]⟩ (4 - s) s=if k < s then none else some k:=by
 have:∀ k:Fin 4,∀ s:Fin 5,fidx fldsF ⟨[UInt8.ofNat (97 + k.val)]⟩ (4 - s.val) s.val=if k.val < s.val then none else some k.val:=by decide +kernel
 by_cases hs:s < 5
 ·exact this ⟨k,hk⟩ ⟨s,hs⟩
 ·rw [show 4 - s=0 by omega,if_pos (by omega)];rfl
theorem zvr:∀ k:Fin 4,∃ f,fldsF[k.val]?=some f/\f.ty=(k.val:Int) + 1/\f.has=false
 | ⟨0,_⟩=>⟨_,rfl,rfl,rfl⟩
 | ⟨1,_⟩=>⟨_,rfl,rfl,rfl⟩
 | ⟨2,_⟩=>⟨_,rfl,rfl,rfl⟩
 | ⟨3,_⟩=>⟨_,rfl,rfl,rfl⟩
theorem zuR (k:Nat) (hk:k < 4) (p:Int) (r:List GTok):pv 16 tabF.types ((k:Int) + 1) (nuT p :: r)=.ok nulV r:=by
 have:∀ k:Fin 4,∃ x:GTyp,tabF.types[((k.val:Int) + 1).toNat]?=some x/\x.kind=4
  | ⟨0,_⟩=>⟨_,rfl,rfl⟩
  | ⟨1,_⟩=>⟨_,rfl,rfl⟩
  | ⟨2,_⟩=>⟨_,rfl,rfl⟩
  | ⟨3,_⟩=>⟨_,rfl,rfl⟩
 obtain ⟨x,hx,h4⟩:=this ⟨k,hk⟩
 rw [zt2 hx]
 unfold pvK
 rw [if_neg (by omega),if_pos h4]
 rfl
theorem zt3:∀ (ks:List Nat) (n s:Nat) (acc:List Val) (p:Int),ks ≠ []->(∀ k ∈ ks,k < 4)->ks.length <= n->pFlds fldsF (pv 16 tabF.types) n (tksF p ks) s acc=resF s acc p ks
 | [],_,_,_,_,h,_,_=>absurd rfl h
 | _ :: _,0,_,_,_,_,_,h=>by simp at h
 | k :: r,n + 1,s,acc,p,_,hk,hn=>by
  have hk4:=hk k zMs
  obtain ⟨f,hf,hty,hh⟩:=zvr ⟨k,hk4⟩
  have hts:∃ q,tksF p (k :: r)=nmT p k :: nuT (p + 2) :: q:=by cases r <;> exact ⟨_,rfl⟩
  obtain ⟨q,hq⟩:=hts
  have hpf:pFld fldsF s (tksF p (k :: r))=if k < s then none else some (k,nuT (p + 2) :: q):=by
   rw [hq]
   show (bif decide ((2:Int)=2) then (fidx fldsF ⟨[UInt8.ofNat (97 + k)]⟩ (fldsF.length - s) s).map λj=>(j,nuT (p + 2) :: q) else none)=_
   rw [show fldsF.length=4 from rfl,zug k s hk4]
   by_cases h:k < s
   ·rw [if_pos h,if_pos h];rfl
   ·rw [if_neg h,if_neg h];rfl
  unfold pFlds resF
  rw [hpf]
  by_cases h:k < s
  ·rw [if_pos h,if_pos h,hq];rfl
  ·rw [if_neg h,if_neg h]
   dsimp only
   rw [hf]
   dsimp only
   rw [hty,zuR k hk4]
   dsimp only
   rw [zqn hh]
   cases r with
   | nil =>
    have:q=[⟨6,⟨[125]⟩,p + 7⟩,⟨0,⟨[]⟩,p + 8⟩]:=by
     have:=hq.symm
     simp only [tksF,List.cons.injEq,true_and] at this
     exact this
    subst this
    rfl
   | cons j r =>
    have:q=⟨6,⟨[44]⟩,p + 6⟩ :: tksF (p + 8) (j :: r):=by
     have:=hq.symm
     simp only [tksF,List.cons.injEq,true_and] at this
     exact this
    subst this
    have h2:pIs [44] (⟨6,⟨[44]⟩,p + 6⟩ :: tksF (p + 8) (j :: r))=some (tksF (p + 8) (j :: r)):=rfl
    rw [h2]
    dsimp only
    exact zt3 (j :: r) n (k + 1) _ (p + 8) (by simp) (λz hz=>hk z (zMm _ hz)) (by simpa using hn)
theorem zrW:∀ (ks:List Nat) (p:Int),ks.length <= (tksF p ks).length
 | [],_=>zNl _
 | [k],_=>by simp [tksF]
 | k :: j :: r,p=>by
  have:=zrW (j :: r) (p + 8)
  show (j :: r).length + 1 <= (tksF (p + 8) (j :: r)).length + 3
  omega
def txtF (ks:List Nat):List UInt8:=123 :: 32 :: (if ks=[] then [125] else bytF ks)
theorem zrT:∀ ks:List Nat,(bytF ks).length <= 8 * ks.length
 | []=>zNl _
 | [k]=>zNl _
 | k :: j :: r=>by
  have:=zrT (j :: r)
  show (bytF (j :: r)).length + 8 <= 8 * ((j :: r).length + 1)
  omega
theorem zvC (ks:List Nat) (hk:∀ k ∈ ks,k < 4) (hl:ks.length <= 100):pNote tabF.types 0 (txtF ks)=match resF 0 (List.replicate 4 zeroV) 2 ks with
    | .ok l _=>.ok (leafV 7 0 [] l) []
    | .bad p e=>.bad p e:=by
  have hbl:=zrT ks
  by_cases h0:ks=[]
  · subst h0
    have hw:WT 3 [123,32,125] [⟨6,⟨[123]⟩,0⟩,⟨6,⟨[125]⟩,2⟩,⟨0,⟨[]⟩,3⟩]:=WT.sign1 (n:=3) (.inr (.inl rfl)) (by decide) (WT.sp (WT.sign1 (.inr (.inr rfl)) (by decide) (WT.end rfl)))
    have ht:=zrU (b:=[123,32,125]) hw (by decide)
    unfold pNote
    rw [show txtF []=[123,32,125] from rfl,ht,if_neg (by simp)]
    rfl
  · have hw:WT (txtF ks).length (txtF ks) (⟨6,⟨[123]⟩,0⟩ :: tksF 2 ks):=by
      unfold txtF
      rw [if_neg h0]
      have h:=zth ks (123 :: 32 :: bytF ks).length 2 h0 hk (by simp only [zLc];omega)
      exact WT.sign1 (c:=123) (.inr (.inl rfl)) (by simp only [zLc];omega) (WT.sp h)
    have ht:=zrU hw (by unfold txtF;rw [if_neg h0];simp only [zLc];omega)
    have hq:∃ k r q,ks=k :: r/\tksF 2 ks=nmT 2 k :: q:=by
      cases ks with
      | nil=>exact absurd rfl h0
      | cons k r=>cases r <;> exact ⟨_,_,_,rfl,rfl⟩
    obtain ⟨k,r,q,e1,e2⟩:=hq
    have hp:pv 17 tabF.types 0 (⟨6,⟨[123]⟩,0⟩ :: tksF 2 ks)=PR.map (leafV 7 0 []) (resF 0 (List.replicate 4 zeroV) 2 ks):=by
      rw [<- zt3 ks (tksF 2 ks).length 0 (List.replicate 4 zeroV) 2 h0 hk (zrW ks 2)]
      rw [zt2 (x:=⟨7,[⟨0,16⟩],conN,[],fldsF,4,false,0⟩) rfl]
      show PR.map (leafV 7 0 []) (pSeq fldsF (pv 16 tabF.types) (⟨6,⟨[123]⟩,0⟩ :: tksF 2 ks))=_
      have h1:pIs [123] (⟨6,⟨[123]⟩,0⟩ :: tksF 2 ks)=some (tksF 2 ks):=rfl
      have h2:pIs [125] (tksF 2 ks)=none:=by rw [e2];rfl
      unfold pSeq
      rw [h1]
      dsimp only
      rw [h2]
      rfl
    unfold pNote
    rw [ht,if_neg (by simp)]
    dsimp only
    rw [hp]
    have hok:∀ (ks:List Nat) (s:Nat) (acc:List Val) (p:Int),match resF s acc p ks with
        | .ok _ r=>∃ p',r=[⟨0,⟨[]⟩,p'⟩]
        | .bad _ _=>True:=by
      intro ks
      induction ks with
      | nil=>intro s acc p;exact ⟨p,rfl⟩
      | cons k r ih =>
        intro s acc p
        unfold resF
        by_cases h:k < s
        · rw [if_pos h];trivial
        · rw [if_neg h];exact ih _ _ _
    have:=hok ks 0 (List.replicate 4 zeroV) 2
    cases hR:resF 0 (List.replicate 4 zeroV) 2 ks with
    | bad p e=>rfl
    | ok l r =>
      rw [hR] at this
      obtain ⟨p',rfl⟩:=this
      rfl
end Go.Proofs.Q


namespace Go.Proofs.Q
open Go.Sy
set_option linter.unusedVariables false
set_option maxRecDepth 4000

def kOf (y:Int):Nat:=((UInt64.ofNat (y % 18446744073709551616).toNat) % (4:UInt64)).toNat
theorem zq5 (y:Int):kOf y < 4:=by
 unfold kOf
 rw [UInt64.toNat_mod]
 exact Nat.mod_lt _ (by decide)
structure SF where
 b:List UInt8
 last:Int
 bad:Int
 fst:Bool
 l:List Val
def b1F (q:SF):List UInt8:=(bif q.fst then q.b else q.b ++ [44]) ++ [32]
def stF (q:SF) (k:Nat):SF:=⟨b1F q ++ [UInt8.ofNat (97 + k)] ++ [32,78,85,76,76],k,if (k:Int) <= q.last/\q.bad < 0 then (b1F q).length else q.bad,false,q.l.set k nulV⟩
def runF (q:SF) (ks:List Nat):SF:=ks.foldl stF q
def iniF:SF:=⟨[123],-1,-1,true,List.replicate 4 zeroV⟩
theorem zoo:∀ (ks:List Nat) (q:SF),0 <= q.bad->(runF q ks).bad=q.bad
 | [],_,_=>rfl
 | k :: r,q,h=>by
  have h2:(stF q k).bad=q.bad:=by
   show (if (k:Int) <= q.last/\q.bad < 0 then _ else q.bad)=_
   rw [if_neg (by omega)]
  exact (zoo r (stF q k) (by rw [h2];exact h)).trans h2
theorem zqL (q:SF):(b1F q).length=q.b.length + (if q.fst=true then 1 else 2):=by
 unfold b1F
 cases q.fst <;> simp
theorem zrP:∀ (ks:List Nat) (q:SF),q.bad=-1->-1 <= q.last->match resF (q.last + 1).toNat q.l ((b1F q).length:Int) ks with
    | .bad p e=>(runF q ks).bad=p/\e=7/\0 <= p
    | .ok l _=>(runF q ks).bad=-1/\(runF q ks).l=l
  | [],q,h,_=>⟨h,rfl⟩
  | k :: r,q,h,hl=>by
    unfold resF
    by_cases hk:k < (q.last + 1).toNat
    · rw [if_pos hk]
      have h2:(stF q k).bad=(b1F q).length:=by
        show (if (k:Int) <= q.last/\q.bad < 0 then _ else q.bad)=_
        rw [if_pos (by omega)]
      have h3:=zoo r (stF q k) (by rw [h2];omega)
      exact ⟨h3.trans h2,rfl,by omega⟩
    · rw [if_neg hk]
      have h2:(stF q k).bad=-1:=by
        show (if (k:Int) <= q.last/\q.bad < 0 then _ else q.bad)=_
        rw [if_neg (by omega),h]
      have ih:=zrP r (stF q k) h2 (by show (-1:Int) <= k;omega)
      have e1:((stF q k).last + 1).toNat=k + 1:=by show ((k:Int) + 1).toNat=_;omega
      have e2:((b1F (stF q k)).length:Int)=(b1F q).length + 8:=by
        rw [zqL (stF q k)]
        show (((b1F q ++ [UInt8.ofNat (97 + k)] ++ [32,78,85,76,76]).length + (if (stF q k).fst=true then 1 else 2):Nat):Int)=_
        rw [show (stF q k).fst=false from rfl,if_neg (by decide),zLa,zLa]
        simp only [zLc,zLn];omega
      rw [e1,e2] at ih
      exact ih
theorem zrV:∀ (r:List Nat) (k:Nat) (q:SF),(runF q (k :: r)).b ++ [32,125]=b1F q ++ bytF (k :: r)
 | [],k,q=>by
  show (b1F q ++ [UInt8.ofNat (97 + k)] ++ [32,78,85,76,76]) ++ [32,125]=_
  rw [zLA,zLA];rfl
 | j :: r,k,q=>by
  have ih:=zrV r j (stF q k)
  have e:b1F (stF q k)=b1F q ++ [UInt8.ofNat (97 + k),32,78,85,76,76,44,32]:=by
   show (b1F q ++ [UInt8.ofNat (97 + k)] ++ [32,78,85,76,76]) ++ [44] ++ [32]=_
   rw [zLA,zLA,zLA];rfl
  show (runF (stF q k) (j :: r)).b ++ [32,125]=_
  rw [ih,e,zLA];rfl
theorem zuU (ks:List Nat):(runF iniF ks).b ++ [32,125]=txtF ks:=by
 cases ks with
 | nil=>rfl
 | cons k r=>rw [zrV];rfl
theorem zh4:∀ (ks:List Nat) (q:SF),(runF q ks).b.length <= q.b.length + 8 * ks.length/\(runF q ks).l.length=q.l.length
 | [],q=>⟨zNl _,rfl⟩
 | k :: r,q=>by
  have ih:=zh4 r (stF q k)
  have h1:=zqL q
  have e1:(stF q k).b.length=(b1F q).length + 6:=by
   show (b1F q ++ [UInt8.ofNat (97 + k)] ++ [32,78,85,76,76]).length=_
   simp only [zLa,zLc,zLn]
  have e2:(stF q k).l.length=q.l.length:=List.length_set
  rw [e2] at ih
  refine ⟨?_,ih.2⟩
  have:=ih.1
  show (runF (stF q k) r).b.length <= _
  rw [zLc]
  split at h1 <;> omega
theorem znw:∀ (ks:List Nat) (q:SF),(∀ w ∈ q.l,w=zeroV \/ w=nulV)->∀ w ∈ (runF q ks).l,w=zeroV \/ w=nulV
 | [],q,h=>h
 | k :: r,q,h=>znw r (stF q k) λw hw=>by
  rcases List.mem_or_eq_of_mem_set hw with h1 | h1
  ·exact h w h1
  ·exact .inr h1
theorem zpY:∀ l:List Val,(∀ w ∈ l,w=zeroV \/ w=nulV)->(l.map cnt).sum=l.length
 | [],_=>rfl
 | w :: l,h=>by
  have ih:=zpY l λz hz=>h z (zMm _ hz)
  have h1:cnt w=1:=by
   rcases h w zMs with e | e
   ·rw [e];exact zlK
   ·rw [e];exact zgr _ _ _ _
  rw [List.map_cons,List.sum_cons,ih,h1,zLc];omega
structure GoodL (l:List Val):Prop where
 fit:Fit tabF 17 0 (leafV 7 0 [] l)
 bare:bare (leafV 7 0 [] l)=true
 fine:Fine (leafV 7 0 [] l)
 cnt:cnt (leafV 7 0 [] l)=5
theorem ztr {l:List Val} (hl:l.length=4) (h:∀ w ∈ l,w=zeroV \/ w=nulV):GoodL l:=by
 refine ⟨zrk (zIl _) (x:=⟨7,[⟨0,16⟩],conN,[],fldsF,4,false,0⟩) rfl rfl hl (λk f w hf hw=>?_) rfl,?_,?_,?_⟩
 ·rcases h w (List.mem_of_getElem? hw) with e | e
  ·subst e
   refine .inl ⟨rfl,rfl,.inl ?_⟩
   match k,hf with
   | 0,hf=>cases hf;rfl
   | 1,hf=>cases hf;rfl
   | 2,hf=>cases hf;rfl
   | 3,hf=>cases hf;rfl
   | k + 4,hf=>cases hf
  ·subst e
   match k,hf with
   | 0,hf=>cases hf;exact there (show (4:Int) ≠ 0 by decide) (zlu (by decide) rfl rfl) rfl
   | 1,hf=>cases hf;exact there (show (4:Int) ≠ 0 by decide) (zlu (by decide) rfl rfl) rfl
   | 2,hf=>cases hf;exact there (show (4:Int) ≠ 0 by decide) (zlu (by decide) rfl rfl) rfl
   | 3,hf=>cases hf;exact there (show (4:Int) ≠ 0 by decide) (zlu (by decide) rfl rfl) rfl
   | k + 4,hf=>cases hf
 ·rw [zi8]
  have:(l.map bare).all id=true:=by
   rw [List.all_eq_true]
   intro x hx
   obtain ⟨w,hw,rfl⟩:=List.mem_map.1 hx
   rcases h w hw with e | e <;> rw [e] <;> simp [zeroV,nulV,leafV,zi8]
  show (true && (l.map bare).all id)=true
  rw [this];rfl
 ·exact zew (zNz _) (by omega) λw hw=>by
   rcases h w hw with e | e
   ·rw [e];exact zkx
   ·rw [e];exact zew (zNz _) (zNz _) λz hz=>by cases hz
 ·rw [zgr,zpY l h,hl]
theorem zuI (ks:List Nat) (hk:∀ k ∈ ks,k < 4) (hl:ks.length <= 100):zgW tabF 0 ⟨txtF ks⟩=some (if 0 <= (runF iniF ks).bad then (zeroV,(runF iniF ks).bad,7) else (leafV 7 0 [] (runF iniF ks).l,0,0)):=by
 refine T.eqs ?_
 have h:=zvC ks hk hl
 have hr:=zrP ks iniF rfl (by decide)
 have hrl:=(zh4 ks iniF).2
 have hv:=znw ks iniF λw hw=>.inl (List.eq_of_mem_replicate hw)
 change match resF 0 (List.replicate 4 zeroV) 2 ks with
  | .bad p e=>(runF iniF ks).bad=p/\e=7/\0 <= p
  | .ok l _=>(runF iniF ks).bad=-1/\(runF iniF ks).l=l at hr
 refine zu4 zvx.ok (zIl _) (by decide) _ (λp e hp _=>?_) λw r hp _ _=>?_
 ·rw [h] at hp
  cases hR:resF 0 (List.replicate 4 zeroV) 2 ks with
  | ok l r=>rw [hR] at hp;cases hp
  | bad p' e' =>
   rw [hR] at hp hr
   cases hp
   obtain ⟨h1,h2,h3⟩:=hr
   rw [h1,if_pos h3,h2]
 ·rw [h] at hp
  cases hR:resF 0 (List.replicate 4 zeroV) 2 ks with
  | bad p' e'=>rw [hR] at hp;cases hp
  | ok l r' =>
   rw [hR] at hp hr
   cases hp
   obtain ⟨h1,h2⟩:=hr
   rw [h2] at hrl hv
   have hg:=ztr hrl hv
   refine ⟨true,zpR zuF hg.fit hg.bare hg.fine (by rw [hg.cnt];decide),?_⟩
   dsimp only
   rw [if_pos rfl,h1,h2,if_neg (by decide)]
theorem zvF (y:Int):UInt8.ofNat (((97:Int) + (((UInt64.ofNat (y % 18446744073709551616).toNat) % (4:UInt64)).toNat:Int)) % 256).toNat=UInt8.ofNat (97 + kOf y):=by
 have:=zq5 y
 show UInt8.ofNat (((97:Int) + (kOf y:Int)) % 256).toNat=_
 congr 1
 omega
theorem zpK (names:List Int):zfy names=some true:=by
 refine T.eqs ?_
 unfold zfy
 refine T.eq zva (T.br (λ_=>T.eq znU (T.some rfl)) λh8=>?_)
 have h8:=zOF h8
 refine T.asr rfl ?_
 refine T.lp (ι:=Str × Int × Int × Int × Val) (λq=>∃ n:Nat,n <= names.length/\∃ s:SF,s=runF iniF ((names.take n).map kOf)/\s.fst=decide (n=0)/\s.l.length=4/\q=(⟨s.b⟩,s.last,s.bad,(n:Int),leafV 7 0 [] s.l)) (λq=>((names.length:Int) - q.2.2.2.1).toNat) ⟨0,zNz _,iniF,rfl,rfl,rfl,rfl⟩ (by dsimp only;omega) λL q ⟨n,hn,s,hs,hf,h4,eq⟩ hL=>?_
 subst eq
 dsimp only at hL ⊢
 refine T.br (λhb=>?_) λhb=>?_
 ·have hb:=zOT hb
  refine T.get (by omega) (by omega) λy hy=>?_
  rw [Int.toNat_natCast] at hy
  have hk:=zq5 y
  have hrun:stF s (kOf y)=runF iniF ((names.take (n + 1)).map kOf):=by
   rw [List.take_add_one,hy,List.map_append,hs]
   unfold runF
   rw [List.foldl_append];rfl
  have hsl:=(zh4 ((names.take n).map kOf) iniF).1
  rw [<- hs,List.length_map,zLt] at hsl
  have hsl:s.b.length <= 1 + 8 * min n names.length:=hsl
  refine T.asr rfl (T.ck (by have e:(UInt64.ofNat (y % 18446744073709551616).toNat % 4).toNat=kOf y:=rfl;omega) ?_)
  refine T.jp (λz=>z=⟨bif s.fst then s.b else s.b ++ [44]⟩) (λJ k=>T.br (λh0=>T.abl (by simp only [zLc,zLn];omega) (k _ ?_)) λh0=>k _ ?_) λz hz=>?_
  ·have h0:=zOT h0
   rw [hf,zDF (by omega)];rfl
  ·have h0:=zOF h0
   rw [hf,zDT (by omega)];rfl
  subst hz
  have hb1:(bif s.fst then s.b else s.b ++ [44]) ++ [32]=b1F s:=rfl
  have hb1l:=zqL s
  have hb1u:(b1F s).length <= s.b.length + 2:=by rw [hb1l];split <;> omega
  have hzl:(bif s.fst then s.b else s.b ++ [44]).length + 1=(b1F s).length:=by rw [<- hb1,zLa];rfl
  refine T.abl (by dsimp only;simp only [zLc,zLn];omega) ?_
  dsimp only
  rw [hb1]
  refine T.andJ (d:=decide (s.bad < 0)) (λJ k=>k) ?_
  refine T.jp (λz=>z=(stF s (kOf y)).bad) (λJ k=>T.br (λh0=>k _ ?_) λh0=>k _ ?_) λz hz=>?_
  ·rw [zBa] at h0
   show _=if (kOf y:Int) <= s.last/\s.bad < 0 then _ else _
   rw [if_pos ⟨zOT h0.1,zOT h0.2⟩]
  ·rw [Bool.and_eq_false_iff] at h0
   show _=if (kOf y:Int) <= s.last/\s.bad < 0 then _ else _
   rw [if_neg λh=>h0.elim (λh2=>zOF h2 h.1) λh2=>zOF h2 h.2]
  subst hz
  have hlen:(leafV 7 0 [] s.l).l.length=4:=h4
  refine T.asd (by rw [hlen];show 0 <= (kOf y:Int)/\(kOf y:Int) < 4;omega) ?_
  obtain ⟨w,hw⟩:∃ w,s.l[kOf y]?=some w:=⟨_,List.getElem?_eq_getElem (by omega)⟩
  refine T.eq (y:=w) (by show s.l[((kOf y:Nat):Int).toNat]?=_;rw [Int.toNat_natCast,hw]) ?_
  refine T.ck (by have e:(UInt64.ofNat (y % 18446744073709551616).toNat % 4).toNat=kOf y:=rfl;omega) ?_
  rw [zvF]
  refine T.abl (by simp only [zLa,zLc,zLn];omega) (T.abl (by simp only [zLa,zLc,zLn];omega) (T.ck (by omega) (hL _ ⟨n + 1,by omega,stF s (kOf y),hrun,rfl,?_,?_⟩ (by dsimp only;omega))))
  ·exact List.length_set.trans h4
  ·show (_,_,_,_,_)=_
   congr 1
 ·have hb:=zOF hb
  have et:names.take n=names:=zTl (by omega)
  rw [et] at hs
  have hkl:(names.map kOf).length=names.length:=List.length_map _
  have hsl:=(zh4 (names.map kOf) iniF).1
  rw [<- hs,hkl] at hsl
  have hsl:s.b.length <= 1 + 8 * names.length:=hsl
  refine T.abl (by simp only [zLc,zLn];omega) ?_
  have hp:=zuI (names.map kOf) (λk hk=>by
   obtain ⟨y,_,rfl⟩:=List.mem_map.1 hk
   exact zq5 y) (by rw [hkl];omega)
  rw [<- hs] at hp
  have htx:=zuU (names.map kOf)
  rw [<- hs] at htx
  rw [htx]
  refine T.eq hp ?_
  have hv:=znw (names.map kOf) iniF λw hw=>.inl (List.eq_of_mem_replicate hw)
  rw [<- hs] at hv
  have hg:=ztr h4 hv
  refine T.br (λh0=>?_) λh0=>?_
  ·rw [if_pos (zOT h0)]
   refine T.eq znU (T.and' (T.and' (T.and' ?_)))
   have e9:decide ((zeroV,s.bad,(7:Int)).2.1=s.bad)=true:=zDT rfl
   rw [e9]
   refine T.andJ (d:=true) (λJ k=>T.cal (zng (k:=1) (n:=fuel) (by rw [zlK];decide) (by unfold fuel;decide) zkx _) λr _ hr=>?_) (T.some rfl)
   rw [hr.2 rfl]
   exact k
  ·rw [if_neg (zOF h0)]
   refine T.eq znU (T.and' (T.and' ?_))
   refine T.andJ (d:=true) (λJ k=>T.cal (zng (k:=5) (n:=fuel) (by rw [hg.cnt];decide) (by unfold fuel;decide) hg.fine _) λr _ hr=>?_) (T.some rfl)
   rw [hr.2 rfl]
   exact k
end Go.Proofs.Q


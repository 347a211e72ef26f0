/- The laws of single tables: awake, NoteLeaves. No condition: general lemmas. -/
import Derived.Test.YthafpblconbjkaaGreatDoorNbC
import Derived.Lib.ValidLaws
set_option linter.unusedVariables false
set_option linter.unusedSimpArgs false
set_option maxRecDepth 4000
set_option maxHeartbeats 4000000
namespace Go.Proofs.Q
open Go.Sy
theorem seg {b:List UInt8} {i k:Nat}:(b.take k).drop i=(b.drop i).take (k - i):=by rw [List.drop_take]
theorem zxN {b:List UInt8} {i n:Nat} {y:UInt8} (h:b[i + n]?=some y):(b.drop i)[n]?=some y:=by rw [List.getElem?_drop,h]
theorem zuI {b:List UInt8} {n:Nat} {y:UInt8} (h:b[n]?=some y):b.take (n + 1)=b.take n ++ [y]:=by rw [List.take_add_one,h];rfl

/-! ### Numbers -/
def dg:List UInt8->Nat
 | []=>0
 | c :: r=>bif zaq c then dg r + 1 else 0
theorem zqr (c:UInt8) (r:List UInt8):dg (c :: r)=bif zaq c then dg r + 1 else 0:=rfl
theorem zt1:∀ b:List UInt8,dg b <= b.length
 | []=>zNl _
 | c :: r=>by
  have:=zt1 r
  rw [zqr]
  cases zaq c <;> simp <;> omega
def zfs (m:Bool) (d:List UInt8):Bool :=
 decide (dg d < 1) || decide (19 < dg d) || (decide (1 < dg d) && decide (hd d=48)) || (m && decide (hd d=48)) || zaF (hd (d.drop (dg d))) ||
  decide (9223372036854775808 < ziW (d.take (dg d))) || (!m && decide (ziW (d.take (dg d))=9223372036854775808))
def zd4 (b:List UInt8):Option Nat :=
 bif decide (hd b=45) then bif zfs true (b.drop 1) then none else some (dg (b.drop 1) + 1)
 else bif zfs false b then none else some (dg b)
theorem zvJ (s:Str) (i:Int) (h0:0 <= i) (h1:i < s.b.length) (hl:s.b.length <= 1000000) :
    zgh s i=some (match zd4 (s.b.drop i.toNat) with
      | none=>-1
      | some n=>i + (n:Int)):=by
  refine tx ?_
  unfold zgh
  refine T.get h0 h1 λy1 hy1=>?_
  have hd1:hd (s.b.drop i.toNat)=y1:=by rw [zgH hy1];rfl
  refine T.jp (λf=>i <= f/\f <= i + 1/\zd4 (s.b.drop i.toNat)=(bif zfs (decide (y1=45)) (s.b.drop f.toNat) then none else some (dg (s.b.drop f.toNat) + (f - i).toNat))) (λJ h=>T.br (λhb=>T.ck (by omega) (h _ ⟨by omega,by omega,?_⟩)) λhb=>h _ ⟨by omega,by omega,?_⟩) λf ⟨f1,f2,f3⟩=>?_
  · have e1:(i + 1).toNat=i.toNat + 1:=by omega
    have e2:(i + 1 - i).toNat=1:=by omega
    unfold zd4
    rw [hd1,hb,zCt,e1,e2,List.drop_drop]
  · have e2:(i - i).toNat=0:=by omega
    unfold zd4
    rw [hd1,hb,zCf,e2,Nat.add_zero]
  have hfl:f <= s.b.length:=by omega
  have hgoal:∀ k:Int,(dg (s.b.drop f.toNat):Int)=k - f->(match zd4 (s.b.drop i.toNat) with
      | none=>-1
      | some n=>i + (n:Int))=bif zfs (decide (y1=45)) (s.b.drop f.toNat) then -1 else k:=by
    intro k hk
    rw [f3]
    cases zfs (decide (y1=45)) (s.b.drop f.toNat) with
    | true=>rfl
    | false =>
      show i + ((dg (s.b.drop f.toNat) + (f - i).toNat:Nat):Int)=k
      omega
  refine T.lp (ι:=Int × UInt64) (λq=>f <= q.1/\q.1 <= s.b.length/\(dg (s.b.drop f.toNat):Int)=q.1 - f + dg (s.b.drop q.1.toNat)/\(q.1 - f <= 19->q.2=ziW ((s.b.drop f.toNat).take (q.1.toNat - f.toNat)))) (λq=>(s.b.length - q.1).toNat)
    ⟨zIl _,hfl,by dsimp only;omega,λ_=>by rw [Nat.sub_self];rfl⟩ (by simp only;omega) λL q hq hL=>?_
  obtain ⟨k,v⟩:=q
  obtain ⟨hq1,hq2,hq3,hq4⟩:=hq
  simp only at hq1 hq2 hq3 hq4 ⊢
  refine T.jp (λb=>(b=true->k < s.b.length/\(dg (s.b.drop f.toNat):Int)=k + 1 - f + dg (s.b.drop (k + 1).toNat))/\(b=false->(dg (s.b.drop f.toNat):Int)=k - f)) (λJ h=>?_) λb hb=>?_
  · refine T.br (λh2=>?_) λh2=>h _ ⟨(λh=>by cases h),λ_=>?_⟩
    · have h2:=zOT h2
      have ek:(k + 1).toNat=k.toNat + 1:=by omega
      refine T.get (by omega) h2 λy hy=>T.eq (zfQ y) (h _ ?_)
      rw [zgH hy,zqr] at hq3
      rw [ek]
      refine ⟨λhd=>⟨h2,?_⟩,λhd=>?_⟩
      · rw [hd,zCt] at hq3;omega
      · rw [hd,zCf] at hq3;omega
    · have h2:=zOF h2
      rw [zDn (as:=s.b) (i:=k.toNat) (by omega)] at hq3
      simpa [dg] using hq3
  refine T.br (λh2=>?_) λh2=>?_
  · obtain ⟨hk,hd⟩:=hb.1 h2
    obtain ⟨y,hy⟩:∃ y,s.b[k.toNat]?=some y:=⟨_,List.getElem?_eq_getElem (by omega)⟩
    have hsn:=zuI (b:=s.b.drop f.toNat) (n:=k.toNat - f.toNat) (y:=y) (zxN (by rw [show f.toNat + (k.toNat - f.toNat)=k.toNat by omega,hy]))
    have hk1:(k + 1).toNat - f.toNat=k.toNat - f.toNat + 1:=by omega
    refine T.ck (by omega) (T.jp (λu=>k - f < 19->u=10 * v + (y - 48).toUInt64) (λJ h=>T.br (λ_=>?_) λh3=>h _ λh4=>by have:=zOF h3;omega) λu hu=>T.ck (by omega) (hL _ ?_ (by simp only;omega)))
    · exact T.get (by omega) hk λy' hy'=>h _ λ_=>by rw [hy] at hy';cases hy';rfl
    · refine ⟨by simp only;omega,by simp only;omega,hd,λh19=>?_⟩
      simp only at h19 ⊢
      rw [hk1,hsn,zla,hu (by omega),hq4 (by omega)]
  have hn:=hb.2 h2
  rw [hgoal k hn]
  refine T.ck (by omega) ?_
  have hdn:dg (s.b.drop f.toNat)=k.toNat - f.toNat:=by omega
  have hyf:1 <= k - f->∀ y,s.b[f.toNat]?=some y->hd (s.b.drop f.toNat)=y:=λ_ y hy=>by rw [zgH hy];rfl
  refine T.jp (λb=>b=(decide (dg (s.b.drop f.toNat) < 1) || decide (19 < dg (s.b.drop f.toNat)))) (λJ h=>T.br (λh3=>h _ ?_) λh3=>h _ ?_) λb1 hb1=>?_
  · have:=zOT h3;rw [zDT (by omega)];rfl
  · have:=zOF h3;rw [zDF (show ¬ dg (s.b.drop f.toNat) < 1 by omega),Bool.false_or,decide_eq_decide];omega
  refine T.jp (λb=>b=(b1 || (decide (1 < dg (s.b.drop f.toNat)) && decide (hd (s.b.drop f.toNat)=48)))) (λJ h=>T.br (λh3=>h _ (by rw [h3];rfl)) λh3=>?_) λb2 hb2=>?_
  · refine T.jp (λb=>b=(decide (1 < dg (s.b.drop f.toNat)) && decide (hd (s.b.drop f.toNat)=48))) (λJ3 h4=>T.br (λh5=>?_) λh5=>h4 _ ?_) λb hb=>h _ (by rw [h3,hb];rfl)
    · have h5:=zOT h5
      exact T.get (by omega) (by omega) λy hy=>h4 _ (by rw [zDT (show 1 < dg (s.b.drop f.toNat) by omega),hyf (by omega) y hy];rfl)
    · have h5:=zOF h5
      rw [zDF (show ¬ 1 < dg (s.b.drop f.toNat) by omega)];rfl
  refine T.jp (λb=>b=(b2 || (decide (y1=45) && decide (hd (s.b.drop f.toNat)=48)))) (λJ h=>T.br (λh3=>h _ (by rw [h3];rfl)) λh3=>?_) λb3 hb3=>?_
  · have hge:1 <= k - f:=by
      have e1:=(Bool.or_eq_false_iff.1 (hb2.symm.trans h3)).1
      have:=zOF (Bool.or_eq_false_iff.1 (hb1.symm.trans e1)).1
      omega
    refine T.jp (λb=>b=(decide (y1=45) && decide (hd (s.b.drop f.toNat)=48))) (λJ3 h4=>T.br (λh5=>?_) λh5=>h4 _ (by rw [h5];rfl)) λb hb=>h _ (by rw [h3,hb];rfl)
    exact T.get (by omega) (by omega) λy hy=>h4 _ (by rw [h5,hyf hge y hy];rfl)
  have hat:zgy s k=some (hd ((s.b.drop f.toNat).drop (dg (s.b.drop f.toNat)))):=by
    rw [znu s k (by omega),List.drop_drop,hdn]
    congr 3;omega
  refine T.jp (λb=>b=(b3 || zaF (hd ((s.b.drop f.toNat).drop (dg (s.b.drop f.toNat)))))) (λJ h=>T.br (λh3=>h _ (by rw [h3];rfl)) λh3=>T.eq hat (T.eq (zhM _) (h _ (by rw [h3];rfl)))) λb4 hb4=>?_
  have hv:b4=false->v=ziW ((s.b.drop f.toNat).take (dg (s.b.drop f.toNat))):=λh=>by
    have e3:=(Bool.or_eq_false_iff.1 (hb4.symm.trans h)).1
    have e2:=(Bool.or_eq_false_iff.1 (hb3.symm.trans e3)).1
    have e1:=(Bool.or_eq_false_iff.1 (hb2.symm.trans e2)).1
    have:=zOF (Bool.or_eq_false_iff.1 (hb1.symm.trans e1)).2
    rw [hdn];exact hq4 (by omega)
  refine T.jp (λb=>b=(b4 || decide (9223372036854775808 < ziW ((s.b.drop f.toNat).take (dg (s.b.drop f.toNat)))))) (λJ h=>T.br (λh3=>h _ (by rw [h3];rfl)) λh3=>h _ (by rw [h3,hv h3];rfl)) λb5 hb5=>?_
  refine T.jp (λb=>b=(b5 || (!decide (y1=45) && decide (ziW ((s.b.drop f.toNat).take (dg (s.b.drop f.toNat)))=9223372036854775808)))) (λJ h=>T.br (λh3=>h _ (by rw [h3];rfl)) λh3=>?_) λb6 hb6=>?_
  · have e4:=(Bool.or_eq_false_iff.1 (hb5.symm.trans h3)).1
    refine T.jp (λb=>b=(!decide (y1=45) && decide (ziW ((s.b.drop f.toNat).take (dg (s.b.drop f.toNat)))=9223372036854775808))) (λJ3 h4=>T.br (λh5=>h4 _ (by rw [h5,hv e4];rfl)) λh5=>h4 _ (by rw [h5];rfl)) λb hb=>h _ (by rw [h3,hb];rfl)
  have hall:b6=zfs (decide (y1=45)) (s.b.drop f.toNat):=by
    rw [hb6,hb5,hb4,hb3,hb2,hb1];rfl
  rw [<- hall]
  exact T.br (λh3=>T.some (by rw [h3];rfl)) λh3=>T.some (by rw [h3];rfl)

/-! ### Hexes -/
def zdW (c:UInt8):Bool:=zaq c || (decide (65 <= c) && decide (c <= 70))
def hx:List UInt8->Nat
 | []=>0
 | c :: r=>bif zdW c then hx r + 1 else 0
theorem zqf (c:UInt8) (r:List UInt8):hx (c :: r)=bif zdW c then hx r + 1 else 0:=rfl
theorem zzQ:∀ b:List UInt8,hx b <= b.length
 | []=>zNl _
 | c :: r=>by
  have:=zzQ r
  rw [zqf]
  cases zdW c <;> simp <;> omega
def zdS (r:List UInt8):Bool:=!decide (hx r % 2=0) || !decide (hd (r.drop (hx r))=39) || !decide (hd (r.drop (hx r + 1))=72)
theorem zrL {b:List UInt8} {n:Nat} (h:hd (b.drop n) ≠ 0):n < b.length:=by
 rcases Nat.lt_or_ge n b.length with h2 | h2
 ·exact h2
 ·rw [zDn h2] at h;exact absurd rfl h
theorem zAl (s:Str) (i:Int) (h0:0 <= i) (h1:i < s.b.length) (hl:s.b.length <= 1000000) :
    zke s i=some (bif zdS (s.b.drop (i.toNat + 1)) then (-1,⟨[]⟩) else (i + 1 + (hx (s.b.drop (i.toNat + 1)):Int) + 2,⟨(s.b.drop (i.toNat + 1)).take (hx (s.b.drop (i.toNat + 1)))⟩)):=by
  refine tx ?_
  unfold zke
  have e0:(i + 1).toNat=i.toNat + 1:=by omega
  refine T.ck (by omega) (T.lp (λ(k:Int)=>i + 1 <= k/\k <= (s.b.length:Int)/\(hx (s.b.drop (i.toNat + 1)):Int)=k - (i + 1) + hx (s.b.drop k.toNat)) (λ(k:Int)=>((s.b.length:Int) - k).toNat) ⟨zIl _,by omega,by rw [e0];omega⟩ (by omega) λL k ⟨k1,k2,k3⟩ hL=>?_)
  refine T.jp (λb=>(b=true->k < s.b.length/\(hx (s.b.drop (i.toNat + 1)):Int)=k + 1 - (i + 1) + hx (s.b.drop (k + 1).toNat))/\(b=false->(hx (s.b.drop (i.toNat + 1)):Int)=k - (i + 1))) (λJ h=>T.br (λh2=>?_) λh2=>h _ ⟨(λh=>by cases h),λ_=>?_⟩) λb hb=>?_
  · have h2:=zOT h2
    refine T.get (by omega) h2 λy hy=>T.eq (zfQ y) ?_
    have ek:(k + 1).toNat=k.toNat + 1:=by omega
    refine T.jp (λq=>q=zdW y) (λJ2 h3=>T.br (λh4=>h3 _ (by unfold zdW;rw [h4];rfl)) λh4=>T.get (by omega) h2 λy' hy'=>?_) λq hq=>h _ ?_
    · rw [hy] at hy';cases hy'
      refine T.jp (λq=>q=(decide (65 <= y) && decide (y <= 70))) (λJ4 h5=>T.br (λh6=>T.get (by omega) h2 λy' hy'=>h5 _ (by rw [hy] at hy';cases hy';rw [h6];rfl)) λh6=>h5 _ (by rw [h6];rfl)) λq hq=>h3 _ (by unfold zdW;rw [h4,hq];rfl)
    · subst hq
      rw [zgH hy,zqf] at k3
      rw [ek]
      refine ⟨λhd=>⟨h2,?_⟩,λhd=>?_⟩
      · rw [hd,zCt] at k3;omega
      · rw [hd,zCf] at k3;omega
  · have h2:=zOF h2
    rw [zDn (as:=s.b) (i:=k.toNat) (by omega)] at k3
    simpa [hx] using k3
  refine T.br (λh2=>T.ck (by have:=hb.1 h2;omega) (hL _ ⟨by have:=hb.1 h2;omega,by have:=hb.1 h2;omega,(hb.1 h2).2⟩ (by have:=hb.1 h2;omega))) λh2=>?_
  have hn:=hb.2 h2
  have hdk:(s.b.drop (i.toNat + 1)).drop (hx (s.b.drop (i.toNat + 1)))=s.b.drop k.toNat:=by rw [List.drop_drop];congr 1;omega
  have hdk1:(s.b.drop (i.toNat + 1)).drop (hx (s.b.drop (i.toNat + 1)) + 1)=s.b.drop (k + 1).toNat:=by rw [List.drop_drop];congr 1;omega
  refine T.ck (by omega) (T.asr rfl ?_)
  have hmod:decide ((k - (i + 1)).tmod 2=0)=decide (hx (s.b.drop (i.toNat + 1)) % 2=0):=by
    rw [decide_eq_decide,Int.tmod_eq_emod_of_nonneg (by omega)]
    omega
  refine T.jp (λb=>b=(!decide (hx (s.b.drop (i.toNat + 1)) % 2=0) || !decide (hd (s.b.drop k.toNat)=39))) (λJ h=>T.br (λh3=>h _ (by rw [<- hmod,h3];rfl)) λh3=>T.eq (znu s k (by omega)) (h _ (by rw [<- hmod,h3];rfl))) λb1 hb1=>?_
  refine T.jp (λb=>b=zdS (s.b.drop (i.toNat + 1))) (λJ h=>T.br (λh3=>h _ ?_) λh3=>T.ck (by omega) (T.eq (znu s (k + 1) (by omega)) (h _ ?_))) λb2 hb2=>?_
  · unfold zdS;rw [hdk,<- hb1,h3];rfl
  · unfold zdS;rw [hdk,hdk1,<- hb1,h3];rfl
  rw [<- hb2]
  refine T.br (λh3=>T.some (by rw [h3];rfl)) λh3=>?_
  have hlt:k + 1 < s.b.length:=by
    rw [h3] at hb2
    unfold zdS at hb2
    have:=(Bool.or_eq_false_iff.1 hb2.symm).2
    have h72:hd (s.b.drop (k + 1).toNat)=72:=by rw [hdk1] at this;simpa using this
    have:=zrL (b:=s.b) (n:=(k + 1).toNat) (by rw [h72];decide)
    omega
  refine T.ck (by omega) (T.asd (by omega) (T.some ?_))
  rw [h3,zCf,seg,e0]
  have e5:k.toNat - (i.toNat + 1)=hx (s.b.drop (i.toNat + 1)):=by omega
  rw [e5,hn]
  have e6:i + 1 + (k - (i + 1)) + 2=k + 2:=by omega
  rw [e6]

/-! ### Strings -/
def qd:Bool->List UInt8->List UInt8->Option (List UInt8 × List UInt8)
 | _,[],_=>none
 | true,_ :: r,acc=>qd false r (acc ++ [34])
 | false,c :: r,acc=>bif decide (c=34) then bif decide (hd r=34) then qd true r acc else bif Lib.validD acc then some (acc,r) else none else qd false r (acc ++ [c])
theorem zuZ (s:Str) (i:Int) (h0:0 <= i) (h1:i < s.b.length) (hl:s.b.length <= 1000000) :
    zf7 s i=some (match qd false (s.b.drop (i.toNat + 1)) [] with
      | none=>(-1,⟨[]⟩)
      | some (t,r)=>((s.b.length:Int) - (r.length:Int),⟨t⟩)):=by
  refine tx ?_
  unfold zf7
  have e0:(i + 1).toNat=i.toNat + 1:=by omega
  refine T.ck (by omega) (T.lp (ι:=Int × Str) (λq=>i + 1 <= q.1/\q.1 <= s.b.length + 1/\(q.2.b.length:Int) < q.1/\qd false (s.b.drop (i.toNat + 1)) []=qd false (s.b.drop q.1.toNat) q.2.b) (λq=>(s.b.length + 1 - q.1).toNat) ⟨zIl _,by dsimp only;omega,by dsimp only;simp only [zLn];omega,by dsimp only;rw [e0]⟩ (by dsimp only;omega) λL q hq hL=>?_)
  obtain ⟨k,o⟩:=q
  obtain ⟨hq1,hq2,hq3,hq4⟩:=hq
  simp only at hq1 hq2 hq3 hq4 ⊢
  rw [hq4] at hL ⊢
  refine T.br (λh2=>?_) λh2=>T.some ?_
  rotate_left
  · have h2:=zOF h2
    rw [zDn (by omega)];simp only [qd]
  have h2:=zOT h2
  have ek:(k + 1).toNat=k.toNat + 1:=by omega
  refine T.jp (λ(q:Int × Str)=>k <= q.1/\q.1 < (s.b.length:Int)/\(q.2.b.length:Int) < q.1 + 1/\qd false (s.b.drop k.toNat) o.b=qd false (s.b.drop (q.1 + 1).toNat) q.2.b) (λJ h=>?_) λq hq=>?_
  · refine T.get (by omega) h2 λy hy=>T.br (λh3=>?_) λh3=>?_
    · have h34:decide (y=34)=false:=by simpa using h3
      have ey:(s.b.take (k + 1).toNat).drop k.toNat=[y]:=by
        rw [seg,ek,zgH hy,show k.toNat + 1 - k.toNat=1 by omega];rfl
      refine T.ck (by omega) (T.asd (by omega) (T.abl ?_ (h _ ⟨zIl _,h2,?_,?_⟩)))
      · simp only [zLd,zLt];omega
      · simp only [zLa,zLd,zLt];omega
      · dsimp only
        rw [ey,ek]
        conv=>lhs;rw [zgH hy]
        simp only [qd,h34,zCf]
    · have h34:decide (y=34)=true:=by simpa using h3
      refine T.ck (by omega) (T.eq (znu s (k + 1) (by omega)) (T.br (λh4=>?_) λh4=>?_))
      · have hn:decide (hd (s.b.drop (k.toNat + 1))=34)=false:=by rw [ek] at h4;simpa using h4
        refine T.eq rfl (T.br (λh5=>T.some ?_) λh5=>T.ck (by omega) (T.some ?_))
        · have h5:Lib.validD o.b=false:=by simpa using h5
          conv=>rhs;rw [zgH hy]
          simp only [qd,h34,zCt,hn,zCf,h5]
        · have h5:Lib.validD o.b=true:=by simpa using h5
          conv=>rhs;rw [zgH hy]
          simp only [qd,h34,zCt,hn,zCf,h5,zLd]
          congr 1;omega
      · have hn:hd (s.b.drop (k.toNat + 1))=34:=by rw [ek] at h4;simpa using h4
        have hlt:=zrL (b:=s.b) (n:=k.toNat + 1) (by rw [hn];decide)
        obtain ⟨c,ec⟩:=ziG hlt
        refine T.abl ?_ (T.ck (by omega) (h _ ⟨by dsimp only;omega,by dsimp only;omega,?_,?_⟩))
        · simp only [zLc,zLn];omega
        · simp only [zLa,zLc,zLn];omega
        · dsimp only
          rw [show (k + 1 + 1).toNat=k.toNat + 1 + 1 by omega]
          conv=>lhs;rw [zgH hy]
          simp only [qd,h34,zCt,zDT hn]
          rw [ec];simp only [qd]
  · exact T.ck (by omega) (hL _ ⟨by dsimp only;omega,by dsimp only;omega,hq.2.2.1,hq.2.2.2⟩ (by dsimp only;omega))
/-! ### Signs -/
def ze4:List UInt8->List UInt8->Bool
 | [],_=>true
 | _ :: _,[]=>false
 | p :: ps,c :: r=>bif decide (p=c) then ze4 ps r else false
def sgF:List (List UInt8)->List UInt8->Nat
 | [],_=>0
 | p :: ps,b=>bif ze4 p b then p.length else sgF ps b
def sgs:List (List UInt8):=[[58,58,61],[46,46,46],[46,46],[91,91],[93,93],[123],[125],[91],[93],[40],[41],[44],[58]]
def sg (b:List UInt8):Nat:=sgF sgs b
theorem zg4:∀ (p b:List UInt8),ze4 p b=true ↔ p.length <= b.length/\b.take p.length=p
 | [],b=>by simp [ze4]
 | _ :: _,[]=>by simp [ze4]
 | p :: ps,c :: r=>by
  have ih:=zg4 ps r
  unfold ze4
  by_cases h:p=c
  ·subst h;simp [ih]
  ·simp only [zDF h,zCf,zLc,List.take_succ_cons,List.cons.injEq]
   exact ⟨(λh=>by cases h),λh2=>absurd h2.2.1.symm h⟩
theorem zuc {k:Nat} {y:Str} (h:([(Str.mk [58,58,61]),(Str.mk [46,46,46]),(Str.mk [46,46]),(Str.mk [91,91]),(Str.mk [93,93]),(Str.mk [123]),(Str.mk [125]),(Str.mk [91]),(Str.mk [93]),(Str.mk [40]),(Str.mk [41]),(Str.mk [44]),(Str.mk [58])]:List Str)[k]?=some y):sgs.drop k=y.b :: sgs.drop (k + 1):=by
 have e:([(Str.mk [58,58,61]),(Str.mk [46,46,46]),(Str.mk [46,46]),(Str.mk [91,91]),(Str.mk [93,93]),(Str.mk [123]),(Str.mk [125]),(Str.mk [91]),(Str.mk [93]),(Str.mk [40]),(Str.mk [41]),(Str.mk [44]),(Str.mk [58])]:List Str)=sgs.map Str.mk:=rfl
 rw [e,List.getElem?_map] at h
 obtain ⟨z,h1,h2⟩:=Option.map_eq_some_iff.1 h
 subst h2
 obtain ⟨h3,h4⟩:=List.getElem?_eq_some_iff.1 h1
 rw [List.drop_eq_getElem_cons h3,h4]
theorem zzh (s:Str) (i:Int) (h0:0 <= i) (h1:i < s.b.length) (hl:s.b.length <= 1000000):ziu s i=some ((sg (s.b.drop i.toNat):Nat):Int):=by
 refine tx ?_
 unfold ziu
 refine T.asd (by omega) (T.lp (λ(k:Int)=>0 <= k/\k <= 13/\sgF (sgs.drop k.toNat) (s.b.drop i.toNat)=sg (s.b.drop i.toNat)) (λ(k:Int)=>(13 - k).toNat) ⟨zIl _,by omega,rfl⟩ (by omega) λL k ⟨k1,k2,k3⟩ hL=>?_)
 have er:(s.b.take ((s.b.length:Int)).toNat).drop i.toNat=s.b.drop i.toNat:=by rw [zTl (by omega)]
 refine T.br (λh2=>?_) λh2=>T.some ?_
 rotate_left
 ·have h2:¬ k < 13:=zOF h2
  have:k=13:=by omega
  subst this
  rw [<- k3];rfl
 have h2:=zOT h2
 refine T.get k1 h2 λy hy=>?_
 have hs:=zuc hy
 rw [hs] at k3
 unfold sgF at k3
 rw [er]
 refine T.jp (λb=>b=ze4 y.b (s.b.drop i.toNat)) (λJ h=>T.br (λh3=>?_) λh3=>h _ ?_) λb hb=>?_
 ·have h3:=zOT h3
  refine T.asd ⟨zIl _,by omega,h3⟩ (T.get k1 h2 λy2 hy2=>h _ ?_)
  rw [hy] at hy2;cases hy2
  have h4:y.b.length <= (s.b.drop i.toNat).length:=by simp only [zLd] at h3 ⊢;omega
  rw [Bool.eq_iff_iff,decide_eq_true_eq,zg4]
  constructor
  ·intro h5
   refine ⟨h4,?_⟩
   have:=congrArg Str.b h5
   simpa using this
  ·intro h5
   obtain ⟨yb⟩:=y
   simp only [Str.mk.injEq]
   simpa using h5.2
 ·have h3:=zOF h3
  symm
  rw [Bool.eq_false_iff]
  intro h5
  have:=(zg4 _ _).1 h5
  simp only [zLd] at h3 this
  omega
 ·rw [hb]
  refine T.br (λh3=>T.some ?_) λh3=>T.ck (by have h2:k < 13:=h2;omega) (hL _ ⟨by omega,by have h2:k < 13:=h2;omega,?_⟩ (by have h2:k < 13:=h2;omega))
  ·rw [h3,zCt] at k3;rw [<- k3]
  ·rw [h3,zCf] at k3
   have e:(k + 1).toNat=k.toNat + 1:=by omega
   rw [e,k3]

/-! ### Words -/
def zqv:List Str:=[(Str.mk [68,69,70,73,78,73,84,73,79,78,83]),(Str.mk [69,88,80,76,73,67,73,84]),(Str.mk [73,77,80,76,73,67,73,84]),(Str.mk [65,85,84,79,77,65,84,73,67]),(Str.mk [84,65,71,83]),(Str.mk [66,69,71,73,78]),(Str.mk [69,78,68]),(Str.mk [66,79,79,76,69,65,78]),(Str.mk [73,78,84,69,71,69,82]),(Str.mk [69,78,85,77,69,82,65,84,69,68]),(Str.mk [78,85,76,76]),(Str.mk [79,67,84,69,84]),(Str.mk [83,84,82,73,78,71]),(Str.mk [85,84,70,56,83,116,114,105,110,103]),(Str.mk [83,69,81,85,69,78,67,69]),(Str.mk [83,69,84]),(Str.mk [67,72,79,73,67,69]),(Str.mk [79,70]),(Str.mk [79,80,84,73,79,78,65,76]),(Str.mk [68,69,70,65,85,76,84]),(Str.mk [83,73,90,69]),(Str.mk [77,73,78]),(Str.mk [77,65,88]),(Str.mk [84,82,85,69]),(Str.mk [70,65,76,83,69])]
def zlD:List UInt8->List UInt8->Bool
 | [],[]=>true
 | a :: r,b :: t=>bif decide (a=b) then zlD r t else false
 | _,_=>false
theorem zk9:∀ a b:List UInt8,zlD a b=true ↔ a=b
 | [],[]=>by simp [zlD]
 | [],_ :: _=>by simp [zlD]
 | _ :: _,[]=>by simp [zlD]
 | a :: r,b :: t=>by
  have ih:=zk9 r t
  unfold zlD
  by_cases h:a=b
  ·subst h;simp [ih]
  ·simp [h]
def ziZ (t:List UInt8):Bool:=zqv.any λw=>zlD w.b t
theorem zze (s:Str):zia s=some (ziZ s.b):=by
 refine tx ?_
 unfold zia
 refine T.eq (y:=zqv) rfl (T.cal (zi2 zqv s (by decide)) λy _ hy=>T.some ?_)
 rw [hy,Bool.eq_iff_iff,decide_eq_true_eq]
 unfold ziZ
 rw [List.any_eq_true]
 constructor
 ·intro h;exact ⟨s,h,(zk9 _ _).2 rfl⟩
 ·rintro ⟨w,h1,h2⟩
  have:=(zk9 _ _).1 h2
  obtain ⟨wb⟩:=w;obtain ⟨sb⟩:=s
  simp only at this;subst this;exact h1

/-! ### One sign, all signs -/
/-- The kind and the text of what comes first, and what is left behind it. -/
def zfO (b:List UInt8):Option (Int × List UInt8 × List UInt8) :=
 let c:=hd b
 bif zaF c then bif zgK b then none else some (bif ziZ (b.take (nm b)) then 5 else bif decide (c <= 90) then 1 else 2,b.take (nm b),b.drop (nm b))
 else bif zaq c || (decide (c=45) && zaq (hd (b.drop 1))) then match zd4 b with
  | none=>none
  | some n=>some (3,b.take n,b.drop n)
 else bif decide (c=39) then bif zdS (b.drop 1) then none else some (4,(b.drop 1).take (hx (b.drop 1)),(b.drop 1).drop (hx (b.drop 1) + 2))
 else bif decide (c=34) then match qd false (b.drop 1) [] with
  | none=>none
  | some (t,r)=>some (7,t,r)
 else bif decide (0 < sg b) then some (6,b.take (sg b),b.drop (sg b)) else none
theorem zq0:∀ (b:List UInt8) (f:Bool) (acc t r:List UInt8),qd f b acc=some (t,r)->r.length < b.length
 | [],f,acc,t,r,h=>by cases f <;> simp [qd] at h
 | c :: b,true,acc,t,r,h=>by
  simp only [qd] at h
  have:=zq0 b _ _ _ _ h
  simp;omega
 | c :: b,false,acc,t,r,h=>by
  simp only [qd] at h
  by_cases h1:c=34
  ·simp only [zDT h1,zCt] at h
   by_cases h2:hd b=34
   ·simp only [zDT h2,zCt] at h
    have:=zq0 b _ _ _ _ h
    simp;omega
   ·simp only [zDF h2,zCf] at h
    cases hv:Lib.validD acc with
    | true=>rw [hv] at h;simp at h;rw [<- h.2];simp
    | false=>rw [hv] at h;cases h
  ·simp only [zDF h1,zCf] at h
   have:=zq0 b _ _ _ _ h
   simp;omega
theorem zm5 {b:List UInt8} {n:Nat} (h:zd4 b=some n):0 < n/\n <= b.length:=by
 unfold zd4 at h
 by_cases h1:hd b=45
 ·simp only [zDT h1,zCt] at h
  cases hb:zfs true (b.drop 1) with
  | true=>rw [hb] at h;cases h
  | false =>
   rw [hb] at h;simp only [zCf,Option.some.injEq] at h
   have:=zt1 (b.drop 1)
   rw [zLd] at this
   have:b ≠ []:=λe=>by rw [e] at h1;cases h1
   have:=List.length_pos_iff.2 this
   omega
 ·simp only [zDF h1,zCf] at h
  cases hb:zfs false b with
  | true=>rw [hb] at h;cases h
  | false =>
   rw [hb] at h;simp at h
   have:=zt1 b
   have:decide (dg b < 1)=false:=by
    unfold zfs at hb
    simp only [Bool.or_eq_false_iff] at hb
    exact hb.1.1.1.1.1.1
   have:=zOF this
   omega
theorem zxj {b:List UInt8} (h:zaF (hd b)=true):0 < nm b:=by
 cases b with
 | nil=>simp [hd,zaF] at h
 | cons c r =>
  rw [zny]
  simp only [hd] at h
  unfold zcn
  rw [h];simp
theorem zum:∀ (l:List (List UInt8)) (b:List UInt8),sgF l b <= b.length
 | [],b=>zNz _
 | p :: ps,b=>by
  unfold sgF
  cases h:ze4 p b with
  | true=>exact ((zg4 _ _).1 h).1
  | false=>exact zum ps b
theorem zkU {b t r:List UInt8} {k:Int} (h:zfO b=some (k,t,r)):r.length < b.length:=by
 unfold zfO at h
 simp only at h
 cases h1:zaF (hd b) with
 | true =>
  rw [h1,zCt] at h
  cases h2:zgK b with
  | true=>rw [h2] at h;cases h
  | false =>
   rw [h2] at h
   simp only [zCf,Option.some.injEq,Prod.mk.injEq] at h
   rw [<- h.2.2,zLd]
   have:=zxj h1
   have:=zpF b
   omega
 | false =>
  rw [h1,zCf] at h
  cases h2:zaq (hd b) || (decide (hd b=45) && zaq (hd (b.drop 1))) with
  | true =>
   rw [h2,zCt] at h
   cases h3:zd4 b with
   | none=>rw [h3] at h;cases h
   | some n =>
    rw [h3] at h
    simp only [Option.some.injEq,Prod.mk.injEq] at h
    have:=zm5 h3
    rw [<- h.2.2,zLd];omega
  | false =>
   rw [h2,zCf] at h
   by_cases h3:hd b=39
   ·rw [zDT h3,zCt] at h
    cases h4:zdS (b.drop 1) with
    | true=>rw [h4] at h;cases h
    | false =>
     rw [h4] at h
     simp only [zCf,Option.some.injEq,Prod.mk.injEq] at h
     have:b ≠ []:=λe=>by rw [e] at h3;cases h3
     have:=List.length_pos_iff.2 this
     rw [<- h.2.2,zLd,zLd];omega
   ·rw [zDF h3,zCf] at h
    by_cases h4:hd b=34
    ·rw [zDT h4,zCt] at h
     cases h5:qd false (b.drop 1) [] with
     | none=>rw [h5] at h;cases h
     | some q =>
      rw [h5] at h
      obtain ⟨t',r'⟩:=q
      simp only [Option.some.injEq,Prod.mk.injEq] at h
      have:=zq0 _ _ _ _ _ h5
      rw [zLd] at this
      rw [<- h.2.2];omega
    ·rw [zDF h4,zCf] at h
     by_cases h5:0 < sg b
     ·rw [zDT h5,zCt] at h
      simp only [Option.some.injEq,Prod.mk.injEq] at h
      have:=zum sgs b
      have e:sgF sgs b=sg b:=rfl
      rw [<- h.2.2,zLd];omega
     ·rw [zDF h5] at h;cases h
theorem zAT (s:Str) (i:Int) (h0:0 <= i) (h1:i < s.b.length) (hl:s.b.length <= 1000000) :
    T (λ(q:zU × Int)=>match zfO (s.b.drop i.toNat) with
      | none=>q.2 < 0
      | some (k,t,r)=>q=(⟨k,⟨t⟩,i⟩,(s.b.length:Int) - (r.length:Int))) (zjS s i):=by
  unfold zjS
  refine T.get h0 h1 λy hy=>?_
  have ed:=zgH hy
  have hy0:hd (s.b.drop i.toNat)=y:=by rw [ed];rfl
  have ed1:(s.b.drop i.toNat).drop 1=s.b.drop (i.toNat + 1):=by rw [List.drop_drop]
  have elen:(s.b.drop i.toNat).length=s.b.length - i.toNat:=zLd
  have etake:∀ (n:Nat),(s.b.take (i + (n:Int)).toNat).drop i.toNat=(s.b.drop i.toNat).take n:=λn=>by
    rw [seg];congr 1;omega
  have erest:∀ (n:Nat),n <= (s.b.drop i.toNat).length->i + (n:Int)=(s.b.length:Int) - (((s.b.drop i.toNat).drop n).length:Int):=λn hn=>by
    rw [zLd,elen];rw [elen] at hn;omega
  refine T.jp (ι:=Int × zU) (λ(q:Int × zU)=>match zfO (s.b.drop i.toNat) with
      | none=>q.1 < 0
      | some (k,t,r)=>(q.2,q.1)=(⟨k,⟨t⟩,i⟩,(s.b.length:Int) - (r.length:Int))) (λJ h=>?_) λq hq=>T.some hq
  unfold zfO at h ⊢
  simp only [hy0] at h ⊢
  refine T.eq (zhM y) (T.br (λhle=>?_) λhle=>T.eq (zfQ y) ?_)
  · rw [hle,zCt] at h ⊢
    have hcl:zaF (hd (s.b.drop i.toNat))=true:=by rw [hy0];exact hle
    refine T.eq (zyP s i h0 h1 hl hcl) ?_
    cases hb:zgK (s.b.drop i.toNat) with
    | true =>
      rw [hb,zCt] at h
      simp only [zCt] at h ⊢
      exact T.br (λ_=>T.some (by dsimp only;omega)) λhn=>by have:=zOF hn;omega
    | false =>
      rw [hb,zCf] at h
      simp only [zCf] at h ⊢
      have hnl:=zpF (s.b.drop i.toNat)
      rw [elen] at hnl
      refine T.br (λhn=>by have:=zOT hn;omega) λ_=>T.asd (by omega) ?_
      rw [etake]
      refine T.jp (ι:=zU) (λt=>t=⟨bif decide (y <= 90) then 1 else 2,⟨(s.b.drop i.toNat).take (nm (s.b.drop i.toNat))⟩,i⟩) (λJ2 h2=>T.br (λh3=>h2 _ (by rw [h3];rfl)) λh3=>h2 _ (by rw [h3];rfl)) λt ht=>?_
      subst ht
      refine T.eq (zze _) (T.br (λh3=>h _ ?_) λh3=>h _ ?_)
      · dsimp only at h3 ⊢;rw [h3,<- erest _ (zpF _)];rfl
      · dsimp only at h3 ⊢;rw [h3,<- erest _ (zpF _)];rfl
  · rw [hle, zCf] at h ⊢
    refine T.jp (λb=>b=(zaq y || (decide (y=45) && zaq (hd ((s.b.drop i.toNat).drop 1))))) (λJ2 h2=>T.br (λh3=>h2 _ (by rw [h3];rfl)) λh3=>?_) λb hb=>?_
    · refine T.jp (λb=>b=(decide (y=45) && zaq (hd ((s.b.drop i.toNat).drop 1)))) (λJ3 h4=>T.br (λh5=>T.ck (by omega) (T.eq (znu s (i + 1) (by omega)) (T.eq (zfQ _) (h4 _ ?_)))) λh5=>h4 _ (by rw [h5];rfl)) λb hb=>h2 _ (by rw [h3,hb];rfl)
      rw [h5,ed1,show (i + 1).toNat=i.toNat + 1 by omega];rfl
    rw [<- hb] at h ⊢
    refine T.br (λh3=>T.eq (zvJ s i h0 h1 hl) ?_) λh3=>?_
    · rw [h3,zCt] at h ⊢
      cases hn:zd4 (s.b.drop i.toNat) with
      | none =>
        simp only [hn] at h ⊢
        exact T.br (λ_=>T.some (by dsimp only;omega)) λhn=>by have:=zOF hn;omega
      | some n =>
        simp only [hn] at h ⊢
        have hbd:=zm5 hn
        have hbd2:=hbd.2
        rw [elen] at hbd2
        refine T.br (λhn=>by have:=zOT hn;omega) λ_=>T.asd (by omega) (h _ ?_)
        rw [etake,<- erest n hbd.2]
    · rw [h3,zCf] at h ⊢
      refine T.br (λh4=>T.eq (zAl s i h0 h1 hl) (h _ ?_)) λh4=>?_
      · rw [h4,zCt,ed1]
        cases hb:zdS (s.b.drop (i.toNat + 1)) with
        | true=>simp only [zCt];omega
        | false =>
          simp only [zCf]
          have h5:hx (s.b.drop (i.toNat + 1)) + 1 < (s.b.drop (i.toNat + 1)).length:=by
            unfold zdS at hb
            have:=(Bool.or_eq_false_iff.1 hb).2
            have h72:hd ((s.b.drop (i.toNat + 1)).drop (hx (s.b.drop (i.toNat + 1)) + 1))=72:=by simpa using this
            exact zrL (by rw [h72];decide)
          rw [zLd] at h5
          rw [zLd,zLd]
          have e:i + 1 + (hx (s.b.drop (i.toNat + 1)):Int) + 2=(s.b.length:Int) - ((s.b.length - (i.toNat + 1) - (hx (s.b.drop (i.toNat + 1)) + 2):Nat):Int):=by omega
          rw [e]
      · rw [h4,zCf] at h ⊢
        refine T.br (λh5=>T.eq (zuZ s i h0 h1 hl) (h _ ?_)) λh5=>?_
        · rw [h5,zCt,ed1]
          cases hq:qd false (s.b.drop (i.toNat + 1)) [] with
          | none=>simp only;omega
          | some q=>rfl
        · rw [h5,zCf] at h ⊢
          refine T.eq (zzh s i h0 h1 hl) (T.br (λh6=>?_) λh6=>h _ ?_)
          · have h6:=zOT h6
            have hsl:=zum sgs (s.b.drop i.toNat)
            have esg:sgF sgs (s.b.drop i.toNat)=sg (s.b.drop i.toNat):=rfl
            have hpos:0 < sg (s.b.drop i.toNat):=by omega
            have hsl2:=hsl
            rw [elen] at hsl2
            refine T.ck (by omega) (T.asd (by omega) (T.ck (by omega) (h _ ?_)))
            rw [zDT hpos,zCt]
            dsimp only
            rw [etake,<- erest (sg (s.b.drop i.toNat)) hsl]
          · have h6:=zOF h6
            rw [zDF (show ¬ 0 < sg (s.b.drop i.toNat) by omega)]
            simp only [zCf];omega

def ziH (n:Nat):Nat->List UInt8->List zU->List zU × Int × Int
 | 0,_,_=>([],0,0)
 | f + 1,b,acc=>match wh .out b with
  | []=>(acc ++ [⟨0,⟨[]⟩,(n:Int)⟩],0,0)
  | c :: r=>match zfO (c :: r) with
   | none=>([],(n:Int) - ((c :: r).length:Int),6)
   | some (k,t,r')=>ziH n f r' (acc ++ [⟨k,⟨t⟩,(n:Int) - ((c :: r).length:Int)⟩])
theorem zf5 (n f:Nat) (b:List UInt8) (acc:List zU):ziH n (f + 1) b acc=match wh .out b with
    | []=>(acc ++ [⟨0,⟨[]⟩,(n:Int)⟩],0,0)
    | c :: r=>match zfO (c :: r) with
      | none=>([],(n:Int) - ((c :: r).length:Int),6)
      | some (k,t,r')=>ziH n f r' (acc ++ [⟨k,⟨t⟩,(n:Int) - ((c :: r).length:Int)⟩]):=rfl
def toks (b:List UInt8):List zU × Int × Int:=bif decide (8000 < b.length) then ([],0,5) else ziH b.length (b.length + 1) b []
theorem zfi:∀ (b:List UInt8) (st:Wst),(wh st b).length <= b.length
 | [],st=>by cases st <;> simp [wh]
 | c :: r,.out=>by
  have h1:=zfi r .out
  have h2:=zfi r .start
  simp only [wh]
  cases zm3 c <;> simp only [zCt,zCf]
  ·cases decide (c=45) && decide (hd r=45) <;> simp only [zCt,zCf,zLc] <;> omega
  ·simp only [zLc];omega
 | c :: r,.start=>by have:=zfi r .ins;simp only [wh,zLc];omega
 | c :: r,.ins=>by
  have h1:=zfi r .out
  have h2:=zfi r .fin
  have h3:=zfi r .ins
  simp only [wh,zLc]
  cases decide (c=10) <;> simp only [zCt,zCf]
  ·cases decide (c=45) && decide (hd r=45) <;> simp only [zCt,zCf] <;> omega
  ·omega
 | c :: r,.fin=>by have:=zfi r .out;simp only [wh,zLc];omega
theorem ziY:∀ (b:List UInt8) (st:Wst),∃ n,wh st b=b.drop n
 | [],st=>⟨0,by cases st <;> simp [wh]⟩
 | c :: r,.out=>by
  obtain ⟨n1,h1⟩:=ziY r .out
  obtain ⟨n2,h2⟩:=ziY r .start
  simp only [wh]
  cases zm3 c <;> simp only [zCt,zCf]
  ·cases decide (c=45) && decide (hd r=45) <;> simp only [zCt,zCf]
   ·exact ⟨0,rfl⟩
   ·exact ⟨n2 + 1,h2⟩
  ·exact ⟨n1 + 1,h1⟩
 | c :: r,.start=>by obtain ⟨n,h⟩:=ziY r .ins;exact ⟨n + 1,h⟩
 | c :: r,.ins=>by
  obtain ⟨n1,h1⟩:=ziY r .out
  obtain ⟨n2,h2⟩:=ziY r .fin
  obtain ⟨n3,h3⟩:=ziY r .ins
  simp only [wh]
  cases decide (c=10) <;> simp only [zCt,zCf]
  ·cases decide (c=45) && decide (hd r=45) <;> simp only [zCt,zCf]
   ·exact ⟨n3 + 1,h3⟩
   ·exact ⟨n2 + 1,h2⟩
  ·exact ⟨n1 + 1,h1⟩
 | c :: r,.fin=>by obtain ⟨n,h⟩:=ziY r .out;exact ⟨n + 1,h⟩
theorem zqp:∀ (b:List UInt8) (f:Bool) (acc t r:List UInt8),qd f b acc=some (t,r)->∃ n,r=b.drop n
 | [],f,acc,t,r,h=>by cases f <;> simp [qd] at h
 | c :: b,true,acc,t,r,h=>by
  simp only [qd] at h
  obtain ⟨n,e⟩:=zqp b _ _ _ _ h
  exact ⟨n + 1,e⟩
 | c :: b,false,acc,t,r,h=>by
  simp only [qd] at h
  by_cases h1:c=34
  ·simp only [zDT h1,zCt] at h
   by_cases h2:hd b=34
   ·simp only [zDT h2,zCt] at h
    obtain ⟨n,e⟩:=zqp b _ _ _ _ h
    exact ⟨n + 1,e⟩
   ·simp only [zDF h2,zCf] at h
    cases hv:Lib.validD acc with
    | true=>rw [hv] at h;simp at h;exact ⟨1,h.2.symm⟩
    | false=>rw [hv] at h;cases h
  ·simp only [zDF h1,zCf] at h
   obtain ⟨n,e⟩:=zqp b _ _ _ _ h
   exact ⟨n + 1,e⟩
theorem zro {b t r:List UInt8} {k:Int} (h:zfO b=some (k,t,r)):∃ n,r=b.drop n:=by
 unfold zfO at h
 simp only at h
 cases h1:zaF (hd b) with
 | true =>
  rw [h1,zCt] at h
  cases h2:zgK b with
  | true=>rw [h2] at h;cases h
  | false =>
   rw [h2] at h
   simp only [zCf,Option.some.injEq,Prod.mk.injEq] at h
   exact ⟨_,h.2.2.symm⟩
 | false =>
  rw [h1,zCf] at h
  cases h2:zaq (hd b) || (decide (hd b=45) && zaq (hd (b.drop 1))) with
  | true =>
   rw [h2,zCt] at h
   cases h3:zd4 b with
   | none=>rw [h3] at h;cases h
   | some n =>
    rw [h3] at h
    simp only [Option.some.injEq,Prod.mk.injEq] at h
    exact ⟨_,h.2.2.symm⟩
  | false =>
   rw [h2,zCf] at h
   by_cases h3:hd b=39
   ·rw [zDT h3,zCt] at h
    cases h4:zdS (b.drop 1) with
    | true=>rw [h4] at h;cases h
    | false =>
     rw [h4] at h
     simp only [zCf,Option.some.injEq,Prod.mk.injEq,List.drop_drop] at h
     exact ⟨_,h.2.2.symm⟩
   ·rw [zDF h3,zCf] at h
    by_cases h4:hd b=34
    ·rw [zDT h4,zCt] at h
     cases h5:qd false (b.drop 1) [] with
     | none=>rw [h5] at h;cases h
     | some q =>
      rw [h5] at h
      obtain ⟨t',r'⟩:=q
      simp only [Option.some.injEq,Prod.mk.injEq] at h
      obtain ⟨n,e⟩:=zqp _ _ _ _ _ h5
      rw [List.drop_drop] at e
      exact ⟨_,h.2.2.symm.trans e⟩
    ·rw [zDF h4,zCf] at h
     by_cases h5:0 < sg b
     ·rw [zDT h5,zCt] at h
      simp only [Option.some.injEq,Prod.mk.injEq] at h
      exact ⟨_,h.2.2.symm⟩
     ·rw [zDF h5] at h;cases h
theorem zkP {b r:List UInt8} {n:Nat} (h:r=b.drop n):b.drop (b.length - r.length)=r:=by
 subst h
 rw [zLd]
 rcases Nat.lt_or_ge b.length n with h2 | h2
 ·rw [zDn (show b.length <= n by omega),zDn (by omega)]
 ·congr 1;omega

theorem zpA (s:Str):zfp s=some (toks s.b):=by
 refine tx ?_
 unfold zfp toks
 refine T.br (λh=>T.some ?_) λh=>?_
 ·have h:=zOT h
  rw [zDT (show 8000 < s.b.length by omega)];rfl
 have hl:=zOF h
 rw [zDF (show ¬ 8000 < s.b.length by omega),zCf]
 refine T.lp (ι:=List zU × Int) (λ(q:List zU × Int)=>0 <= q.2/\q.2 <= (s.b.length:Int)/\(q.1.length:Int) <= q.2/\∃ f,(s.b.drop q.2.toNat).length < f/\ziH s.b.length (s.b.length + 1) s.b []=ziH s.b.length f (s.b.drop q.2.toNat) q.1) (λ(q:List zU × Int)=>((s.b.length:Int) - q.2).toNat) ⟨zIl _,by dsimp only;omega,by simp,s.b.length + 1,by simp,rfl⟩ (by dsimp only;omega) λL q hq hL=>?_
 obtain ⟨l,k⟩:=q
 obtain ⟨h1,h2,h3,f,h4,h5⟩:=hq
 simp only at h1 h2 h3 h4 h5 ⊢
 rw [h5] at hL ⊢
 cases f with
 | zero=>omega
 | succ f =>
  have hwl:=zfi (s.b.drop k.toNat) .out
  rw [zLd] at hwl h4
  obtain ⟨nw,hw⟩:=ziY (s.b.drop k.toNat) .out
  rw [List.drop_drop] at hw
  have hsw:=zkP hw
  refine T.eq (zxh s k h1 h2 (by omega)) ?_
  rw [zf5] at hL ⊢
  cases hwh:wh .out (s.b.drop k.toNat) with
  | nil =>
   simp only [hwh] at hL ⊢
   refine T.br (λ_=>T.abl (by simp only [zLc,zLn];omega) (T.some rfl)) λh6=>?_
   have:=zOF h6
   simp at this
  | cons c r =>
   simp only [hwh] at hL ⊢ 
   rw [hwh] at hwl hsw
   have hcl:0 < (c :: r).length:=by simp
   refine T.br (λh6=>by have:=zOT h6;omega) λ_=>?_
   have hi:((s.b.length:Int) - ((c :: r).length:Int)).toNat=s.b.length - (c :: r).length:=by omega
   refine T.cal (zAT s ((s.b.length:Int) - ((c :: r).length:Int)) (by omega) (by omega) (by omega)) λq _ hq=>?_
   rw [hi,hsw] at hq
   cases ho:zfO (c :: r) with
   | none =>
    rw [ho] at hq
    simp only [ho] at hL ⊢
    simp only at hq
    exact T.br (λ_=>T.some rfl) λh7=>by have:=zOF h7;omega
   | some p =>
    obtain ⟨kd,t,r'⟩:=p
    rw [ho] at hq
    simp only [ho] at hL ⊢
    simp only at hq
    subst hq
    have hol:=zkU ho
    obtain ⟨no,hso⟩:=zro ho
    have hso2:r'=s.b.drop (s.b.length - (c :: r).length + no):=by rw [hso,<- List.drop_drop,hsw]
    have hsd:=zkP hso2
    refine T.br (λh7=>by have:=zOT h7;dsimp only at this;omega) λ_=>T.abl (by simp only [zLc,zLn];omega) (hL _ ⟨by dsimp only;omega,by dsimp only;omega,?_,f,?_,?_⟩ (by dsimp only;omega))
    ·dsimp only;rw [zLa,zLs];omega
    ·dsimp only
     rw [show ((s.b.length:Int) - (r'.length:Int)).toNat=s.b.length - r'.length by omega,hsd]
     omega
    ·dsimp only
     rw [show ((s.b.length:Int) - (r'.length:Int)).toNat=s.b.length - r'.length by omega,hsd]
inductive KT:List UInt8->List (Int × List UInt8)->Prop
 | fin {b:List UInt8}:wh .out b=[]->KT b []
 | tok {b r r' t:List UInt8} {c:UInt8} {k:Int} {ks:List (Int × List UInt8)}:wh .out b=c :: r->zfO (c :: r)=some (k,t,r')->KT r' ks->KT b ((k,t) :: ks)
def kt (t:zU):Int × List UInt8:=(t.kind,t.text.b)
theorem zxb {n:Nat} {b:List UInt8} {ks:List (Int × List UInt8)} (h:KT b ks):∀ f acc,b.length < f->∃ l,ziH n f b acc=(acc ++ l,0,0)/\l.map kt=ks ++ [(0,[])]:=by
 induction h with
 | @fin b h =>
  intro f acc hf
  obtain ⟨f,rfl⟩:∃ g,f=g + 1:=⟨f - 1,by omega⟩
  rw [zf5,h]
  exact ⟨_,rfl,rfl⟩
 | @tok b r r' t c k ks h1 h2 _ ih =>
  intro f acc hf
  obtain ⟨f,rfl⟩:∃ g,f=g + 1:=⟨f - 1,by omega⟩
  have h3:=zkU h2
  have h4:=zfi b .out
  rw [h1] at h4
  obtain ⟨l,e1,e2⟩:=ih f (acc ++ [⟨k,⟨t⟩,(n:Int) - ((c :: r).length:Int)⟩]) (by omega)
  rw [zf5,h1]
  simp only [h2]
  rw [e1]
  exact ⟨⟨k,⟨t⟩,(n:Int) - ((c :: r).length:Int)⟩ :: l,by rw [zLA];rfl,by rw [List.map_cons,e2];rfl⟩
theorem zy6 {b:List UInt8} {ks:List (Int × List UInt8)} (h:KT b ks) (hl:b.length <= 8000):∃ l,toks b=(l,0,0)/\l.map kt=ks ++ [(0,[])]:=by
 unfold toks
 rw [zDF (show ¬ 8000 < b.length by omega),zCf]
 obtain ⟨l,e1,e2⟩:=zxb (n:=b.length) h (b.length + 1) [] (by omega)
 exact ⟨l,by rw [e1,List.nil_append],e2⟩

/-! ### White -/
theorem KT.sp {b:List UInt8} {ks:List (Int × List UInt8)} (h:KT b ks):KT (32 :: b) ks:=by
 cases h with
 | fin h=>exact .fin h
 | tok h1 h2 h3=>exact .tok h1 h2 h3
theorem zoI {c:UInt8} {r:List UInt8} (h1:zm3 c=false) (h2:c ≠ 45 \/ hd r ≠ 45):wh .out (c :: r)=c :: r:=by
 have e:(decide (c=45) && decide (hd r=45))=false:=by
  rcases h2 with h | h
  ·rw [zDF h];rfl
  ·rw [zDF h,Bool.and_false]
 show (bif zm3 c then wh .out r else bif decide (c=45) && decide (hd r=45) then wh .start r else c :: r)=_
 rw [h1,e];rfl
theorem zwz {w x:List UInt8}:hd (w ++ x)=hd (w ++ [hd x]):=by
 cases w with
 | nil=>rfl
 | cons c w=>rfl

/-! ### Names -/
def zjC:List UInt8->UInt8->Bool
 | [],_=>true
 | c :: w,d=>zcn c (w ++ [d]) && zjC w d
def ztT:List UInt8->Bool
 | []=>true
 | d :: r=>!zcn d r
theorem zm8 {c:UInt8} {r s:List UInt8} (h:hd r=hd s):zcn c r=zcn c s:=by unfold zcn;rw [h]
theorem zxO {x:List UInt8} (hs:ztT x=true):∀ {w:List UInt8},zjC w (hd x)=true->nm (w ++ x)=w.length
 | [],_=>by
  cases x with
  | nil=>rfl
  | cons d r =>
   have:zcn d r=false:=by
    have hs2:(!zcn d r)=true:=hs
    cases h:zcn d r with
    | true=>rw [h] at hs2;cases hs2
    | false=>rfl
   show (bif zcn d r then nm r + 1 else 0)=0
   rw [this];rfl
 | c :: w,h=>by
  unfold zjC at h
  rw [zBa] at h
  show (bif zcn c (w ++ x) then nm (w ++ x) + 1 else 0)=w.length + 1
  rw [zm8 zwz,h.1,zxO hs h.2];rfl
def znm (w:List UInt8):Int:=bif ziZ w then 5 else bif decide (hd w <= 90) then 1 else 2
theorem zjV {w x:List UInt8} (h:w ≠ []):hd (w ++ x)=hd w:=by
 cases w with
 | nil=>exact absurd rfl h
 | cons c w=>rfl
theorem zqK {w:List UInt8} (h:zaF (hd w)=true):w ≠ []:=λe=>by subst e;cases h
theorem zvX {w x:List UInt8} (h0:zaF (hd w)=true) (h1:zjC w (hd x)=true) (h2:ztT x=true) (h3:w.getLast? ≠ some 45) (h4:w.length <= 60):zfO (w ++ x)=some (znm w,w,x):=by
 have hn:=zxO h2 h1
 have hb:zgK (w ++ x)=false:=by
  unfold zgK
  rw [hn,List.take_left,zDF h3,zDF (by omega)];rfl
 unfold zfO
 simp only
 rw [zjV (zqK h0),h0,hb,hn,List.take_left,List.drop_left]
 rfl
theorem zvm {c:UInt8} (h:zaF c=true):zm3 c=false/\c ≠ 45:=by
 unfold zaF at h
 unfold zm3
 simp only [Bool.or_eq_true,zBa,decide_eq_true_eq,UInt8.le_iff_toNat_le] at h
 have e:∀ n:UInt8,n.toNat <= 45->c ≠ n:=λn hn e=>by
  subst e
  have e1:(97:UInt8).toNat=97:=rfl
  have e2:(65:UInt8).toNat=65:=rfl
  omega
 rw [zDF (e 32 (by decide)),zDF (e 9 (by decide)),zDF (e 10 (by decide)),zDF (e 13 (by decide))]
 exact ⟨rfl,e 45 (by decide)⟩
theorem KT.name {w x:List UInt8} {ks:List (Int × List UInt8)} (h0:zaF (hd w)=true) (h1:zjC w (hd x)=true) (h2:ztT x=true) (h3:w.getLast? ≠ some 45) (h4:w.length <= 60) (h:KT x ks):KT (w ++ x) ((znm w,w) :: ks):=by
 cases hw:w with
 | nil=>rw [hw] at h0;cases h0
 | cons c r =>
  have hc:zaF c=true:=by rw [hw] at h0;exact h0
  obtain ⟨e1,e2⟩:=zvm hc
  have:=zvX h0 h1 h2 h3 h4
  rw [hw] at this
  exact .tok (zoI e1 (.inl e2)) this h

/-! ### Numbers -/
def zoU (d:List UInt8):Bool:=d.all zaq
theorem zqY {x:List UInt8} (hs:zaq (hd x)=false):∀ {d:List UInt8},zoU d=true->dg (d ++ x)=d.length
 | [],_=>by
  cases x with
  | nil=>rfl
  | cons c r =>
   show (bif zaq c then dg r + 1 else 0)=0
   have:zaq c=false:=hs
   rw [this];rfl
 | c :: d,h=>by
  unfold zoU at h
  rw [List.all_cons,zBa] at h
  show (bif zaq c then dg (d ++ x) + 1 else 0)=d.length + 1
  rw [h.1,zqY hs h.2];rfl
def zjJ (m:Bool) (d:List UInt8):Bool:=zoU d && decide (1 <= d.length) && decide (d.length <= 19) && (decide (d.length <= 1) || !decide (hd d=48)) && (!m || !decide (hd d=48)) && decide ((ziW d).toNat <= (if m then 9223372036854775808 else 9223372036854775807))
theorem zoP {m:Bool} {d x:List UInt8} (h:zjJ m d=true) (h1:zaq (hd x)=false) (h2:zaF (hd x)=false):zfs m (d ++ x)=false:=by
 unfold zjJ at h
 simp only [zBa,decide_eq_true_eq] at h
 obtain ⟨⟨⟨⟨⟨h3,h4⟩,h5⟩,h6⟩,h7⟩,h8⟩:=h
 have hne:d ≠ []:=λe=>by subst e;simp at h4
 have hn:=zqY h1 h3
 unfold zfs
 rw [hn,zjV hne,List.drop_left,List.take_left,h2,zDF (show ¬ d.length < 1 by omega),zDF (show ¬ 19 < d.length by omega)]
 have e1:(decide (1 < d.length) && decide (hd d=48))=false:=by
  rw [Bool.or_eq_true] at h6
  rcases h6 with h | h
  ·rw [zDF (by have:=zOT h;omega)];rfl
  ·have:decide (hd d=48)=false:=by simpa using h
   rw [this,Bool.and_false]
 have e2:(m && decide (hd d=48))=false:=by
  rw [Bool.or_eq_true] at h7
  rcases h7 with h | h
  ·have:m=false:=by simpa using h
   rw [this];rfl
  ·have:decide (hd d=48)=false:=by simpa using h
   rw [this,Bool.and_false]
 have e3:decide ((9223372036854775808:UInt64) < ziW d)=false:=by
  refine zDF λh=>?_
  have h:=UInt64.lt_iff_toNat_lt.1 h
  have e:(9223372036854775808:UInt64).toNat=9223372036854775808:=rfl
  cases m with
  | true=>rw [if_pos rfl] at h8;omega
  | false=>rw [if_neg (by decide)] at h8;omega
 have e4:(!m && decide (ziW d=9223372036854775808))=false:=by
  cases m with
  | true=>rfl
  | false =>
   rw [if_neg (by decide)] at h8
   have:¬ ziW d=9223372036854775808:=λe=>by
    rw [e] at h8
    have e:(9223372036854775808:UInt64).toNat=9223372036854775808:=rfl
    omega
   rw [zDF this];rfl
 rw [e1,e2,e3,e4];rfl
theorem zmM {c:UInt8} (h:zaq c=true):zaF c=false/\zm3 c=false/\c ≠ 45:=by
 unfold zaq at h
 simp only [zBa,decide_eq_true_eq,UInt8.le_iff_toNat_le] at h
 have a1:(48:UInt8).toNat=48:=rfl
 have a2:(57:UInt8).toNat=57:=rfl
 have e:∀ n:UInt8,n.toNat <= 45->c ≠ n:=λn hn e=>by subst e;omega
 refine ⟨?_,?_,e 45 (by decide)⟩
 ·unfold zaF
  have b1:(97:UInt8).toNat=97:=rfl
  have b2:(65:UInt8).toNat=65:=rfl
  rw [zDF (show ¬ (97:UInt8) <= c from λh=>by have:=UInt8.le_iff_toNat_le.1 h;omega),zDF (show ¬ (65:UInt8) <= c from λh=>by have:=UInt8.le_iff_toNat_le.1 h;omega)];rfl
 ·unfold zm3
  rw [zDF (e 32 (by decide)),zDF (e 9 (by decide)),zDF (e 10 (by decide)),zDF (e 13 (by decide))];rfl
theorem zjs {m:Bool} {d:List UInt8} (h:zjJ m d=true):d ≠ []:=λe=>by subst e;cases m <;> cases h
theorem zmj {m:Bool} {d:List UInt8} (h:zjJ m d=true):zaq (hd d)=true:=by
 cases d with
 | nil=>exact absurd rfl (zjs h)
 | cons c r =>
  unfold zjJ zoU at h
  simp only [zBa,List.all_cons] at h
  exact h.1.1.1.1.1.1
theorem zyl {d x:List UInt8} (h:zjJ false d=true) (h1:zaq (hd x)=false) (h2:zaF (hd x)=false):zfO (d ++ x)=some (3,d,x):=by
 have hc:=zmj h
 obtain ⟨e1,e2,e3⟩:=zmM hc
 have hn:zd4 (d ++ x)=some d.length:=by
  unfold zd4
  have hd2:zoU d=true:=by
   unfold zjJ at h
   simp only [zBa] at h
   exact h.1.1.1.1.1
  rw [zjV (zjs h),zDF e3,zCf,zoP h h1 h2,zCf,zqY h1 hd2]
 unfold zfO
 simp only
 rw [zjV (zjs h),e1,hc,Bool.true_or,zCt,zCf,hn]
 simp only [List.take_left,List.drop_left]
theorem zy3 {d x:List UInt8} (h:zjJ true d=true) (h1:zaq (hd x)=false) (h2:zaF (hd x)=false):zfO (45 :: (d ++ x))=some (3,45 :: d,x):=by
 have hc:=zmj h
 have hn:zd4 (45 :: (d ++ x))=some (d.length + 1):=by
  unfold zd4
  have hd2:zoU d=true:=by
   unfold zjJ at h
   simp only [zBa] at h
   exact h.1.1.1.1.1
  show (bif zfs true (d ++ x) then none else some (dg (d ++ x) + 1))=_
  rw [zoP h h1 h2,zCf,zqY h1 hd2]
 unfold zfO
 have e:zaq (hd ((45 :: (d ++ x)).drop 1))=true:=by
  show zaq (hd (d ++ x))=true
  rw [zjV (zjs h)];exact hc
 simp only
 rw [show zaF (hd (45 :: (d ++ x)))=false from rfl,show zaq (hd (45 :: (d ++ x)))=false from rfl,show decide (hd (45 :: (d ++ x))=45)=true from rfl,e,hn]
 show some (3,(45 :: (d ++ x)).take (d.length + 1),(45 :: (d ++ x)).drop (d.length + 1))=_
 rw [List.take_succ_cons,List.drop_succ_cons,List.take_left,List.drop_left]
theorem KT.num {d x:List UInt8} {ks:List (Int × List UInt8)} (h:zjJ false d=true) (h1:zaq (hd x)=false) (h2:zaF (hd x)=false) (hk:KT x ks):KT (d ++ x) ((3,d) :: ks):=by
 have:=zyl h h1 h2
 have hc:=zmj h
 cases hw:d with
 | nil=>exact absurd hw (zjs h)
 | cons c r =>
  rw [hw] at this hc
  obtain ⟨_,e2,e3⟩:=zmM hc
  exact .tok (zoI e2 (.inl e3)) this hk
theorem KT.neg {d x:List UInt8} {ks:List (Int × List UInt8)} (h:zjJ true d=true) (h1:zaq (hd x)=false) (h2:zaF (hd x)=false) (hk:KT x ks):KT (45 :: (d ++ x)) ((3,45 :: d) :: ks):=by
 have hc:=zmj h
 refine .tok (zoI rfl (.inr ?_)) (zy3 h h1 h2) hk
 rw [zjV (zjs h)]
 exact (zmM hc).2.2

/-! ### Signs -/
/-- May that stand behind a sign? -/
def sgN (s:List UInt8) (d:UInt8):Bool:=!(decide (s=[91]) && decide (d=91)) && !(decide (s=[93]) && decide (d=93)) && !(decide (s=[46,46]) && decide (d=46)) && !(decide (s=[58]) && decide (d=58))
theorem zAw {s:List UInt8} (hs:s ∈ sgs) {x:List UInt8} (h:sgN s (hd x)=true):sg (s ++ x)=s.length:=by
 have n1:∀ (p c:UInt8) (r:List UInt8),hd r ≠ c->ze4 [p,c] (p :: r)=false:=λp c r h=>by
  cases r with
  | nil=>show (bif decide (p=p) then false else false)=false;cases decide (p=p) <;> rfl
  | cons d r =>
   have:¬ c=d:=λe=>h e.symm
   show (bif decide (p=p) then (bif decide (c=d) then true else false) else false)=false
   rw [zDF this];cases decide (p=p) <;> rfl
 have n2:∀ (p q c:UInt8) (r:List UInt8),hd r ≠ c->ze4 [p,q,c] (p :: q :: r)=false:=λp q c r h=>by
  cases r with
  | nil=>show (bif decide (p=p) then (bif decide (q=q) then false else false) else false)=false;cases decide (p=p) <;> cases decide (q=q) <;> rfl
  | cons d r =>
   have:¬ c=d:=λe=>h e.symm
   show (bif decide (p=p) then (bif decide (q=q) then (bif decide (c=d) then true else false) else false) else false)=false
   rw [zDF this];cases decide (p=p) <;> cases decide (q=q) <;> rfl
 have n3:∀ (p q c:UInt8) (r:List UInt8),hd r ≠ q->ze4 [p,q,c] (p :: r)=false:=λp q c r h=>by
  cases r with
  | nil=>show (bif decide (p=p) then false else false)=false;cases decide (p=p) <;> rfl
  | cons d r =>
   have:¬ q=d:=λe=>h e.symm
   show (bif decide (p=p) then (bif decide (q=d) then ze4 [c] r else false) else false)=false
   rw [zDF this];cases decide (p=p) <;> rfl
 unfold sgN at h
 simp only [zBa] at h
 obtain ⟨⟨⟨h1,h2⟩,h3⟩,h4⟩:=h
 have sp:∀ {s':List UInt8} {d:UInt8},s=s'->(!(decide (s=s') && decide (hd x=d)))=true->hd x ≠ d:=λ{s' d} e h hd=>by
  rw [zDT e,zDT hd] at h;cases h
 simp only [sgs,List.mem_cons,List.not_mem_nil,or_false] at hs
 rcases hs with e | e | e | e | e | e | e | e | e | e | e | e | e
 ·subst e;rfl
 ·subst e;rfl
 ·have:=sp e h3
  subst e
  show (bif ze4 [46,46,46] (46 :: 46 :: x) then 3 else 2)=2
  rw [n2 _ _ _ _ this];rfl
 ·subst e;rfl
 ·subst e;rfl
 ·subst e;rfl
 ·subst e;rfl
 ·have:=sp e h1
  subst e
  show (bif ze4 [91,91] (91 :: x) then 2 else 1)=1
  rw [n1 _ _ _ this];rfl
 ·have:=sp e h2
  subst e
  show (bif ze4 [93,93] (93 :: x) then 2 else 1)=1
  rw [n1 _ _ _ this];rfl
 ·subst e;rfl
 ·subst e;rfl
 ·subst e;rfl
 ·have:=sp e h4
  subst e
  show (bif ze4 [58,58,61] (58 :: x) then 3 else 1)=1
  rw [n3 _ _ _ _ this];rfl
theorem zvZ {s:List UInt8} (hs:s ∈ sgs) {x:List UInt8} (h:sgN s (hd x)=true):zfO (s ++ x)=some (6,s,x)/\wh .out (s ++ x)=s ++ x:=by
 have hg:=zAw hs h
 have hl:0 < s.length:=by
  simp only [sgs,List.mem_cons,List.not_mem_nil,or_false] at hs
  rcases hs with e | e | e | e | e | e | e | e | e | e | e | e | e <;> subst e <;> decide
 have key:(bif decide (0 < sg (s ++ x)) then some ((6:Int),(s ++ x).take (sg (s ++ x)),(s ++ x).drop (sg (s ++ x))) else none)=some (6,s,x):=by
  rw [hg,zDT hl,zCt,List.take_left,List.drop_left]
 simp only [sgs,List.mem_cons,List.not_mem_nil,or_false] at hs
 rcases hs with e | e | e | e | e | e | e | e | e | e | e | e | e <;> subst e <;> exact ⟨key,rfl⟩
theorem KT.sign {s:List UInt8} (hs:s ∈ sgs) {x:List UInt8} {ks:List (Int × List UInt8)} (h:sgN s (hd x)=true) (hk:KT x ks):KT (s ++ x) ((6,s) :: ks):=by
 obtain ⟨h1,h2⟩:=zvZ hs h
 cases hw:s ++ x with
 | nil=>rw [hw] at h1;cases h1
 | cons c r =>
  rw [hw] at h1 h2
  exact .tok h2 h1 hk

/-! ### Hexes and strings -/
theorem zw5 {x:List UInt8} (hs:zdW (hd x)=false):∀ {d:List UInt8},d.all zdW=true->hx (d ++ x)=d.length
 | [],_=>by
  cases x with
  | nil=>rfl
  | cons c r =>
   show (bif zdW c then hx r + 1 else 0)=0
   have:zdW c=false:=hs
   rw [this];rfl
 | c :: d,h=>by
  rw [List.all_cons,zBa] at h
  show (bif zdW c then hx (d ++ x) + 1 else 0)=d.length + 1
  rw [h.1,zw5 hs h.2];rfl
theorem zy7 {t x:List UInt8} (h:t.all zdW=true) (h2:t.length % 2=0):zfO (39 :: (t ++ 39 :: 72 :: x))=some (4,t,x):=by
 have hn:=zw5 (x:=39 :: 72 :: x) rfl h
 have hb:zdS (t ++ 39 :: 72 :: x)=false:=by
  unfold zdS
  rw [hn,zDT h2,List.drop_left,<- List.drop_drop,List.drop_left];rfl
 show (bif zdS (t ++ 39 :: 72 :: x) then none else some ((4:Int),(t ++ 39 :: 72 :: x).take (hx (t ++ 39 :: 72 :: x)),(t ++ 39 :: 72 :: x).drop (hx (t ++ 39 :: 72 :: x) + 2)))=_
 rw [hb,hn,<- List.drop_drop,List.take_left,List.drop_left];rfl
theorem KT.hex {t x:List UInt8} {ks:List (Int × List UInt8)} (h:t.all zdW=true) (h2:t.length % 2=0) (hk:KT x ks):KT (39 :: (t ++ 39 :: 72 :: x)) ((4,t) :: ks) :=
 .tok (zoI rfl (.inl (by decide))) (zy7 h h2) hk
def esc:List UInt8->List UInt8
 | []=>[]
 | c :: s=>if c=34 then 34 :: 34 :: esc s else c :: esc s
theorem ztf {x:List UInt8} (hx:hd x ≠ 34):∀ (s acc:List UInt8),qd false (esc s ++ 34 :: x) acc=bif Lib.validD (acc ++ s) then some (acc ++ s,x) else none
 | [],acc=>by
  show (bif decide ((34:UInt8)=34) then bif decide (hd x=34) then qd true x acc else bif Lib.validD acc then some (acc,x) else none else _)=_
  rw [zDF hx,List.append_nil];rfl
 | c :: s,acc=>by
  by_cases hc:c=34
  ·subst hc
   have:=ztf hx s (acc ++ [34])
   rw [zLA] at this
   exact this
  ·have:=ztf hx s (acc ++ [c])
   rw [zLA] at this
   unfold esc
   rw [if_neg hc]
   show (bif decide (c=34) then _ else qd false (esc s ++ 34 :: x) (acc ++ [c]))=_
   rw [zDF hc]
   exact this
theorem zzl {s x:List UInt8} (hx:hd x ≠ 34) (hv:Lib.validD s=true):zfO (34 :: (esc s ++ 34 :: x))=some (7,s,x):=by
 have:=ztf hx s []
 rw [List.nil_append,hv,zCt] at this
 show (match qd false (esc s ++ 34 :: x) [] with
  | none=>none
  | some (t,r)=>some ((7:Int),t,r))=_
 rw [this]
theorem KT.str {s x:List UInt8} {ks:List (Int × List UInt8)} (hx:hd x ≠ 34) (hv:Lib.validD s=true) (hk:KT x ks):KT (34 :: (esc s ++ 34 :: x)) ((7,s) :: ks) :=
 .tok (zoI rfl (.inl (by decide))) (zzl hx hv) hk
/-! ### Leaves -/
theorem zwX (p:zah) (l:List Str) (hl:l.length <= 1000) (hb:p.b.length + (l.map λs=>s.b.length).sum <= 68000000000):zay p l=some ⟨p.t,p.b ++ (l.map λs=>s.b).flatten⟩:=by
 refine T.eqs ?_
 unfold zay
 refine T.lp (ι:=Int × zah) (λq=>0 <= q.1/\q.1 <= (l.length:Int)/\q.2.t=p.t/\q.2.b ++ ((l.drop q.1.toNat).map λs=>s.b).flatten=p.b ++ (l.map λs=>s.b).flatten/\q.2.b.length + ((l.drop q.1.toNat).map λs=>s.b.length).sum <= 68000000000) (λq=>((l.length:Int) - q.1).toNat) ⟨zIl _,by dsimp only;omega,rfl,rfl,hb⟩ (by dsimp only;omega) λJ q ⟨q0,q1,q2,q3,q4⟩ hJ=>?_
 obtain ⟨k,g⟩:=q
 dsimp only at q0 q1 q2 q3 q4 hJ ⊢
 refine T.br (λhk=>?_) λhk=>T.some ?_
 ·have hk:=zOT hk
  refine T.get q0 hk λy hy=>?_
  have hd:l.drop k.toNat=y :: l.drop (k.toNat + 1):=by
   obtain ⟨h1,h2⟩:=List.getElem?_eq_some_iff.1 hy
   rw [List.drop_eq_getElem_cons h1,h2]
  rw [hd] at q3 q4
  rw [List.map_cons,List.sum_cons] at q4
  rw [List.map_cons,List.flatten_cons] at q3
  have ek:(k + 1).toNat=k.toNat + 1:=by omega
  refine T.abl (by omega) (T.ck (by omega) (hJ _ ⟨by dsimp only;omega,by dsimp only;omega,q2,?_,?_⟩ (by dsimp only;omega)))
  ·dsimp only;rw [ek,zLA];exact q3
  ·dsimp only;rw [ek,zLa];omega
 ·have hk:=zOF hk
  rw [zDn (by omega)] at q3
  simp only [List.map_nil,List.flatten_nil,List.append_nil] at q3
  obtain ⟨gt,gb⟩:=g
  dsimp only at q2 q3
  rw [q2,q3]
theorem zpk (p:zah) (s:Str) (h:p.b.length + s.b.length <= 68000000000):zay p [s]=some ⟨p.t,p.b ++ s.b⟩:=by
 rw [zwX p [s] (by simp) (by simpa using h)];simp
theorem put2 (p:zah) (s u:Str) (h:p.b.length + s.b.length + u.b.length <= 68000000000):zay p [s,u]=some ⟨p.t,p.b ++ (s.b ++ u.b)⟩:=by
 rw [zwX p [s,u] (by simp) (by simp only [List.map_cons,List.map_nil,List.sum_cons,List.sum_nil];omega)];simp
def hiD (c:UInt8):UInt8:=([48,49,50,51,52,53,54,55,56,57,65,66,67,68,69,70]:List UInt8).getD (c.toNat / 16) 0
def loD (c:UInt8):UInt8:=([48,49,50,51,52,53,54,55,56,57,65,66,67,68,69,70]:List UInt8).getD (c.toNat % 16) 0
def zlR (b:List UInt8):List UInt8:=(b.map λc=>[hiD c,loD c]).flatten
theorem zxZ:∀ X:Fin 256,zs ([48,49,50,51,52,53,54,55,56,57,65,66,67,68,69,70]:List UInt8) ((zfn (UInt8.ofNat X.val) (4:UInt64).toNat).toNat:Int)=some (hiD (UInt8.ofNat X.val))/\zs ([48,49,50,51,52,53,54,55,56,57,65,66,67,68,69,70]:List UInt8) ((UInt8.ofNat X.val &&& (15:UInt8)).toNat:Int)=some (loD (UInt8.ofNat X.val)):=by decide +kernel
theorem hexD (c:UInt8):zs ([48,49,50,51,52,53,54,55,56,57,65,66,67,68,69,70]:List UInt8) ((zfn c (4:UInt64).toNat).toNat:Int)=some (hiD c)/\zs ([48,49,50,51,52,53,54,55,56,57,65,66,67,68,69,70]:List UInt8) ((c &&& (15:UInt8)).toNat:Int)=some (loD c):=by
 have:=zxZ ⟨c.toNat,c.toNat_lt⟩
 simp only [UInt8.ofNat_toNat] at this
 exact this
theorem zoJ (b:List UInt8):(zlR b).length=2 * b.length:=by
 unfold zlR
 induction b with
 | nil=>rfl
 | cons c b ih=>rw [List.map_cons,List.flatten_cons,zLa,ih,zLc];simp;omega
theorem zmJ (c:UInt8) (b:List UInt8):zlR (c :: b)=hiD c :: loD c :: zlR b:=rfl
theorem zzE (b:List UInt8) (hb:b.length <= 1000000):zhI b=some ⟨39 :: (zlR b ++ [39,72])⟩:=by
 refine T.eqs ?_
 unfold zhI
 refine T.lp (ι:=List UInt8 × Int) (λq=>0 <= q.2/\q.2 <= (b.length:Int)/\q.1.length <= 1 + 2 * q.2.toNat/\q.1 ++ zlR (b.drop q.2.toNat)=39 :: zlR b) (λq=>((b.length:Int) - q.2).toNat) ⟨zIl _,by dsimp only;omega,zNl _,rfl⟩ (by dsimp only;omega) λJ q ⟨q0,q1,q2,q3⟩ hJ=>?_
 obtain ⟨acc,k⟩:=q
 dsimp only at q0 q1 q2 q3 hJ ⊢
 refine T.br (λhk=>?_) λhk=>?_
 ·have hk:=zOT hk
  refine T.get q0 hk λy hy=>?_
  have hd:b.drop k.toNat=y :: b.drop (k.toNat + 1):=by
   obtain ⟨h1,h2⟩:=List.getElem?_eq_some_iff.1 hy
   rw [List.drop_eq_getElem_cons h1,h2]
  have ek:(k + 1).toNat=k.toNat + 1:=by omega
  refine T.asr rfl (T.eq (hexD y).1 (T.eq (hexD y).2 (T.abl (by simp only [zLc,zLn];omega) (T.ck (by omega) (hJ _ ⟨by dsimp only;omega,by dsimp only;omega,?_,?_⟩ (by dsimp only;omega))))))
  ·simp only [zLa,zLc,zLn];omega
  ·dsimp only
   rw [ek,<- q3,hd,zmJ,zLA];rfl
 ·have hk:=zOF hk
  rw [zDn (by omega)] at q3
  have q3:acc=39 :: zlR b:=by simpa [zlR] using q3
  refine T.abl (by simp only [zLc,zLn];omega) (T.some ?_)
  rw [q3];rfl
theorem znD:∀ (k u:Nat),u < 10 ^ (k + 1)->(Lib.decDigits u).length <= k + 1
 | 0,u,h=>by rw [Lib.decDigits_one (by simpa using h)];exact zNl _
 | k + 1,u,h=>by
  by_cases h1:u < 10
  ·rw [Lib.decDigits_one h1];simp
  ·rw [Lib.decDigits,dif_neg h1,zLa,zLs]
   rw [Nat.pow_succ] at h
   have:=znD k (u / 10) (by omega)
   omega
theorem zo7 {n:Int} (h0:-9223372036854775808 <= n) (h1:n <= 9223372036854775807):(Lib.itoa n).length <= 20:=by
 unfold Lib.itoa
 split
 ·have:=znD 18 n.natAbs (by have h9:(10:Nat) ^ (18 + 1)=10000000000000000000:=(by decide);omega)
  rw [zLc];omega
 ·have:=znD 18 n.toNat (by have h9:(10:Nat) ^ (18 + 1)=10000000000000000000:=(by decide);omega)
  omega
theorem zAz {n:Int} (h0:-9223372036854775808 <= n) (h1:n <= 9223372036854775807):zdI n 10=some ⟨Lib.itoa n⟩:=by
 unfold zdI
 rw [zDT rfl,Nat.ble_eq_true_of_le (Nat.le_trans (zo7 h0 h1) (by decide))];rfl
theorem zud (s:List UInt8):Lib.index (34 :: s) [34]=0:=by
 unfold Lib.index
 rw [if_pos]
 simp [List.isPrefixOf]
theorem zsc {c:UInt8} (hc:c ≠ 34) (s:List UInt8):Lib.index (c :: s) [34]=if Lib.index s [34] == -1 then -1 else Lib.index s [34] + 1:=by
 show (if List.isPrefixOf [34] (c :: s) then 0 else _)=_
 rw [if_neg]
 have:((34:UInt8) == c)=false:=by simpa using λe=>hc e.symm
 simp [List.isPrefixOf,this]
theorem zvl {c:UInt8} (hc:c ≠ 34) (nw:List UInt8):∀ (k:Nat) (s:List UInt8),Lib.replaceK [34] nw k (c :: s)=c :: Lib.replaceK [34] nw k s
 | 0,s=>rfl
 | k + 1,s=>by
  rw [Lib.replaceK,Lib.replaceK,zsc hc]
  have hge:=Lib.index_ge s [34]
  by_cases h:Lib.index s [34]=-1
  ·rw [h];rfl
  ·have h1:(Lib.index s [34] == -1)=false:=by simpa using h
   have h2:(Lib.index s [34] + 1 == -1)=false:=by
    have:Lib.index s [34] + 1 ≠ -1:=by omega
    simpa using this
   rw [h1]
   simp only [Bool.false_eq_true,if_false]
   rw [h2]
   simp only [Bool.false_eq_true,if_false]
   have e:(Lib.index s [34] + 1).toNat=(Lib.index s [34]).toNat + 1:=by omega
   rw [e,List.take_succ_cons,show (Lib.index s [34]).toNat + 1 + [(34:UInt8)].length=((Lib.index s [34]).toNat + [(34:UInt8)].length) + 1 from rfl,List.drop_succ_cons]
   rfl
theorem zuT {c:UInt8} (hc:c ≠ 34):∀ (f:Nat) (s:List UInt8),Lib.countFrom [34] f (c :: s)=Lib.countFrom [34] f s
 | 0,s=>rfl
 | f + 1,s=>by
  rw [Lib.countFrom,Lib.countFrom,zsc hc]
  have hge:=Lib.index_ge s [34]
  by_cases h:Lib.index s [34]=-1
  ·rw [h];rfl
  ·have h1:(Lib.index s [34] == -1)=false:=by simpa using h
   have h2:(Lib.index s [34] + 1 == -1)=false:=by
    have:Lib.index s [34] + 1 ≠ -1:=by omega
    simpa using this
   rw [h1]
   simp only [Bool.false_eq_true,if_false]
   rw [h2]
   simp only [Bool.false_eq_true,if_false]
   have e:(Lib.index s [34] + 1).toNat=(Lib.index s [34]).toNat + 1:=by omega
   rw [e,show (Lib.index s [34]).toNat + 1 + [(34:UInt8)].length=((Lib.index s [34]).toNat + [(34:UInt8)].length) + 1 from rfl,List.drop_succ_cons]
theorem zqO:∀ (s:List UInt8) (f:Nat),s.length < f->Lib.replaceK [34] [34,34] (Lib.countFrom [34] f s) s=esc s/\Lib.countFrom [34] f s <= s.length
 | [],f,hf=>by
  obtain ⟨f,rfl⟩:∃ g,f=g + 1:=⟨f - 1,by omega⟩
  exact ⟨rfl,zNl _⟩
 | c :: s,f,hf=>by
  obtain ⟨f,rfl⟩:∃ g,f=g + 1:=⟨f - 1,by omega⟩
  rw [zLc] at hf ⊢
  by_cases hc:c=34
  ·subst hc
   obtain ⟨h1,h2⟩:=zqO s f (by omega)
   have e:Lib.countFrom [34] (f + 1) (34 :: s)=Lib.countFrom [34] f s + 1:=by
    rw [Lib.countFrom,zud]
    show 1 + Lib.countFrom [34] f s=_
    omega
   rw [e]
   refine ⟨?_,by omega⟩
   rw [Lib.replaceK,zud]
   show [] ++ [34,34] ++ Lib.replaceK [34] [34,34] (Lib.countFrom [34] f s) s=esc (34 :: s)
   rw [h1];rfl
  ·obtain ⟨h1,h2⟩:=zqO s (f + 1) (by omega)
   rw [zuT hc,zvl hc,h1]
   exact ⟨by show _=if c=34 then _ else _;rw [if_neg hc],by omega⟩
theorem zl1:∀ a:List UInt8,(esc a).length <= 2 * a.length
 | []=>zNl _
 | c :: s=>by
  have:=zl1 s
  show (if c=34 then 34 :: 34 :: esc s else c :: esc s).length <= _
  split <;> simp only [zLc] <;> omega
theorem zyo (b:List UInt8) (hb:b.length <= 1000000):strings_ReplaceAll ⟨b⟩ ⟨[34]⟩ ⟨[34,34]⟩=some ⟨esc b⟩:=by
 obtain ⟨h1,h2⟩:=zqO b (b.length + 1) (by omega)
 have e:Lib.replaceAll b [34] [34,34]=esc b:=by
  unfold Lib.replaceAll Lib.replace
  rw [if_neg (by decide)]
  unfold Lib.replaceNum
  rw [if_pos (.inl (by decide))]
  exact h1
 have hl:=zl1 b
 unfold strings_ReplaceAll
 have hc:Lib.count b [34] <= b.length:=h2
 rw [e,Nat.ble_eq_true_of_le hb,Nat.ble_eq_true_of_le (show (1:Nat) <= ([34]:List UInt8).length from zNl _),Nat.ble_eq_true_of_le (show b.length + Lib.count b [34] * ([34,34]:List UInt8).length <= 140737488355328 by simp only [zLc,zLn];omega),Nat.ble_eq_true_of_le (show (esc b).length <= 4294967296 by omega)]
 rfl
def znq (v:Val):List UInt8 :=
 if v.kind=1 then (if v.n=0 then [70,65,76,83,69] else [84,82,85,69])
 else if v.kind=4 then [78,85,76,76]
 else if v.kind=2 then Lib.itoa v.n
 else if v.kind=5 then 39 :: (zlR v.b ++ [39,72])
 else if v.kind=6 then 34 :: (esc v.b ++ [34])
 else []
theorem zkv {v:Val} (h0:-9223372036854775808 <= v.n) (h1:v.n <= 9223372036854775807) (hb:v.b.length <= 70000):(znq v).length + 200 <= 150000:=by
 have:=zo7 h0 h1
 have:=zoJ v.b
 have:=zl1 v.b
 unfold znq
 split
 ·split <;> decide
 ·split
  ·decide
  ·split
   ·omega
   ·split
    ·rw [zLc,zLa];simp only [zLc,zLn];omega
    ·split
     ·rw [zLc,zLa];simp only [zLc,zLn];omega
     ·decide
theorem zzx {v:Val} (h0:-9223372036854775808 <= v.n) (h1:v.n <= 9223372036854775807) (hb:v.b.length <= 70000) (hk:v.kind ≠ 3):zgm v=some ⟨znq v⟩:=by
 have hel:=zl1 v.b
 refine T.eqs ?_
 unfold zgm znq
 refine T.br (λh=>?_) λh=>?_
 ·rw [if_pos (zOT h)]
  refine T.br (λh=>?_) λh=>?_
  ·rw [if_neg (show ¬ v.n=0 by simpa using h)];exact T.some rfl
  ·rw [if_pos (show v.n=0 by simpa using h)];exact T.some rfl
 rw [if_neg (zOF h)]
 refine T.br (λh=>?_) λh=>?_
 ·rw [if_pos (zOT h)];exact T.some rfl
 rw [if_neg (zOF h)]
 refine T.br (λh=>?_) λh=>?_
 ·rw [if_pos (zOT h)];exact T.eq (zAz h0 h1) (T.some rfl)
 rw [if_neg (zOF h)]
 refine T.br (λh=>absurd (zOT h) hk) λ_=>T.br (λh=>?_) λh=>?_
 ·rw [if_pos (zOT h)];exact T.eq (zzE v.b (by omega)) (T.some rfl)
 rw [if_neg (zOF h)]
 refine T.br (λh=>?_) λh=>?_
 ·rw [if_pos (zOT h)]
  refine T.eq (zyo v.b (by omega)) (T.abl ?_ (T.abl ?_ (T.some rfl)))
  ·simp only [zLc,zLn];omega
  ·simp only [zLa,zLc,zLn];omega
 rw [if_neg (zOF h)]
 exact T.some rfl
def zim:List (List UInt8)->List UInt8
 | []=>[]
 | [p]=>p
 | p :: q :: r=>p ++ 44 :: 32 :: zim (q :: r)
theorem zoG:∀ (ps:List (List UInt8)) (p:List UInt8),zim (ps ++ [p])=if ps=[] then p else zim ps ++ 44 :: 32 :: p
 | [],p=>rfl
 | [q],p=>rfl
 | q :: r :: s,p=>by
  rw [if_neg (by simp)]
  have:=zoG (r :: s) p
  rw [if_neg (by simp)] at this
  show q ++ 44 :: 32 :: zim (r :: s ++ [p])=(q ++ 44 :: 32 :: zim (r :: s)) ++ 44 :: 32 :: p
  rw [this,zLA];rfl
theorem zmY:∀ ps:List (List UInt8),(zim ps).length <= (ps.map λp=>p.length + 2).sum
 | []=>zNl _
 | [p]=>by simp [zim]
 | p :: q :: r=>by
  have:=zmY (q :: r)
  show (p ++ 44 :: 32 :: zim (q :: r)).length <= _
  rw [zLa,zLc,zLc,List.map_cons,List.sum_cons];omega
def brc (ps:List (List UInt8)):List UInt8:=if ps=[] then [123,125] else 123 :: 32 :: (zim ps ++ [32,125])
theorem zub (ps:List (List UInt8)):(brc ps).length <= (ps.map λp=>p.length + 2).sum + 4:=by
 have:=zmY ps
 unfold brc
 split
 ·simp only [zLc,zLn];omega
 ·simp only [zLc,zLa,zLn];omega
def zol (x:zg) (n:Int):List UInt8:=match x.items.find? (λit=>decide (it.number=n)) with
 | some it=>it.name.b
 | none=>[]
def parts (f:Int->Val->List UInt8):List zaC->List Val->List (List UInt8)
 | y :: fs,w :: ws=>if w.kind=0 then parts f fs ws else (y.name.b ++ 32 :: f y.ty w) :: parts f fs ws
 | _,_=>[]
theorem znX (f:Int->Val->List UInt8) (y:zaC) (w:Val):∀ (fs:List zaC) (ws:List Val),fs.length=ws.length->parts f (fs ++ [y]) (ws ++ [w])=if w.kind=0 then parts f fs ws else parts f fs ws ++ [y.name.b ++ 32 :: f y.ty w]
 | [],[],_=>by
  show (if w.kind=0 then _ else _)=_
  rfl
 | z :: fs,[],h=>by simp at h
 | [],z :: ws,h=>by simp at h
 | z :: fs,u :: ws,h=>by
  have:=znX f y w fs ws (by simpa using h)
  show (if u.kind=0 then parts f (fs ++ [y]) (ws ++ [w]) else _ :: parts f (fs ++ [y]) (ws ++ [w]))=if w.kind=0 then (if u.kind=0 then parts f fs ws else _ :: parts f fs ws) else _
  rw [this]
  by_cases hu:u.kind=0
  ·rw [if_pos hu,if_pos hu]
   show _=if w.kind=0 then _ else (if u.kind=0 then parts f fs ws else _) ++ _
   rw [if_pos hu]
  ·rw [if_neg hu,if_neg hu]
   show _=if w.kind=0 then _ else (if u.kind=0 then parts f fs ws else _) ++ _
   rw [if_neg hu]
   split <;> rfl
def zv7 (f:Int->Val->List UInt8) (x:zg) (v:Val):List UInt8 :=
 if x.kind=3 then zol x v.n
 else if x.kind=10 then brc (v.l.map (f x.of))
 else if x.kind=9 then (match x.fields[v.n.toNat]?,v.l with
  | some y,w :: _=>y.name.b ++ 32 :: 58 :: 32 :: f y.ty w
  | _,_=>[])
 else if x.kind=7 \/ x.kind=8 then brc (parts f x.fields v.l)
 else znq v
def txt:Nat->List zg->Int->Val->List UInt8
 | 0,_,_,_=>[]
 | h + 1,l,i,v=>match l[i.toNat]? with
  | none=>[]
  | some x=>zv7 (txt h l) x v
theorem ztt {h:Nat} {l:List zg} {i:Int} {x:zg} (hx:l[i.toNat]?=some x) (v:Val):txt (h + 1) l i v=zv7 (txt h l) x v:=by
 show (match l[i.toNat]? with | none=>_ | some x=>_)=_
 rw [hx]
structure NmB (l:List zg):Prop where
 len:l.length <= 1000
 fl:∀ x ∈ l,x.fields.length <= 1000
 il:∀ x ∈ l,x.items.length <= 100000
 fn:∀ x ∈ l,∀ f ∈ x.fields,f.name.b.length <= 90
 inm:∀ x ∈ l,∀ it ∈ x.items,it.name.b.length <= 90
inductive zhv:Val->Prop
 | mk {v:Val}:-9223372036854775808 <= v.n->v.n <= 9223372036854775807->(∀ w ∈ v.l,zhv w)->zhv v
theorem zhv.lo {v:Val} (h:zhv v):-9223372036854775808 <= v.n:=by cases h;assumption
theorem zhv.hi {v:Val} (h:zhv v):v.n <= 9223372036854775807:=by cases h;assumption
theorem zhv.kid {v:Val} (h:zhv v):∀ w ∈ v.l,zhv w:=by cases h;assumption
theorem zjG {v:Val} (h:bare v=true):v.kind ≠ 12/\v.more=[]/\∀ w ∈ v.l,bare w=true:=by
 rw [ziI,zBa] at h
 obtain ⟨h1,h2⟩:=h
 have h1:(decide (v.kind=12) || decide (0 < v.more.length))=false:=by simpa using h1
 rw [Bool.or_eq_false_iff] at h1
 refine ⟨zOF h1.1,?_,λw hw=>?_⟩
 ·have:=zOF h1.2
  exact List.length_eq_zero_iff.1 (by omega)
 ·exact List.all_eq_true.1 h2 _ (List.mem_map.2 ⟨w,hw,rfl⟩)
theorem zp7 {v:Val} {n l m:Bool} (h:pln v n false l m=true):v.b=[]:=by
 unfold pln at h
 simp only [zBa] at h
 have h:=h.1.1.2
 rw [Bool.false_or] at h
 have:=zOT h
 exact List.length_eq_zero_iff.1 (by omega)
theorem zk7 {x:zg} {n:Int} (h:∃ it ∈ x.items,it.number=n):∃ it,x.items.find? (λit=>decide (it.number=n))=some it/\it ∈ x.items/\it.number=n:=by
 obtain ⟨it,h1,h2⟩:=h
 cases hf:x.items.find? (λit=>decide (it.number=n)) with
 | none =>
  have:=List.find?_eq_none.1 hf it h1
  exact absurd (zDT h2) this
 | some y =>
  have h3:=List.find?_some hf
  exact ⟨y,rfl,List.mem_of_find?_eq_some hf,zOT h3⟩
theorem ztS {n:Int} {it:zag}:∀ {l:List zag} {k:Nat},l[k]?=some it->it.number=n->(∀ j y,j < k->l[j]?=some y->y.number ≠ n)->l.find? (λit=>decide (it.number=n))=some it
 | [],k,h,_,_=>by simp at h
 | y :: l,0,h,hn,_=>by
  simp at h;subst h
  rw [List.find?_cons,zDT hn]
 | y :: l,k + 1,h,hn,hj=>by
  have h0:=hj 0 y (Nat.succ_pos _) rfl
  rw [List.find?_cons,zDF h0]
  dsimp only
  exact ztS (k:=k) (by simpa using h) hn λj z hjk hz=>hj (j + 1) z (by omega) (by simpa using hz)
theorem zwC (x:zg) (n:Int) (hl:x.items.length <= 1000000) (hi:∃ it ∈ x.items,it.number=n):T (λr=>∃ it,zs x.items r=some it/\x.items.find? (λit=>decide (it.number=n))=some it) (zdk x n):=by
 obtain ⟨it,h1,h2,h3⟩:=zk7 hi
 unfold zdk
 refine T.cal (Q:=λr=>∃ it,zs x.items r=some it/\x.items.find? (λit=>decide (it.number=n))=some it) ?_ λy _ hy=>T.some hy
 unfold zaM
 refine T.lp (ι:=Int) (λq=>0 <= q/\q <= (x.items.length:Int)/\∀ (j:Nat) y,(j:Int) < q->x.items[j]?=some y->y.number ≠ n) (λq=>((x.items.length:Int) - q).toNat) ⟨zIl _,by omega,λj y h=>by omega⟩ (by omega) λJ q ⟨q0,q1,q2⟩ hJ=>T.br (λhb=>?_) λhb=>?_
 ·have hb:=zOT hb
  refine T.get q0 hb λy hy=>T.eq (y:=decide (y.number=n)) ?_ (T.br (λh=>T.some ?_) λh=>T.ck (by omega) (hJ _ ⟨by omega,by omega,λj z hj hz=>?_⟩ (by omega)))
  ·unfold zfV
   rfl
  ·refine ⟨y,by rw [zcH q0 hb];exact congrArg some (List.getElem?_eq_some_iff.1 hy).2,ztS hy (zOT h) λj z hj hz=>q2 j z (by omega) hz⟩
  ·rcases Int.lt_or_le (j:Int) q with h5 | h5
   ·exact q2 j z h5 hz
   ·have:j=q.toNat:=by omega
    subst this
    rw [hy] at hz;cases hz
    exact zOF h
 ·have hb:=zOF hb
  obtain ⟨k,hk,e⟩:=List.mem_iff_getElem.1 h2
  exact absurd h3 (q2 k it (by omega) (by rw [List.getElem?_eq_getElem hk,e]))

/-! ### How long it is -/
theorem zsK {α:Type} {f g:α->Nat}:∀ {l:List α},(∀ x ∈ l,f x <= g x)->(l.map f).sum <= (l.map g).sum
 | [],_=>zNl _
 | x :: l,h=>by
  have:=zsK (f:=f) (g:=g) (l:=l) λy hy=>h y (zMm _ hy)
  have:=h x zMs
  simp only [List.map_cons,List.sum_cons];omega
theorem zqI {α:Type} {f:α->Nat} {c:Nat}:∀ {l:List α},(l.map λx=>c * f x).sum=c * (l.map f).sum
 | []=>by simp
 | x :: l=>by
  have:=zqI (f:=f) (c:=c) (l:=l)
  simp only [List.map_cons,List.sum_cons]
  rw [this,Nat.mul_add]
theorem zm0 {f:Int->Val->List UInt8}:∀ {fs:List zaC} {ws:List Val},(∀ y ∈ fs,y.name.b.length <= 90)->fs.length=ws.length->(∀ (k:Nat) y w,fs[k]?=some y->ws[k]?=some w->w.kind ≠ 0->(f y.ty w).length + 200 <= 150000 * cnt w)->((parts f fs ws).map λp=>p.length + 2).sum <= 150000 * (ws.map cnt).sum
 | [],[],_,_,_=>zNz _
 | z :: fs,[],_,h,_=>by simp at h
 | [],z :: ws,_,h,_=>by simp at h
 | z :: fs,u :: ws,hn,h,hk=>by
  have ih:=zm0 (f:=f) (fs:=fs) (ws:=ws) (λy hy=>hn y (zMm _ hy)) (by simpa using h) λk y w h1 h2=>hk (k + 1) y w (by simpa using h1) (by simpa using h2)
  rw [List.map_cons,List.sum_cons,Nat.mul_add]
  show ((if u.kind=0 then parts f fs ws else (z.name.b ++ 32 :: f z.ty u) :: parts f fs ws).map λp=>p.length + 2).sum <= _
  split
  ·omega
  ·rename_i hu
   have:=hk 0 z u rfl rfl hu
   have:=hn z zMs
   rw [List.map_cons,List.sum_cons]
   simp only [zLa,zLc]
   omega
theorem znJ {t:zab} (hB:NmB t.types):∀ {h:Nat} {i:Int} {v:Val},Fit t h i v->bare v=true->zhv v->(txt h t.types i v).length + 200 <= 150000 * cnt v:=by
 intro h
 induction h with
 | zero=>intro i v hf;exact hf.elim
 | succ h ih =>
  intro i v hf hb hI
  obtain ⟨i0,x,hx,hfk⟩:=hf
  obtain ⟨k12,hm,hkb⟩:=zjG hb
  obtain ⟨hkk,hfk⟩:=hfk.resolve_left k12
  have hxm:=List.mem_of_getElem? hx
  have hcp:=zeA v
  have hcq:=zgZ v
  rw [ztt hx]
  unfold zv7
  rcases hfk with ⟨k,h1,h2⟩ | ⟨k,h1,h2⟩ | ⟨k,h1,h2⟩ | ⟨k,h1⟩ | ⟨k,h1,h2,h3,h4⟩ | ⟨k,h1,h2,h3⟩ | ⟨k,h1,h2,f,w,h3,h4,h5⟩ | ⟨k,h1,h2,h3,h4,h5⟩
  ·rw [if_neg (by omega),if_neg (by omega),if_neg (by omega),if_neg (by omega)]
   have:=zkv hI.lo hI.hi (by rw [zp7 h1];decide)
   omega
  ·rw [if_neg (by omega),if_neg (by omega),if_neg (by omega),if_neg (by omega)]
   have:=zkv hI.lo hI.hi (by rw [zp7 h1];decide)
   omega
  ·rw [if_pos k]
   obtain ⟨it,e1,e2,e3⟩:=zk7 h2
   unfold zol
   rw [e1]
   have:=hB.inm x hxm it e2
   dsimp only
   omega
  ·rw [if_neg (by omega),if_neg (by omega),if_neg (by omega),if_neg (by omega)]
   have:=zkv hI.lo hI.hi (by rw [zp7 h1];decide)
   omega
  ·rw [if_neg (by omega),if_neg (by omega),if_neg (by omega),if_neg (by omega)]
   have:=zkv hI.lo hI.hi (by omega)
   omega
  ·rw [if_neg (by omega),if_pos k]
   have h6:=zub (v.l.map (txt h t.types x.of))
   have h7:((v.l.map (txt h t.types x.of)).map λp=>p.length + 2).sum <= (v.l.map λw=>150000 * cnt w).sum:=by
    rw [List.map_map]
    exact zsK λw hw=>by
     have:=ih (h3 w hw) (hkb w hw) (hI.kid w hw)
     show (txt h t.types x.of w).length + 2 <= _
     omega
   rw [zqI] at h7
   rw [hcq,Nat.mul_add];omega
  ·rw [if_neg (by omega),if_neg (by omega),if_pos k,h3,h4]
   dsimp only
   have hw:w ∈ v.l:=by rw [h4];exact zMo.2 rfl
   have:=ih h5 (hkb w hw) (hI.kid w hw)
   have:=hB.fn x hxm f (List.mem_of_getElem? h3)
   have hc:cnt w + 1 <= cnt v:=zdq hw
   simp only [zLa,zLc]
   omega
  ·rw [if_neg (by omega),if_neg (by omega),if_neg (by omega),if_pos k]
   have h6:=zub (parts (txt h t.types) x.fields v.l)
   have h7:=zm0 (f:=txt h t.types) (hB.fn x hxm) h3.symm λj y w h8 h9 h10=>by
    rcases h4 j y w h8 h9 with ⟨z,_⟩ | ⟨_,z,_⟩
    ·exact absurd z h10
    ·exact ih z (hkb w (List.mem_of_getElem? h9)) (hI.kid w (List.mem_of_getElem? h9))
   rw [hcq,Nat.mul_add];omega

/-! ### The code prints it -/
theorem zpm (n:Nat):zaP (n + 1)=zdD (zaX n) (zaP n) (zbc n) (zaL n) (zaW n):=rfl
theorem zs9 (n:Nat):zaX (n + 1)=zcW (zaX n) (zaP n) (zbc n) (zaL n) (zaW n):=rfl
theorem zoR (n:Nat):zaW (n + 1)=zco (zaX n) (zaP n) (zbc n) (zaL n) (zaW n):=rfl
theorem zvo (n:Nat):zbc (n + 1)=zde (zaX n) (zaP n) (zbc n) (zaL n) (zaW n):=rfl
theorem zsJ (n:Nat):zaL (n + 1)=zcX (zaX n) (zaP n) (zbc n) (zaL n) (zaW n):=rfl
def zdo (ps:List (List UInt8)):List UInt8:=if ps=[] then [] else 123 :: 32 :: zim ps
theorem zpR (ps:List (List UInt8)) (p:List UInt8):zdo (ps ++ [p])=(if ps=[] then [123,32] else zdo ps ++ [44,32]) ++ p:=by
 unfold zdo
 rw [if_neg (by simp),zoG]
 by_cases h:ps=[]
 ·rw [if_pos h,if_pos h];rfl
 ·rw [if_neg h,if_neg h,if_neg h]
  show 123 :: 32 :: (zim ps ++ 44 :: 32 :: p)=(123 :: 32 :: zim ps ++ [44,32]) ++ p
  simp
theorem zrs (ps:List (List UInt8)):brc ps=if ps=[] then [123,125] else zdo ps ++ [32,125]:=by
 unfold brc zdo
 split
 ·rfl
 ·simp
theorem zsy (ps:List (List UInt8)):(zdo ps).length <= (ps.map λp=>p.length + 2).sum + 2:=by
 have:=zmY ps
 unfold zdo
 split
 ·exact zNz _
 ·simp only [zLc];omega
theorem prP {t:zab} (hB:NmB t.types):∀ {h n:Nat} {i:Int} {v:Val} {b:List UInt8},3 * h + 3 <= n->Fit t h i v->bare v=true->zhv v->zcA v->cnt v <= 100000->b.length + 150000 * cnt v <= 60000000000->zaP n ⟨t,b⟩ i v=some ⟨t,b ++ txt h t.types i v⟩:=by
 intro h
 induction h with
 | zero=>intro n i v b _ hf;exact hf.elim
 | succ h ih =>
  intro n i v b hn hf hb hI hF hC hL
  have hlen:=znJ hB hf hb hI
  obtain ⟨n,rfl⟩:∃ n',n=n' + 3:=⟨n - 3,by omega⟩
  obtain ⟨i0,x,hx,hfk⟩:=hf
  obtain ⟨k12,hm,hkb⟩:=zjG hb
  obtain ⟨hkk,hfk⟩:=hfk.resolve_left k12
  have hxm:=List.mem_of_getElem? hx
  have hlt:=(List.getElem?_eq_some_iff.1 hx).1
  have hfl:=hB.fl x hxm
  have hil:=hB.il x hxm
  have hvl:=hF.l
  have hcl:=zym v
  have eg:zs t.types i=some x:=by rw [zcH i0 (by omega)];exact congrArg some (List.getElem?_eq_some_iff.1 hx).2
  rw [ztt hx] at hlen ⊢
  refine T.eqs ?_
  rw [zpm]
  unfold zdD
  refine T.eq eg ?_
  unfold zv7 at hlen ⊢
  have leaf:(x.kind=1 \/ x.kind=2 \/ x.kind=4 \/ x.kind=5 \/ x.kind=6)->v.b.length <= 70000->T (λr=>r=⟨t,b ++ znq v⟩) (jp (ι:=Bool) (λJ20=>br (decide (x.kind=(7:Int))) (J20 ((decide (x.kind=(7:Int))))) (J20 ((decide (x.kind=(8:Int)))))) (λq19=>br q19 (cal (zaL (n + 2) ⟨t,b⟩ (v.l.length:Int) v x) λy21=>some (y21)) (cal (zgm v) λy23=>cal (zay ⟨t,b⟩ ([y23]:(List Str))) λy25=>some (y25)))):=λhk hbl=>by
   have hll:=zkv hI.lo hI.hi hbl
   refine T.jp (λq=>q=false) (λJ k=>T.br (λh=>absurd (zOT h) (by omega)) λ_=>k _ (zDF (by omega))) λq hq=>?_
   subst hq
   refine T.br (λh=>by cases h) λ_=>T.eq (zzx hI.lo hI.hi hbl (by omega)) (T.eq (zpk _ _ ?_) (T.some rfl))
   have:=zeA v
   dsimp only
   omega
  rcases hfk with ⟨k,h1,h2⟩ | ⟨k,h1,h2⟩ | ⟨k,h1,h2⟩ | ⟨k,h1⟩ | ⟨k,h1,h2,h3,h4⟩ | ⟨k,h1,h2,h3⟩ | ⟨k,h1,h2,f,w,h3,h4,h5⟩ | ⟨k,h1,h2,h3,h4,h5⟩
  ·rw [if_neg (by omega),if_neg (by omega),if_neg (by omega),if_neg (by omega)]
   exact T.br (λh=>absurd (zOT h) (by omega)) λ_=>T.br (λh=>absurd (zOT h) (by omega)) λ_=>T.br (λh=>absurd (zOT h) (by omega)) λ_=>leaf (.inl k) (by rw [zp7 h1];decide)
  ·rw [if_neg (by omega),if_neg (by omega),if_neg (by omega),if_neg (by omega)]
   exact T.br (λh=>absurd (zOT h) (by omega)) λ_=>T.br (λh=>absurd (zOT h) (by omega)) λ_=>T.br (λh=>absurd (zOT h) (by omega)) λ_=>leaf (.inr (.inl k)) (by rw [zp7 h1];decide)
  ·rw [if_pos k]
   rw [if_pos k] at hlen
   refine T.br (λ_=>T.cal (zwC x v.n (by omega) h2) λr _ ⟨it,z1,z2⟩=>T.eq z1 (T.eq (zpk _ _ ?_) (T.some ?_))) λh=>absurd k (zOF h)
   ·unfold zol at hlen
    rw [z2] at hlen
    dsimp only at hlen ⊢
    omega
   ·unfold zol;rw [z2]
  ·rw [if_neg (by omega),if_neg (by omega),if_neg (by omega),if_neg (by omega)]
   exact T.br (λh=>absurd (zOT h) (by omega)) λ_=>T.br (λh=>absurd (zOT h) (by omega)) λ_=>T.br (λh=>absurd (zOT h) (by omega)) λ_=>leaf (.inr (.inr (.inl k))) (by rw [zp7 h1];decide)
  ·rw [if_neg (by omega),if_neg (by omega),if_neg (by omega),if_neg (by omega)]
   exact T.br (λh=>absurd (zOT h) (by omega)) λ_=>T.br (λh=>absurd (zOT h) (by omega)) λ_=>T.br (λh=>absurd (zOT h) (by omega)) λ_=>leaf (by omega) (by omega)
  ·rw [if_neg (by omega),if_pos k]
   rw [if_neg (by omega),if_pos k] at hlen
   refine T.br (λh=>absurd (zOT h) (by omega)) λ_=>T.br (λ_=>?_) λh=>absurd k (zOF h)
   refine T.eq (y:=⟨t,b ++ brc (v.l.map (txt h t.types x.of))⟩) ?_ (T.some rfl)
   refine T.eqs ?_
   rw [zvo]
   unfold zde
   have hsum:∀ j:Nat,(((v.l.take j).map (txt h t.types x.of)).map λp=>p.length + 2).sum <= 150000 * ((v.l.take j).map cnt).sum:=λj=>by
    rw [<- zqI,List.map_map]
    exact zsK λw hw=>by
     have hw:=List.mem_of_mem_take hw
     have:=znJ hB (h3 w hw) (hkb w hw) (hI.kid w hw)
     show (txt h t.types x.of w).length + 2 <= _
     omega
   have hcv:=zgZ v
   have htake:∀ j:Nat,((v.l.take j).map cnt).sum <= (v.l.map cnt).sum:=λj=>by
    have:=congrArg (λl=>(l.map cnt).sum) (List.take_append_drop j v.l)
    simp only [List.map_append,List.sum_append] at this
    omega
   refine T.lp (ι:=Bool × Int × zah) (λq=>∃ j:Int,0 <= j/\j <= (v.l.length:Int)/\q=(decide ((v.l.take j.toNat)=[]),j,⟨t,b ++ zdo ((v.l.take j.toNat).map (txt h t.types x.of))⟩)) (λq=>((v.l.length:Int) - q.2.1).toNat) ⟨0,zIl _,by omega,by simp [zdo]⟩ (by dsimp only;omega) λJ q ⟨j,q0,q1,eq⟩ hJ=>?_
   subst eq
   dsimp only at hJ ⊢
   have hol:=zsy ((v.l.take j.toNat).map (txt h t.types x.of))
   have hs:=hsum j.toNat
   have ht:=htake j.toNat
   rw [hcv,Nat.mul_add] at hL
   refine T.br (λhj=>?_) λhj=>?_
   ·have hj:=zOT hj
    obtain ⟨w,hw⟩:∃ w,v.l[j.toNat]?=some w:=⟨_,List.getElem?_eq_getElem (by omega)⟩
    have hwm:=List.mem_of_getElem? hw
    have hwc:cnt w <= (v.l.map cnt).sum:=znR (f:=cnt) hwm
    have egw:zs v.l j=some w:=by rw [zcH q0 hj];exact congrArg some (List.getElem?_eq_some_iff.1 hw).2
    have etk:v.l.take (j + 1).toNat=v.l.take j.toNat ++ [w]:=by
     rw [show (j + 1).toNat=j.toNat + 1 by omega,List.take_add_one,hw];rfl
    have hcs:((v.l.take j.toNat).map cnt).sum + cnt w <= (v.l.map cnt).sum:=by
     have:=htake (j + 1).toNat
     rw [etk] at this
     simpa using this
    refine T.jp (λq=>q=(false,⟨t,b ++ zdo ((v.l.take (j + 1).toNat).map (txt h t.types x.of))⟩)) (λJ19 k19=>?_) λq hq=>?_
    ·refine T.jp (λg=>g=(⟨t,(b ++ (if v.l.take j.toNat=[] then [123,32] else zdo ((v.l.take j.toNat).map (txt h t.types x.of)) ++ [44,32]))⟩:zah)) (λJ21 k21=>T.br (λhe=>?_) λhe=>?_) λg hg=>?_
     ·have he:=zOT he
      refine T.eq (zpk _ _ (by dsimp only;rw [zLa];simp only [zLc,zLn];omega)) (k21 _ ?_)
      rw [if_pos he,he]
      simp [zdo]
     ·have he:=zOF he
      refine T.eq (zpk _ _ (by dsimp only;rw [zLa];simp only [zLc,zLn];omega)) (k21 _ ?_)
      rw [if_neg he]
      simp
     ·subst hg
      refine T.eq (y:=(true,⟨t,b ++ zdo ((v.l.take (j + 1).toNat).map (txt h t.types x.of))⟩)) ?_ (T.br (λ_=>k19 _ rfl) λh=>by cases h)
      refine T.eqs ?_
      rw [zs9]
      unfold zcW
      have hpre:(if v.l.take j.toNat=[] then ([123,32]:List UInt8) else zdo ((v.l.take j.toNat).map (txt h t.types x.of)) ++ [44,32]).length <= (zdo ((v.l.take j.toNat).map (txt h t.types x.of))).length + 2:=by
       split
       ·simp
       ·simp
      refine T.eq egw (T.eq (ih (by omega) (h3 w hwm) (hkb w hwm) (hI.kid w hwm) (hF.kid w hwm) (by have:=zdq hwm;omega) (by rw [zLa];omega)) (T.some ?_))
      have hif:(if (v.l.take j.toNat).map (txt h t.types x.of)=[] then ([123,32]:List UInt8) else zdo ((v.l.take j.toNat).map (txt h t.types x.of)) ++ [44,32])=if v.l.take j.toNat=[] then [123,32] else zdo ((v.l.take j.toNat).map (txt h t.types x.of)) ++ [44,32]:=by
       by_cases he:v.l.take j.toNat=[]
       ·rw [if_pos he,if_pos (by rw [he];rfl)]
       ·rw [if_neg he,if_neg (by simpa using he)]
      rw [etk,List.map_append,List.map_singleton,zpR,hif,zLA]
    ·subst hq
     refine T.ck (by omega) (hJ _ ⟨j + 1,by omega,by omega,?_⟩ (by dsimp only;omega))
     rw [zDF (show ¬ v.l.take (j + 1).toNat=[] by rw [etk];simp)]
   ·have hj:=zOF hj
    have et:v.l.take j.toNat=v.l:=zTl (by omega)
    rw [et] at hol hs ⊢
    rw [zrs]
    refine T.br (λhe=>?_) λhe=>?_
    ·have he:=zOT he
     rw [he]
     refine T.eq (zpk _ _ (by simp [zdo];omega)) (T.some ?_)
     simp [zdo]
    ·have he:=zOF he
     rw [if_neg (by simpa using he)]
     refine T.eq (zpk _ _ (by dsimp only;rw [zLa];simp only [zLc,zLn];omega)) (T.some ?_)
     rw [zLA]
  ·rw [if_neg (by omega),if_neg (by omega),if_pos k,h3,h4]
   dsimp only
   have hw:w ∈ v.l:=by rw [h4];exact zMo.2 rfl
   have hwl:=znJ hB h5 (hkb w hw) (hI.kid w hw)
   have hnm:=hB.fn x hxm f (List.mem_of_getElem? h3)
   have hc:cnt w + 1 <= cnt v:=zdq hw
   have hlt2:=(List.getElem?_eq_some_iff.1 h3).1
   refine T.br (λh=>absurd (zOT h) (by omega)) λ_=>T.br (λh=>absurd (zOT h) (by omega)) λ_=>T.br (λ_=>?_) λh=>absurd k (zOF h)
   refine T.eq (y:=f) (by rw [zcH h2 (by omega)];exact congrArg some (List.getElem?_eq_some_iff.1 h3).2) (T.eq (put2 _ _ _ (by simp only [zLc,zLn];omega)) (T.eq (y:=w) (by first | rfl | (rw [h4];rfl)) ?_))
   refine T.eq (ih (by omega) h5 (hkb w hw) (hI.kid w hw) (hF.kid w hw) (by omega) (by dsimp only;simp only [zLa,zLc,zLn];omega)) (T.some ?_)
   simp
  ·rw [if_neg (by omega),if_neg (by omega),if_neg (by omega),if_pos k]
   rw [if_neg (by omega),if_neg (by omega),if_neg (by omega),if_pos k] at hlen
   refine T.br (λh=>absurd (zOT h) (by omega)) λ_=>T.br (λh=>absurd (zOT h) (by omega)) λ_=>T.br (λh=>absurd (zOT h) (by omega)) λ_=>?_
   refine T.jp (λb=>b=true) (λJ2 k2=>T.br (λh=>k2 _ h) λh=>k2 _ (zDT (k.resolve_left (zOF h)))) λb78 hb78=>?_
   subst hb78
   refine T.br (λ_=>?_) λh=>by cases h
   refine T.eq (y:=⟨t,b ++ brc (parts (txt h t.types) x.fields v.l)⟩) ?_ (T.some rfl)
   refine T.eqs ?_
   rw [zsJ]
   unfold zcX
   have hcv:=zgZ v
   have htake:∀ j:Nat,((v.l.take j).map cnt).sum <= (v.l.map cnt).sum:=λj=>by
    have:=congrArg (λl=>(l.map cnt).sum) (List.take_append_drop j v.l)
    simp only [List.map_append,List.sum_append] at this
    omega
   have hpart:∀ j:Nat,((parts (txt h t.types) (x.fields.take j) (v.l.take j)).map λp=>p.length + 2).sum <= 150000 * ((v.l.take j).map cnt).sum:=λj =>
    zm0 (f:=txt h t.types) (λy hy=>hB.fn x hxm y (List.mem_of_mem_take hy)) (by rw [zLt,zLt,h3]) λm y w h8 h9 h10=>by
     have e8:x.fields[m]?=some y:=by
      rw [List.getElem?_take] at h8
      split at h8
      ·exact h8
      ·cases h8
     have e9:v.l[m]?=some w:=by
      rw [List.getElem?_take] at h9
      split at h9
      ·exact h9
      ·cases h9
     rcases h4 m y w e8 e9 with ⟨z,_⟩ | ⟨_,z,_⟩
     ·exact absurd z h10
     ·exact znJ hB z (hkb w (List.mem_of_getElem? e9)) (hI.kid w (List.mem_of_getElem? e9))
   refine T.lp (ι:=Bool × Int × zah) (λq=>∃ j:Int,0 <= j/\j <= (v.l.length:Int)/\q=(decide (parts (txt h t.types) (x.fields.take j.toNat) (v.l.take j.toNat)=[]),j,⟨t,b ++ zdo (parts (txt h t.types) (x.fields.take j.toNat) (v.l.take j.toNat))⟩)) (λq=>((v.l.length:Int) - q.2.1).toNat) ⟨0,zIl _,by omega,by simp [zdo,parts]⟩ (by dsimp only;omega) λJ q ⟨j,q0,q1,eq⟩ hJ=>?_
   subst eq
   dsimp only at hJ ⊢
   have hol:=zsy (parts (txt h t.types) (x.fields.take j.toNat) (v.l.take j.toNat))
   have hs:=hpart j.toNat
   have htj:=htake j.toNat
   rw [hcv,Nat.mul_add] at hL
   refine T.br (λhj=>?_) λhj=>?_
   ·have hj:=zOT hj
    obtain ⟨w,hw⟩:∃ w,v.l[j.toNat]?=some w:=⟨_,List.getElem?_eq_getElem (by omega)⟩
    obtain ⟨y,hy⟩:∃ y,x.fields[j.toNat]?=some y:=⟨_,List.getElem?_eq_getElem (by omega)⟩
    have hwm:=List.mem_of_getElem? hw
    have hwc:cnt w <= (v.l.map cnt).sum:=znR (f:=cnt) hwm
    have egw:zs v.l j=some w:=by rw [zcH q0 hj];exact congrArg some (List.getElem?_eq_some_iff.1 hw).2
    have egy:zs x.fields j=some y:=by rw [zcH q0 (by omega)];exact congrArg some (List.getElem?_eq_some_iff.1 hy).2
    have hyn:=hB.fn x hxm y (List.mem_of_getElem? hy)
    have ej:(j + 1).toNat=j.toNat + 1:=by omega
    have etk:v.l.take (j + 1).toNat=v.l.take j.toNat ++ [w]:=by rw [ej,List.take_add_one,hw];rfl
    have etf:x.fields.take (j + 1).toNat=x.fields.take j.toNat ++ [y]:=by rw [ej,List.take_add_one,hy];rfl
    have hcs:((v.l.take j.toNat).map cnt).sum + cnt w <= (v.l.map cnt).sum:=by
     have:=htake (j + 1).toNat
     rw [etk] at this
     simpa using this
    have hsn:=znX (txt h t.types) y w (x.fields.take j.toNat) (v.l.take j.toNat) (by rw [zLt,zLt,h3])
    rw [<- etk,<- etf] at hsn
    generalize parts (txt h t.types) (x.fields.take j.toNat) (v.l.take j.toNat)=ps at hsn hol hs ⊢
    refine T.jp (λq=>q=(decide (parts (txt h t.types) (x.fields.take (j + 1).toNat) (v.l.take (j + 1).toNat)=[]),⟨t,b ++ zdo (parts (txt h t.types) (x.fields.take (j + 1).toNat) (v.l.take (j + 1).toNat))⟩)) (λJ19 k19=>?_) λq hq=>?_
    ·refine T.jp (λg=>g=(⟨t,(b ++ (if ps=[] then [123,32] else zdo ps ++ [44,32]))⟩:zah)) (λJ21 k21=>T.br (λhe=>?_) λhe=>?_) λg hg=>?_
     ·have he:=zOT he
      refine T.eq (zpk _ _ (by dsimp only;rw [zLa];simp only [zLc,zLn];omega)) (k21 _ ?_)
      rw [if_pos he,he]
      simp [zdo]
     ·have he:=zOF he
      refine T.eq (zpk _ _ (by dsimp only;rw [zLa];simp only [zLc,zLn];omega)) (k21 _ ?_)
      rw [if_neg he]
      simp
     ·subst hg
      have hpre:(if ps=[] then ([123,32]:List UInt8) else zdo ps ++ [44,32]).length <= (zdo ps).length + 2:=by
       split
       ·simp
       ·simp
      rcases h4 j.toNat y w hy hw with ⟨z1,z2,_⟩ | ⟨z1,z2,_⟩
      ·rw [if_pos z1] at hsn
       refine T.eq (y:=(false,(⟨t,(b ++ (if ps=[] then [123,32] else zdo ps ++ [44,32]))⟩:zah))) ?_ (T.br (λh=>by cases h) λ_=>T.asd ?_ (k19 _ ?_))
       ·refine T.eqs ?_
        rw [zoR]
        unfold zco
        refine T.eq egw (T.eq (zhR w) (T.br (λ_=>T.some rfl) λh=>?_))
        rw [zl4.2 z2] at h
        cases h
       ·dsimp only
        simp only [zLa]
        have:(zdo ps).length <= (if ps=[] then ([123,32]:List UInt8) else zdo ps ++ [44,32]).length:=by
         split
         ·rename_i he;rw [he];simp [zdo]
         ·simp
        omega
       ·rw [hsn]
        congr 2
        rw [Int.toNat_natCast,zLa]
        by_cases he:ps=[]
        ·rw [if_pos he,he]
         simp [zdo]
        ·rw [if_neg he,<- zLA]
         show List.take (b.length + (zdo ps).length) (b ++ zdo ps ++ [44,32])=_
         rw [<- zLa,List.take_left]
      ·rw [if_neg z1] at hsn
       refine T.eq (y:=(true,⟨t,b ++ zdo (parts (txt h t.types) (x.fields.take (j + 1).toNat) (v.l.take (j + 1).toNat))⟩)) ?_ (T.br (λ_=>k19 _ ?_) λh=>by cases h)
       ·refine T.eqs ?_
        rw [zoR]
        unfold zco
        refine T.eq egw (T.eq (zhR w) (T.br (λh=>?_) λ_=>?_))
        ·rw [zDF z1] at h;cases h
        refine T.eq egy (T.eq (put2 _ _ _ (by dsimp only;simp only [zLa,zLc,zLn];omega)) (T.eq egy (T.eq egw (T.eq (ih (by omega) z2 (hkb w hwm) (hI.kid w hwm) (hF.kid w hwm) (by have:=zdq hwm;omega) (by dsimp only;simp only [zLa,zLc,zLn];omega)) (T.some ?_)))))
        rw [hsn,zpR]
        congr 2
        simp only [zLA]
        rfl
       ·rw [hsn,zDF (by simp)]
    ·subst hq
     exact T.ck (by omega) (hJ _ ⟨j + 1,by omega,by omega,rfl⟩ (by dsimp only;omega))
   ·have hj:=zOF hj
    have et:v.l.take j.toNat=v.l:=zTl (by omega)
    have et2:x.fields.take j.toNat=x.fields:=zTl (by omega)
    rw [et,et2] at hol
    rw [et] at hs
    rw [et2] at hs
    rw [et,et2,zrs]
    refine T.br (λhe=>?_) λhe=>?_
    ·have he:=zOT he
     rw [he]
     refine T.eq (zpk _ _ (by simp [zdo];omega)) (T.some ?_)
     simp [zdo]
    ·have he:=zOF he
     rw [if_neg he]
     refine T.eq (zpk _ _ (by dsimp only;rw [zLa];simp only [zLc,zLn];omega)) (T.some ?_)
     rw [zLA]
theorem zgM {a b m:UInt64} (h:(a ||| b) &&& m=0):a &&& m=0/\b &&& m=0:=by
 have h1:=congrArg UInt64.toNat h
 rw [UInt64.toNat_and,UInt64.toNat_or] at h1
 have h2:=(Lib.or_mask a.toNat b.toNat m.toNat).1 h1
 refine ⟨UInt64.toNat_inj.1 ?_,UInt64.toNat_inj.1 ?_⟩
 ·rw [UInt64.toNat_and];exact h2.1
 ·rw [UInt64.toNat_and];exact h2.2
theorem byte0:∀ X:Fin 256,((UInt8.ofNat X.val).toUInt64 &&& 9259542123273814144)=0->X.val < 128:=by decide +kernel
theorem byteK:∀ k ∈ [8,16,24,32,40,48,56],∀ X:Fin 256,(zex (UInt8.ofNat X.val).toUInt64 k &&& 9259542123273814144)=0->X.val < 128:=by decide +kernel
theorem zAY {y:UInt8} (h:(y.toUInt64 &&& 9259542123273814144)=0):y.toNat < 128:=by
 have:=byte0 ⟨y.toNat,y.toNat_lt⟩
 rw [UInt8.ofNat_toNat] at this
 exact this h
theorem zlH {y:UInt8} {k:Nat} (hk:k ∈ [8,16,24,32,40,48,56]) (h:(zex y.toUInt64 k &&& 9259542123273814144)=0):y.toNat < 128:=by
 have:=byteK k hk ⟨y.toNat,y.toNat_lt⟩
 rw [UInt8.ofNat_toNat] at this
 exact this h
def zsi (l:List UInt8) (k:Nat):Prop:=∀ b ∈ l.take k,b.toNat < 128
theorem zsi.add {l:List UInt8} {a c:Nat} (h1:zsi l a) (h2:zsi (l.drop a) c):zsi l (a + c):=λb hb=>by
 rw [List.take_add] at hb
 rcases List.mem_append.1 hb with hb | hb
 ·exact h1 b hb
 ·exact h2 b hb
theorem zlW (l:List UInt8) (h:8 <= l.length):T (λ(w:UInt64)=>w &&& 9259542123273814144=0->zsi l 8) (zbv l):=by
 unfold zbv
 refine T.get (by omega) (by omega) λy1 h1=>T.get (by omega) (by omega) λy2 h2=>T.abl (by decide) (T.get (by omega) (by omega) λy3 h3=>T.abl (by decide) (T.get (by omega) (by omega) λy4 h4=>T.abl (by decide) (T.get (by omega) (by omega) λy5 h5=>T.abl (by decide) (T.get (by omega) (by omega) λy6 h6=>T.abl (by decide) (T.get (by omega) (by omega) λy7 h7=>T.abl (by decide) (T.get (by omega) (by omega) λy8 h8=>T.abl (by decide) (T.some ?_)))))))
 intro hm b hb
 obtain ⟨hm,k8⟩:=zgM hm
 obtain ⟨hm,k7⟩:=zgM hm
 obtain ⟨hm,k6⟩:=zgM hm
 obtain ⟨hm,k5⟩:=zgM hm
 obtain ⟨hm,k4⟩:=zgM hm
 obtain ⟨hm,k3⟩:=zgM hm
 obtain ⟨k1,k2⟩:=zgM hm
 have z1:=zAY k1
 have z2:=zlH (k:=8) (by decide) k2
 have z3:=zlH (k:=16) (by decide) k3
 have z4:=zlH (k:=24) (by decide) k4
 have z5:=zlH (k:=32) (by decide) k5
 have z6:=zlH (k:=40) (by decide) k6
 have z7:=zlH (k:=48) (by decide) k7
 have z8:=zlH (k:=56) (by decide) k8
 obtain ⟨i,hi⟩:=List.mem_iff_getElem?.1 hb
 rw [List.getElem?_take] at hi
 have g:∀ y:UInt8,l[i]?=some y->y.toNat < 128->i < 8->b.toNat < 128:=λy e h9 hi8=>by
  rw [if_pos hi8,e] at hi;cases hi;exact h9
 match i,hi,g with
 | 0,hi,g=>exact g _ h1 z1 (by omega)
 | 1,hi,g=>exact g _ h2 z2 (by omega)
 | 2,hi,g=>exact g _ h3 z3 (by omega)
 | 3,hi,g=>exact g _ h4 z4 (by omega)
 | 4,hi,g=>exact g _ h5 z5 (by omega)
 | 5,hi,g=>exact g _ h6 z6 (by omega)
 | 6,hi,g=>exact g _ h7 z7 (by omega)
 | 7,hi,g=>exact g _ h8 z8 (by omega)
 | n + 8,hi,g=>rw [if_neg (by omega)] at hi;cases hi

theorem zhu {β:Type} {R':β->Prop} {q:List UInt8} {i:Int} {Pp:Prop} {R:Nat->Prop} {c:Bool} (hc:c=true ↔ Pp) (hi:0 <= i) (hn:¬ Pp->i < q.length) {K:Bool->Option β} {f:UInt8->Bool}
    (hf:∀ y:UInt8,f y=true ↔ R y.toNat) (k:∀ c':Bool,(c'=true ↔ Pp \/ R (q.getD i.toNat 0).toNat)->T R' (K c')):T R' (jp (ι:=Bool) (λJ=>br c (J true) (cal (zs q i) λy=>J (f y))) K):=by
  refine T.jp0 ?_
  refine T.br (λh=>k _ ⟨λ_=>.inl (hc.1 h),λ_=>rfl⟩) λh=>?_
  have hp:¬ Pp:=λe=>by rw [hc.2 e] at h;cases h
  refine T.get hi (hn hp) λy hy=>k _ ?_
  have e:q.getD i.toNat 0=y:=by rw [List.getD_eq_getElem?_getD,hy];rfl
  rw [e,hf]
  exact ⟨.inr,λh=>h.resolve_left hp⟩
theorem zrw (l:List UInt8):l.take ((l.length:Int)).toNat=l:=by rw [Int.toNat_natCast,List.take_length]
theorem f7 (y:UInt8):((zfI y) &&& (7:UInt8)).toNat=Lib.firstT y.toNat % 8:=by
 rw [UInt8.toNat_and,zn3];exact Nat.and_two_pow_sub_one_eq_mod _ 3
theorem f16 (y:UInt8):(zfn (zfI y) (4:UInt64).toNat).toNat=Lib.firstT y.toNat / 16:=by
 have h:∀ X:Fin 256,(zfn (UInt8.ofNat X.val) (4:UInt64).toNat).toNat=X.val / 16:=by decide +kernel
 have:=h ⟨(zfI y).toNat,(zfI y).toNat_lt⟩
 rw [UInt8.ofNat_toNat] at this
 rw [this];show (zfI y).toNat / 16=_;rw [zn3]
theorem zn7:∀ X:Fin 256,Lib.firstT X.val / 16 < 16/\Lib.accLo (Lib.firstT X.val / 16) < 256/\Lib.accHi (Lib.firstT X.val / 16) < 256:=by decide +kernel
theorem zBj (y:UInt8):(zh1 (zfn (zfI y) (4:UInt64).toNat)).lo.toNat=Lib.accLo (Lib.firstT y.toNat / 16):=by
 unfold zh1
 rw [f16]
 have:=(zn7 ⟨y.toNat,y.toNat_lt⟩).2.1
 rw [UInt8.toNat_ofNat'];exact Nat.mod_eq_of_lt this
theorem zBJ (y:UInt8):(zh1 (zfn (zfI y) (4:UInt64).toNat)).hi.toNat=Lib.accHi (Lib.firstT y.toNat / 16):=by
 unfold zh1
 rw [f16]
 have:=(zn7 ⟨y.toNat,y.toNat_lt⟩).2.2
 rw [UInt8.toNat_ofNat'];exact Nat.mod_eq_of_lt this

theorem zlx (b : List UInt8) (hl : b.length <= 1000000) : zcy b=some (Lib.validD b):=by
  refine tx ?_
  unfold zcy
  refine T.asd ⟨by omega,by omega⟩ (T.lp (λ(q:List UInt8)=>q.length <= 1000000/\Lib.validD q=Lib.validD b) (λq=>q.length) ⟨by rw [zrw];exact hl,by rw [zrw]⟩ (by rw [zrw];omega) λL q ⟨q1,q2⟩ hL=>?_)
  simp only [zrw]
  refine T.br (λh0=>?_) λh0=>T.some ?_
  rotate_left
  · have h0:=zOF h0
    have:q=[]:=List.length_eq_zero_iff.1 (by omega)
    rw [<- q2,this];rfl
  have h0:=zOT h0
  refine T.get (by omega) h0 λy hy=>T.br (λha=>?_) λha=>?_
  · have ha : y.toNat < 128 := UInt8.lt_iff_toNat_lt.1 (zOT ha)
    have hq:q=y :: q.drop 1:=zgH (b:=q) (n:=0) hy
    have v1 : Lib.validD (q.drop 1) = Lib.validD b := by rw [<- q2];conv=>rhs;rw [hq]
                                                         rw [Lib.validD_cons _ _ ha]
    have l1:(q.drop 1).length=q.length - 1:=zLd
    refine T.asd ⟨by omega,by omega,by omega⟩ ?_
    show T _ (Sy.jp (λJ102=>br (decide ((8:Int) < ((q.drop 1).length:Int))) _ _) _)
    generalize hP:q.drop 1=P at *
    have hP':q.drop (1:Int).toNat=P:=hP
    simp only [hP']
    refine T.jp (λc=>c=true->8 < P.length/\zsi P 8) (λJ k=>T.br (λh8=>?_) λ_=>k _ (λe=>by cases e)) λc hc=>?_
    · have h8:=zOT h8
      exact T.cal (zlW P (by omega)) λw _ hw=>k _ λe=>⟨by omega,hw (zOT e)⟩
    refine T.jp (λ(r:List UInt8)=>r.length < q.length/\Lib.validD r=Lib.validD b) (λJ k=>T.br (λh=>?_) λh=>k _ ⟨by omega,v1⟩) λr hr=>hL r ⟨by omega,hr.2⟩ hr.1
    obtain ⟨h8,a8⟩:=hc h
    refine T.asd ⟨by omega,by omega,by omega⟩ ?_
    have v9:Lib.validD (P.drop 8)=Lib.validD b:=by rw [<- v1];exact (Lib.validD_ascii 8 P a8).symm
    have l9:(P.drop 8).length=P.length - 8:=zLd
    generalize hM:P.drop 8=M at *
    have hM':P.drop (8:Int).toNat=M:=hM
    simp only [hM']
    refine T.jp (λc=>c=true->16 < M.length/\zsi M 16) (λJ k=>T.br (λh8=>?_) λ_=>k _ (λe=>by cases e)) λc hc=>?_
    · have h8:=zOT h8
      refine T.asd ⟨by omega,by omega,by omega⟩ (T.cal (zlW M (by omega)) λw1 _ hw1=>T.cal (zlW (M.drop (8:Int).toNat) (by rw [zLd];simp only [Int.reduceToNat];omega)) λw2 _ hw2=>k _ λe=>⟨by omega,?_⟩)
      obtain ⟨e1,e2⟩:=zgM (zOT e)
      exact (hw1 e1).add (c:=8) (hw2 e2)
    refine T.br (λh=>?_) λh=>k _ ⟨by omega,v9⟩
    obtain ⟨h16,a16⟩:=hc h
    have v25:Lib.validD (M.drop 16)=Lib.validD b:=by rw [<- v9];exact (Lib.validD_ascii 16 M a16).symm
    have l25:(M.drop 16).length=M.length - 16:=zLd
    refine T.asd ⟨by omega,by omega,by omega⟩ (T.lp (λ(u:List UInt8)=>u.length < M.length/\Lib.validD u=Lib.validD b) (λu=>u.length) ⟨by show (M.drop 16).length < _;omega,v25⟩ (by show (M.drop 16).length < _;omega) λL2 u ⟨u1,u2⟩ hL2=>?_)
    refine T.jp (λc=>c=true->32 < u.length/\zsi u 32) (λJ k=>T.br (λh8=>?_) λ_=>k _ (λe=>by cases e)) λc hc=>?_
    · have h8:=zOT h8
      refine T.asd ⟨by omega,by omega,by omega⟩ (T.asd ⟨by omega,by omega,by omega⟩ (T.asd ⟨by omega,by omega,by omega⟩ ?_))
      refine T.cal (zlW u (by omega)) λw1 _ hw1=>T.cal (zlW (u.drop (8:Int).toNat) (by rw [zLd];simp only [Int.reduceToNat];omega)) λw2 _ hw2=>T.cal (zlW (u.drop (16:Int).toNat) (by rw [zLd];simp only [Int.reduceToNat];omega)) λw3 _ hw3=>T.cal (zlW (u.drop (24:Int).toNat) (by rw [zLd];simp only [Int.reduceToNat];omega)) λw4 _ hw4=>k _ λe=>⟨by omega,?_⟩
      obtain ⟨e12,e34⟩:=zgM (zOT e)
      obtain ⟨e1,e2⟩:=zgM e12
      obtain ⟨e3,e4⟩:=zgM e34
      exact (((hw1 e1).add (c:=8) (hw2 e2)).add (c:=8) (hw3 e3)).add (c:=8) (hw4 e4)
    refine T.br (λh=>?_) λh=>k _ ⟨by omega,u2⟩
    obtain ⟨h32,a32⟩:=hc h
    have v57:Lib.validD (u.drop 32)=Lib.validD b:=by rw [<- u2];exact (Lib.validD_ascii 32 u a32).symm
    have l57:(u.drop 32).length=u.length - 32:=zLd
    exact T.asd ⟨by omega,by omega,by omega⟩ (hL2 _ ⟨by show (u.drop 32).length < _;omega,v57⟩ (by show (u.drop 32).length < _;omega))
  · have hge:128 <= y.toNat:=by
      have:=zOF ha
      rw [UInt8.lt_iff_toNat_lt] at this
      have e:(128:UInt8).toNat=128:=rfl
      omega
    have hy0:q.getD 0 0=y:=by rw [List.getD_eq_getElem?_getD,show q[0]?=some y from hy];rfl
    have hlead:=Lib.validD_lead q (λe=>by subst e;simp at h0) (by rw [hy0];exact hge)
    rw [hy0,q2] at hlead
    have e16:=f16 y
    have l16:=(zn7 ⟨y.toNat,y.toNat_lt⟩).1
    have eL:=zBj y
    have eH:=zBJ y
    rw [f7]
    generalize hA:zh1 (zfn (zfI y) (4:UInt64).toNat)=A at *
    rw [<- eL,<- eH] at hlead
    have hlo:∀ z:UInt8,decide (z < A.lo)=true ↔ z.toNat < A.lo.toNat:=λz=>by rw [decide_eq_true_eq,UInt8.lt_iff_toNat_lt]
    have hhi:∀ z:UInt8,decide (A.hi < z)=true ↔ A.hi.toNat < z.toNat:=λz=>by rw [decide_eq_true_eq,UInt8.lt_iff_toNat_lt]
    have h128:∀ z:UInt8,decide (z < (128:UInt8))=true ↔ z.toNat < 128:=λz=>by rw [decide_eq_true_eq,UInt8.lt_iff_toNat_lt];rfl
    have h191:∀ z:UInt8,decide ((191:UInt8) < z)=true ↔ 191 < z.toNat:=λz=>by rw [decide_eq_true_eq,UInt8.lt_iff_toNat_lt];rfl
    refine T.abl (by decide) (T.asr (by rw [e16,Nat.blt_eq];omega) ?_)
    refine T.br (λs2=>?_) λs2=>T.br (λs3=>?_) λs3=>T.br (λs4=>?_) λs4=>T.some ?_
    · have s2:Lib.firstT y.toNat % 8=2:=by have:=zOT s2;omega
      rw [s2] at hlead
      refine zhu (Pp:=q.length < 2) (R:=λn=>n < A.lo.toNat) (by rw [decide_eq_true_eq];omega) (by omega) (λh=>by omega) hlo λc1 h1=>?_
      refine zhu (R:=λn=>A.hi.toNat < n) h1 (by omega) (λh=>by omega) hhi λc2 h2=>?_
      refine T.br (λh=>T.some ?_) λh=>?_
      · have:=h2.1 h
        rw [hlead]
        unfold Lib.checkN
        rw [if_pos rfl,if_pos (by simpa [or_assoc] using this)]
      · have:¬ _:=λe=>by rw [h2.2 e] at h;cases h
        have h3:¬ (q.length < 2 \/ (q.getD 1 0).toNat < A.lo.toNat \/ A.hi.toNat < (q.getD 1 0).toNat):=λe=>this (by simpa [or_assoc] using e)
        unfold Lib.checkN at hlead
        rw [if_pos rfl,if_neg h3] at hlead
        have hd:(q.drop 2).length=q.length - 2:=zLd
        exact T.asd ⟨by omega,by omega,by omega⟩ (hL _ ⟨by show (q.drop 2).length <= _;omega,hlead.symm⟩ (by show (q.drop 2).length < _;omega))
    · have s3:Lib.firstT y.toNat % 8=3:=by have:=zOT s3;omega
      rw [s3] at hlead
      refine zhu (Pp:=q.length < 3) (R:=λn=>n < A.lo.toNat) (by rw [decide_eq_true_eq];omega) (by omega) (λh=>by omega) hlo λc1 h1=>?_
      refine zhu (R:=λn=>A.hi.toNat < n) h1 (by omega) (λh=>by omega) hhi λc2 h2=>?_
      refine zhu (R:=λn=>n < 128) h2 (by omega) (λh=>by omega) h128 λc3 h3=>?_
      refine zhu (R:=λn=>191 < n) h3 (by omega) (λh=>by omega) h191 λc4 h4=>?_
      refine T.br (λh=>T.some ?_) λh=>?_
      · have:=h4.1 h
        rw [hlead]
        unfold Lib.checkN
        rw [if_neg (by decide),if_pos rfl,if_pos (by simpa [or_assoc] using this)]
      · have:¬ _:=λe=>by rw [h4.2 e] at h;cases h
        have h5:¬ (q.length < 3 \/ (q.getD 1 0).toNat < A.lo.toNat \/ A.hi.toNat < (q.getD 1 0).toNat \/ (q.getD 2 0).toNat < 128 \/ 191 < (q.getD 2 0).toNat):=λe=>this (by simpa [or_assoc] using e)
        unfold Lib.checkN at hlead
        rw [if_neg (by decide),if_pos rfl,if_neg h5] at hlead
        have hd:(q.drop 3).length=q.length - 3:=zLd
        exact T.asd ⟨by omega,by omega,by omega⟩ (hL _ ⟨by show (q.drop 3).length <= _;omega,hlead.symm⟩ (by show (q.drop 3).length < _;omega))
    · have s4:Lib.firstT y.toNat % 8=4:=by have:=zOT s4;omega
      rw [s4] at hlead
      refine zhu (Pp:=q.length < 4) (R:=λn=>n < A.lo.toNat) (by rw [decide_eq_true_eq];omega) (by omega) (λh=>by omega) hlo λc1 h1=>?_
      refine zhu (R:=λn=>A.hi.toNat < n) h1 (by omega) (λh=>by omega) hhi λc2 h2=>?_
      refine zhu (R:=λn=>n < 128) h2 (by omega) (λh=>by omega) h128 λc3 h3=>?_
      refine zhu (R:=λn=>191 < n) h3 (by omega) (λh=>by omega) h191 λc4 h4=>?_
      refine zhu (R:=λn=>n < 128) h4 (by omega) (λh=>by omega) h128 λc5 h5=>?_
      refine zhu (R:=λn=>191 < n) h5 (by omega) (λh=>by omega) h191 λc6 h6=>?_
      refine T.br (λh=>T.some ?_) λh=>?_
      · have:=h6.1 h
        rw [hlead]
        unfold Lib.checkN
        rw [if_neg (by decide),if_neg (by decide),if_pos rfl,if_pos (by simpa [or_assoc] using this)]
      · have:¬ _:=λe=>by rw [h6.2 e] at h;cases h
        have h7:¬ (q.length < 4 \/ (q.getD 1 0).toNat < A.lo.toNat \/ A.hi.toNat < (q.getD 1 0).toNat \/ (q.getD 2 0).toNat < 128 \/ 191 < (q.getD 2 0).toNat \/ (q.getD 3 0).toNat < 128 \/ 191 < (q.getD 3 0).toNat):=λe=>this (by simpa [or_assoc] using e)
        unfold Lib.checkN at hlead
        rw [if_neg (by decide),if_neg (by decide),if_pos rfl,if_neg h7] at hlead
        have hd:(q.drop 4).length=q.length - 4:=zLd
        exact T.asd ⟨by omega,by omega,by omega⟩ (hL _ ⟨by show (q.drop 4).length <= _;omega,hlead.symm⟩ (by show (q.drop 4).length < _;omega))
    · rw [hlead]
      unfold Lib.checkN
      have s2:=zOF s2
      have s3:=zOF s3
      have s4:=zOF s4
      rw [if_neg (by omega),if_neg (by omega),if_neg (by omega)]
theorem zjQ (q:zaa) (k:Int) (h0:0 <= q.reader.at_ + k) (h1:q.reader.at_ + k <= 2000000) (hl:q.reader.s.b.length <= 1000000):zaj q k=some (hd (q.reader.s.b.drop (q.reader.at_ + k).toNat),q):=by
 refine tx ?_
 unfold zaj
 refine T.ck ⟨by omega,by omega⟩ (T.br (λh=>T.some ?_) λh=>T.ck ⟨by omega,by omega⟩ (T.get h0 (by have:=zOF h;omega) λy hy=>T.some ?_))
 ·have:=zOT h
  rw [zDn (by omega)];rfl
 ·rw [zgH hy];rfl
theorem zAN (a p:Str):zbZ a p=some (ze4 p.b a.b):=by
 refine tx ?_
 unfold zbZ
 refine T.jp (λb=>b=ze4 p.b a.b) (λJ h=>T.br (λh3=>?_) λh3=>h _ ?_) λb hb=>T.some hb
 ·have h3:=zOT h3
  refine T.asd ⟨zIl _,by omega,h3⟩ (h _ ?_)
  rw [Bool.eq_iff_iff,decide_eq_true_eq,zg4]
  constructor
  ·intro h5
   refine ⟨by omega,?_⟩
   have:=congrArg Str.b h5
   simpa using this
  ·intro h5
   obtain ⟨yb⟩:=p
   simp only [Str.mk.injEq]
   simpa using h5.2
 ·have h3:=zOF h3
  symm
  rw [Bool.eq_false_iff]
  intro h5
  have:=(zg4 _ _).1 h5
  omega
theorem zoM (q:zaa) (t:Str) (h0:0 <= q.reader.at_) (h1:q.reader.at_ <= q.reader.s.b.length):zci q t=some (ze4 t.b (q.reader.s.b.drop q.reader.at_.toNat),q):=by
 refine tx ?_
 unfold zci zfa
 refine T.asd ⟨h0,h1,zIl _⟩ (T.cal (Q:=λb=>b=ze4 t.b (q.reader.s.b.drop q.reader.at_.toNat)) (T.eq (zAN _ _) (T.some ?_)) λb _ hb=>T.some (by rw [hb]))
 rw [zrw]
theorem zw9 (a c:UInt8) (d:List UInt8) (ha:a ≠ 0) (hc:c ≠ 0):ze4 [a,c] d=(decide (hd d=a) && decide (hd (d.drop 1)=c)):=by
 match d with
 | []=>simp [ze4,hd,ha.symm]
 | [x]=>simp [ze4,hd,hc.symm]
 | x :: y :: r =>
  have e1:decide (x=a)=decide (a=x):=decide_eq_decide.2 eq_comm
  have e2:decide (y=c)=decide (c=y):=decide_eq_decide.2 eq_comm
  show (bif decide (a=x) then (bif decide (c=y) then true else false) else false)=(decide (x=a) && decide (y=c))
  rw [e1,e2]
  cases decide (a=x) <;> cases decide (c=y) <;> rfl
theorem clet (c:UInt8):zf6 c=some (zaF c):=by
 refine tx ?_
 unfold zf6 zaF
 refine T.jp (λq=>q=(decide (97 <= c) && decide (c <= 122))) (λJ h=>T.br (λh2=>h _ (by rw [h2];rfl)) λh2=>h _ (by rw [h2];rfl)) λq hq=>?_
 refine T.jp (λq'=>q'=(q || (decide (65 <= c) && decide (c <= 90)))) (λJ h=>T.br (λh2=>h _ (by rw [h2];rfl)) λh2=>?_) λq' hq'=>T.some (by rw [hq',hq])
 refine T.jp (λq'=>q'=(decide (65 <= c) && decide (c <= 90))) (λJ2 h3=>T.br (λh4=>h3 _ (by rw [h4];rfl)) λh4=>h3 _ (by rw [h4];rfl)) λq' hq'=>h _ (by rw [h2,hq'];rfl)
theorem zxl (c:UInt8):zfF c=some (zaq c):=by
 refine tx ?_
 unfold zfF zaq
 refine T.jp (λq=>q=(decide (48 <= c) && decide (c <= 57))) (λJ h=>T.br (λh2=>h _ (by rw [h2];rfl)) λh2=>h _ (by rw [h2];rfl)) λq hq=>T.some hq

/-! ### White -/
theorem zsY (c:UInt8) (r:List UInt8) (h:c=10):wh .ins (c :: r)=wh .out (c :: r):=by
 subst h;simp [wh,zm3]
theorem zzb (x:zaa) (h0:0 <= x.reader.at_) (h1:x.reader.at_ <= x.reader.s.b.length) (hl:x.reader.s.b.length <= 1000000) :
    T (λr=>r.reader.s=x.reader.s/\r.reader.at_=(x.reader.s.b.length:Int) - ((wh .out (x.reader.s.b.drop x.reader.at_.toNat)).length:Int)) (zdM x):=by
  obtain ⟨⟨s,i⟩⟩:=x
  simp only at h0 h1 hl ⊢
  unfold zdM
  refine T.lp (ι:=zaa) (λq=>q.reader.s=s/\0 <= q.reader.at_/\q.reader.at_ <= s.b.length/\wh .out (s.b.drop q.reader.at_.toNat)=wh .out (s.b.drop i.toNat)) (λq=>(s.b.length - q.reader.at_).toNat) ⟨rfl,h0,h1,rfl⟩ (by dsimp only;omega) λL q hq hL=>?_
  obtain ⟨⟨s',k⟩⟩:=q
  obtain ⟨es,k1,k2,k3⟩:=hq
  simp only at es k1 k2 k3
  subst es
  rw [<- k3] at hL ⊢
  simp only at hL ⊢
  refine T.br (λhb=>?_) (λhb=>T.some ⟨rfl,?_⟩)
  rotate_left
  · have hb:=zOF hb
    show k=_
    rw [zDn (by omega)]
    simp only [wh,zLn];omega
  have hb:=zOT hb
  obtain ⟨y,hy⟩:∃ y,s'.b[k.toNat]?=some y:=⟨_,List.getElem?_eq_getElem (by omega)⟩
  have e:=zgH hy
  have e1:(k + 1).toNat=k.toNat + 1:=by omega
  have hpk:zaj (zaa.mk (zch.mk s' k)) 0=some (y,zaa.mk (zch.mk s' k)):=by
    rw [zjQ _ _ (by show 0 <= k + 0;omega) (by show k + 0 <= _;omega) hl]
    show some (hd (s'.b.drop (k + 0).toNat),_)=_
    rw [Int.add_zero,e];rfl
  refine T.eq hpk ?_
  simp only
  refine T.jp (λq=>q=(decide (y=32) || decide (y=9))) (λJ h=>T.br (λh2=>h _ (by rw [h2];rfl)) λh2=>h _ (by rw [h2];rfl)) λq hq=>?_
  refine T.jp (λq'=>q'=(q || decide (y=10))) (λJ h=>T.br (λh2=>h _ (by rw [h2];rfl)) λh2=>h _ (by rw [h2];rfl)) λq' hq'=>?_
  refine T.jp (λq2=>q2=(q' || decide (y=13))) (λJ h=>T.br (λh2=>h _ (by rw [h2];rfl)) λh2=>h _ (by rw [h2];rfl)) λq2 hq2=>?_
  have hw:q2=zm3 y:=by rw [hq2,hq',hq];rfl
  refine T.br (λh2=>T.ck (by omega) (hL _ ⟨rfl,by dsimp only;omega,by dsimp only;omega,?_⟩ (by dsimp only;omega))) λh2=>?_
  · dsimp only
    rw [e1,e];simp only [wh,<- hw,h2,zCt]
  have had:∀ j:Int,0 <= j->j <= s'.b.length->zci (zaa.mk (zch.mk s' j)) (Str.mk [45,45])=some (decide (hd (s'.b.drop j.toNat)=45) && decide (hd (s'.b.drop (j.toNat + 1))=45),zaa.mk (zch.mk s' j)):=λj j0 j1=>by
    rw [zoM _ _ j0 j1]
    show some (ze4 [45,45] (s'.b.drop j.toNat),_)=_
    rw [zw9 45 45 _ (by decide) (by decide),List.drop_drop]
  refine T.eq (had k k1 k2) ?_
  have hdy:hd (s'.b.drop k.toNat)=y:=by rw [e];rfl
  simp only [hdy]
  generalize hq3:(decide (y=45) && decide (hd (s'.b.drop (k.toNat + 1))=45))=q3
  refine T.br (λh3=>T.ck (by omega) ?_) (λh3=>T.some ⟨rfl,?_⟩)
  rotate_left
  · show k=_
    rw [e];simp only [wh,<- hw,h2,zCf,hq3,h3,zLc,zLd];omega
  have h45:hd (s'.b.drop (k.toNat + 1))=45:=by rw [<- hq3] at h3;simpa using (Bool.and_eq_true_iff.1 h3).2
  have hlt:=zp2 h45
  obtain ⟨c,ec⟩:=ziG hlt
  have e2:(k + 2).toNat=k.toNat + 1 + 1:=by omega
  have hins:wh .out (s'.b.drop k.toNat)=wh .ins (s'.b.drop (k + 2).toNat):=by
    rw [e,e2];simp only [wh,<- hw,h2,zCf,hq3,h3,zCt];rw [ec];simp only [wh]
  refine T.lp (ι:=zaa) (λq=>q.reader.s=s'/\k + 2 <= q.reader.at_/\q.reader.at_ <= s'.b.length/\wh .out (s'.b.drop k.toNat)=wh .ins (s'.b.drop q.reader.at_.toNat)) (λq=>(s'.b.length - q.reader.at_).toNat) ⟨rfl,zIl _,by dsimp only;omega,hins⟩ (by dsimp only;omega) λL2 q hq hL2=>?_
  obtain ⟨⟨s2,j⟩⟩:=q
  obtain ⟨es,j1,j2,j3⟩:=hq
  simp only at es j1 j2 j3 hL2
  subst es
  have hpj:zaj (zaa.mk (zch.mk s2 j)) 0=some (hd (s2.b.drop j.toNat),zaa.mk (zch.mk s2 j)):=by
    rw [zjQ _ _ (by show 0 <= j + 0;omega) (by show j + 0 <= _;omega) hl]
    show some (hd (s2.b.drop (j + 0).toNat),_)=_
    rw [Int.add_zero]
  refine T.jp (ι:=Bool × zaa) (λp=>p.2=zaa.mk (zch.mk s2 j)/\(p.1=true->j < s2.b.length/\hd (s2.b.drop j.toNat) ≠ 10/\(decide (hd (s2.b.drop j.toNat)=45) && decide (hd (s2.b.drop (j.toNat + 1))=45))=false)/\(p.1=false->s2.b.length <= j \/ hd (s2.b.drop j.toNat)=10 \/ (decide (hd (s2.b.drop j.toNat)=45) && decide (hd (s2.b.drop (j.toNat + 1))=45))=true)) (λJ h=>?_) λp hp=>?_
  · refine T.jp (ι:=Bool × zaa) (λp=>p.2=zaa.mk (zch.mk s2 j)/\(p.1=true->j < s2.b.length/\hd (s2.b.drop j.toNat) ≠ 10)/\(p.1=false->s2.b.length <= j \/ hd (s2.b.drop j.toNat)=10)) (λJ2 g=>T.br (λh4=>T.eq hpj (g _ ⟨rfl,λh5=>⟨zOT h4,by simpa using h5⟩,λh5=>.inr (by simpa using h5)⟩)) λh4=>g _ ⟨rfl,(λh5=>by cases h5),λ_=>.inl (by have:=zOF h4;dsimp only at this;omega)⟩) λp hp=>?_
    obtain ⟨pb,pl⟩:=p
    obtain ⟨p1,p2,p3⟩:=hp
    simp only at p1 p2 p3
    subst p1
    refine T.jp (ι:=Bool × zaa) (λp=>p.2=zaa.mk (zch.mk s2 j)/\(p.1=true->j < s2.b.length/\hd (s2.b.drop j.toNat) ≠ 10/\(decide (hd (s2.b.drop j.toNat)=45) && decide (hd (s2.b.drop (j.toNat + 1))=45))=false)/\(p.1=false->s2.b.length <= j \/ hd (s2.b.drop j.toNat)=10 \/ (decide (hd (s2.b.drop j.toNat)=45) && decide (hd (s2.b.drop (j.toNat + 1))=45))=true)) (λJ3 g=>T.br (λh4=>T.eq (had j (by omega) j2) (g _ ⟨rfl,λh5=>⟨(p2 h4).1,(p2 h4).2,(Bool.not_eq_true' _).mp h5⟩,λh5=>.inr (.inr ((Bool.not_eq_false' _).mp h5))⟩)) λh4=>g _ ⟨rfl,(λh5=>by cases h5),λ_=>(p3 h4).elim .inl λz=>.inr (.inl z)⟩) λp hp=>h _ hp
  obtain ⟨pb,pl⟩:=p
  obtain ⟨p1,p2,p3⟩:=hp
  simp only at p1 p2 p3
  subst p1
  have f1:(j + 1).toNat=j.toNat + 1:=by omega
  have f2:(j + 2).toNat=j.toNat + 1 + 1:=by omega
  refine T.br (λh5=>T.ck (by dsimp only;have:=p2 h5;omega) (hL2 _ ⟨rfl,by dsimp only;omega,by dsimp only;have:=p2 h5;omega,?_⟩ (by dsimp only;have:=p2 h5;omega))) λh5=>T.eq (had j (by omega) j2) ?_
  · obtain ⟨z1,z2,z3⟩:=p2 h5
    obtain ⟨y2,hy2⟩:∃ y,s2.b[j.toNat]?=some y:=⟨_,List.getElem?_eq_getElem (by omega)⟩
    have f:=zgH hy2
    have hdy2:hd (s2.b.drop j.toNat)=y2:=by rw [f];rfl
    rw [hdy2] at z2 z3
    dsimp only
    rw [j3,f,f1];simp only [wh,zDF z2,zCf,z3]
  refine T.br (λh6=>T.ck (by dsimp only;omega) (hL _ ⟨rfl,by dsimp only;omega,?_,?_⟩ ?_)) λh6=>hL _ ⟨rfl,by dsimp only;omega,j2,?_⟩ (by dsimp only;omega)
  · simp only at h6 ⊢
    have:=zp2 (by simpa using (Bool.and_eq_true_iff.1 h6).2)
    omega
  · simp only at h6 ⊢
    have h46:hd (s2.b.drop (j.toNat + 1))=45:=by simpa using (Bool.and_eq_true_iff.1 h6).2
    have h40:hd (s2.b.drop j.toNat)=45:=by simpa using (Bool.and_eq_true_iff.1 h6).1
    have hlt2:=zp2 h46
    obtain ⟨c2,ec2⟩:=ziG hlt2
    obtain ⟨c3,ec3⟩:=ziG (b:=s2.b) (n:=j.toNat) (by omega)
    have hc3:c3=45:=by rw [ec3] at h40;exact h40
    rw [j3,f2,ec3];subst hc3
    simp only [wh,h46,decide_true,Bool.and_self,zCt]
    rw [ec2];rfl
  · simp only at h6 ⊢
    have:=zp2 (by simpa using (Bool.and_eq_true_iff.1 h6).2)
    omega
  · simp only at h6 ⊢
    rw [j3]
    rcases p3 h5 with z | z | z
    · rw [zDn (by omega)];rfl
    · rcases Nat.lt_or_ge j.toNat s2.b.length with z2 | z2
      · obtain ⟨c3,ec3⟩:=ziG z2
        have hc3:c3=10:=by rw [ec3] at z;exact z
        rw [ec3,zsY _ _ hc3]
      · rw [zDn z2];rfl
    · rw [h6] at z;cases z

/-! ### Words -/
def zoT {β:Type} (s:Str) (J:Bool->Option β):List Str->Option β
 | []=>J false
 | [w]=>J (decide (s=w))
 | w :: r=>br (decide (s=w)) (J (decide (s=w))) (zoT s J r)
theorem zss (s w:Str):decide (s=w)=zlD w.b s.b:=by
 rw [Bool.eq_iff_iff,decide_eq_true_eq,zk9]
 constructor
 ·intro h;rw [h]
 ·intro h;cases s;cases w;simp only at h;rw [h]
theorem zpJ {β:Type} (s:Str) (J:Bool->Option β):∀ l,zoT s J l=J (l.any λw=>zlD w.b s.b)
 | []=>rfl
 | [w]=>by simp only [zoT,List.any_cons,List.any_nil,Bool.or_false,zss]
 | w :: v :: r=>by
  have:=zpJ s J (v :: r)
  simp only [zoT,zss] at this ⊢
  rw [List.any_cons]
  cases h:zlD w.b s.b with
  | true=>rfl
  | false=>simp only [Bool.false_or];exact this
theorem cword (s:Str):zkO s=some (ziZ s.b):=by
 have h:zkO s=jp (ι:=Bool) (λJ2=>zoT s J2 zqv) (λq1=>br q1 (some (true)) (some (false))):=rfl
 rw [h]
 refine tx (T.jp (λq=>q=ziZ s.b) (λJ k=>?_) λq hq=>?_)
 ·rw [zpJ];exact k _ rfl
 ·rw [<- hq];cases q <;> exact T.some rfl

/-! ### Names -/
theorem zyu (b:List UInt8) (k:Nat):nm (b.drop k)=bif zcn (hd (b.drop k)) (b.drop (k + 1)) then nm (b.drop (k + 1)) + 1 else 0:=by
 rcases Nat.lt_or_ge k b.length with h | h
 ·obtain ⟨c,e⟩:=ziG h
  rw [e];rfl
 ·rw [zDn h]
  simp [hd,zcn,zaF,zaq,nm]
theorem zvL {b:List UInt8} {k:Nat} {r:List UInt8} (h:zcn (hd (b.drop k)) r=true):k < b.length:=by
 rcases Nat.lt_or_ge k b.length with h2 | h2
 ·exact h2
 ·rw [zDn h2] at h
  simp [hd,zcn,zaF,zaq] at h
theorem cname (x:zaa) (h0:0 <= x.reader.at_) (h1:x.reader.at_ < x.reader.s.b.length) (hl:x.reader.s.b.length <= 1000000) (hc:zaF (hd (x.reader.s.b.drop x.reader.at_.toNat))=true) :
    T (λr=>bif zgK (x.reader.s.b.drop x.reader.at_.toNat) then r.1=0 else r=((bif ziZ ((x.reader.s.b.drop x.reader.at_.toNat).take (nm (x.reader.s.b.drop x.reader.at_.toNat))) then 5 else bif decide (hd (x.reader.s.b.drop x.reader.at_.toNat) <= 90) then 1 else 2:Int),Str.mk ((x.reader.s.b.drop x.reader.at_.toNat).take (nm (x.reader.s.b.drop x.reader.at_.toNat))),zaa.mk (zch.mk x.reader.s (x.reader.at_ + nm (x.reader.s.b.drop x.reader.at_.toNat))))) (zfx x):=by
  obtain ⟨⟨s,i⟩⟩:=x
  simp only at h0 h1 hl hc ⊢
  unfold zfx
  generalize hd0:s.b.drop i.toNat=d at hc ⊢
  have hi0:0 < nm d:=zxj hc
  have hpk:∀ k:Int,0 <= k->k <= s.b.length->zaj (zaa.mk (zch.mk s k)) 0=some (hd (s.b.drop k.toNat),zaa.mk (zch.mk s k)):=λk k0 k1=>by
    rw [zjQ _ _ (by show 0 <= k + 0;omega) (by show k + 0 <= _;omega) hl]
    show some (hd (s.b.drop (k + 0).toNat),_)=_
    rw [Int.add_zero]
  have hpk1:∀ k:Int,0 <= k->k <= s.b.length->zaj (zaa.mk (zch.mk s k)) 1=some (hd (s.b.drop (k.toNat + 1)),zaa.mk (zch.mk s k)):=λk k0 k1=>by
    rw [zjQ _ _ (by show 0 <= k + 1;omega) (by show k + 1 <= _;omega) hl]
    show some (hd (s.b.drop (k + 1).toNat),_)=_
    rw [show (k + 1).toNat=k.toNat + 1 by omega]
  refine T.eq (hpk i h0 (by omega)) ?_
  refine T.lp (ι:=UInt8 × zaa) (λq=>∃ k:Int,q=(hd (s.b.drop k.toNat),zaa.mk (zch.mk s k))/\i <= k/\k <= s.b.length/\(nm d:Int)=k - i + nm (s.b.drop k.toNat)) (λq=>(s.b.length - q.2.reader.at_).toNat) ⟨i,rfl,zIl _,by omega,by rw [hd0];omega⟩ (by dsimp only;omega) λL q hq hL=>?_
  obtain ⟨k,rfl,k1,k2,k3⟩:=hq
  simp only at hL ⊢
  have ek:(k + 1).toNat=k.toNat + 1:=by omega
  rw [zyu] at k3
  refine T.eq (clet _) (T.jp (λq=>q=(zaF (hd (s.b.drop k.toNat)) || zaq (hd (s.b.drop k.toNat)))) (λJ2 h2=>T.br (λh3=>h2 _ (by rw [h3];rfl)) λh3=>T.eq (zxl _) (h2 _ (by rw [h3];rfl))) λq hq=>?_)
  refine T.jp (ι:=Bool × zaa) (λp=>p=(zcn (hd (s.b.drop k.toNat)) (s.b.drop (k.toNat + 1)),zaa.mk (zch.mk s k))) (λJ2 h2=>T.br (λh3=>h2 _ (by unfold zcn;rw [<- hq,h3];rfl)) λh3=>?_) λp hp=>?_
  · refine T.jp (ι:=Bool × zaa) (λp=>p=(decide (hd (s.b.drop k.toNat)=45) && !decide (hd (s.b.drop (k.toNat + 1))=45),zaa.mk (zch.mk s k))) (λJ3 h4=>T.br (λh5=>T.eq (hpk1 k (by omega) k2) (h4 _ (by rw [h5];rfl))) λh5=>h4 _ (by rw [h5];rfl)) λp hp=>h2 _ ?_
    subst hp
    unfold zcn;rw [<- hq,h3];rfl
  subst hp
  simp only
  refine T.br (λh3=>?_) λh3=>?_
  · have hlt:=zvL h3
    rw [h3,zCt] at k3
    refine T.ck (by omega) (T.eq (hpk (k + 1) (by omega) (by omega)) (hL _ ⟨k + 1,rfl,by omega,by omega,by rw [ek];omega⟩ (by dsimp only;omega)))
  rw [h3,zCf] at k3
  have hn:nm d=k.toNat - i.toNat:=by omega
  have hseg:(s.b.take k.toNat).drop i.toNat=d.take (nm d):=by rw [seg,hd0,hn]
  have hdl:d.length=s.b.length - i.toNat:=by rw [<- hd0,zLd]
  have hlen:(d.take (nm d)).length=nm d:=by rw [zLt];omega
  refine T.asd ⟨h0,k1,k2⟩ ?_
  rw [hseg]
  refine T.jp (λb=>b=zgK d) (λJ h=>T.br (λh4=>h _ ?_) λh4=>T.ck (by simp only [hlen];omega) (T.get (by simp only [hlen];omega) (by simp only [hlen];omega) λy hy=>h _ ?_)) λb hb=>?_
  · have:=zOT h4
    simp only [hlen] at this
    unfold zgK
    rw [zDT (show 60 < nm d by omega),Bool.or_true]
  · have:=zOF h4
    simp only [hlen] at this hy
    unfold zgK
    rw [zDF (show ¬ 60 < nm d by omega),Bool.or_false,List.getLast?_eq_getElem?,hlen,show nm d - 1=((nm d:Int) - 1).toNat by omega,hy]
    rw [decide_eq_decide];simp
  rw [<- hb]
  refine T.br (λh4=>T.some (by rw [h4];rfl)) λh4=>?_
  rw [h4]
  simp only [zCf]
  have hat:(zaa.mk (zch.mk s k))=zaa.mk (zch.mk s (i + nm d)):=by rw [show i + (nm d:Int)=k by omega]
  refine T.eq (cword _) (T.br (λh5=>T.some ?_) λh5=>T.get (zIl _) (by simp only [hlen];omega) λy hy=>?_)
  · simp only at h5;rw [h5,hat];rfl
  · simp only at h5 hy
    have hyd:hd d=y:=by
      rw [List.getElem?_take] at hy
      rw [if_pos (by omega)] at hy
      cases d with
      | nil=>cases hy
      | cons c r=>simpa [hd] using hy
    rw [h5,hyd,hat]
    exact T.br (λh6=>T.some (by rw [h6];rfl)) λh6=>T.some (by rw [h6];rfl)
def znj (acc:Nat) (l:List UInt8):Nat:=l.foldl (λv d=>10 * v + (d.toNat - 48)) acc
theorem zoX:∀ (l:List UInt8) (acc:Nat),acc * 10 ^ l.length <= znj acc l
 | [],acc=>by simp [znj]
 | d :: l,acc=>by
  have h:=zoX l (10 * acc + (d.toNat - 48))
  refine Nat.le_trans ?_ h
  rw [zLc,Nat.pow_succ,Nat.mul_comm (10 ^ l.length) 10,<- Nat.mul_assoc,Nat.mul_comm acc 10]
  exact Nat.mul_le_mul_right _ (Nat.le_add_right _ _)
theorem zs5 (l:List UInt8) (acc:Nat):acc <= znj acc l :=
 Nat.le_trans (Nat.le_mul_of_pos_right acc (Nat.pow_pos (by omega))) (zoX l acc)
theorem zwk:∀ (l:List UInt8) (acc:Nat),zlq l->acc <= 18446744073709551615->Lib.parseUintM 18446744073709551615 acc l=if znj acc l <= 18446744073709551615 then .ok (znj acc l) else .range
 | [],acc,_,h=>by
  rw [Lib.parseUintM,if_pos (show znj acc [] <= _ from h)];rfl
 | d :: l,acc,hd,h=>by
  have hr:=zeo (hd d (zMs ..))
  have hm:=zs5 l (10 * acc + (d.toNat - 48))
  have e:znj acc (d :: l)=znj (10 * acc + (d.toNat - 48)) l:=rfl
  rw [Lib.parseUintM,if_pos hr,e]
  by_cases h1:1844674407370955162 <= acc
  ·rw [if_pos h1,if_neg (by omega)]
  ·rw [if_neg h1]
   by_cases h2:18446744073709551615 < acc * 10 + (d.toNat - 48)
   ·rw [if_pos h2,if_neg (by omega)]
   ·rw [if_neg h2,zwk l _ (λx hx=>hd x (zMm _ hx)) (by omega),Nat.mul_comm acc 10]
theorem zs4 (D:List UInt8) (hD:zlq D) (hne:D ≠ []):Lib.parseUintB 64 D=if zee D <= 18446744073709551615 then .ok (zee D) else .range:=by
 unfold Lib.parseUintB
 rw [if_neg hne]
 exact zwk D 0 hD (by omega)
def znv (m:Bool) (v:Nat):Bool:=!(decide (v < 9223372036854775808) || (m && decide (v=9223372036854775808)))
theorem zAV (m:Bool) (D:List UInt8) (hD:zlq D) (hne:D ≠ []) (hl:D.length <= 1000000):T (λr=>r.2.bad=znv m (zee D)) (zbb (Str.mk (bif m then 45 :: D else D)) 10 64):=by
 obtain ⟨c,r,rfl⟩:=List.exists_cons_of_ne_nil hne
 have hr:=zeo (hD c (zMs ..))
 have hu:=zs4 _ hD hne
 have hlen:Nat.ble (bif m then 45 :: c :: r else c :: r).length 281474976710656=true:=Nat.ble_eq_true_of_le (by cases m <;> simp only [zCt,zCf,zLc] at hl ⊢ <;> omega)
 unfold zbb
 rw [show (decide ((10:Int)=10) && decide ((64:Int)=64) && Nat.ble (Str.mk (bif m then 45 :: c :: r else c :: r)).b.length 281474976710656)=true by rw [hlen];rfl,zCt]
 cases m with
 | true =>
  simp only [zCt]
  unfold Lib.parseIntB
  simp only [show (45:UInt8).toNat=45 from rfl,or_true,if_true,hu]
  by_cases h1:zee (c :: r) <= 18446744073709551615
  ·simp only [if_pos h1]
   by_cases h2:9223372036854775808 < zee (c :: r)
   ·simp only [not_true,false_and,if_false,true_and,if_pos (show 2 ^ (64 - 1) < zee (c :: r) from h2)]
    refine T.some ?_
    show true=_
    unfold znv;simp;omega
   ·simp only [not_true,false_and,if_false,true_and,if_neg (show ¬ 2 ^ (64 - 1) < zee (c :: r) from h2)]
    refine T.some ?_
    show false=_
    unfold znv;simp;omega
  ·simp only [if_neg h1]
   refine T.some ?_
   show true=_
   unfold znv;simp;omega
 | false =>
  simp only [zCf]
  unfold Lib.parseIntB
  have n45:¬ c.toNat=45:=by omega
  have n43:¬ (c.toNat=43 \/ c.toNat=45):=by omega
  simp only [if_neg n43,hu]
  by_cases h1:zee (c :: r) <= 18446744073709551615
  ·simp only [if_pos h1]
   by_cases h2:9223372036854775808 <= zee (c :: r)
   ·simp only [n45,not_false_eq_true,true_and,if_pos (show 2 ^ (64 - 1) <= zee (c :: r) from h2)]
    refine T.some ?_
    show true=_
    unfold znv;simp;omega
   ·simp only [n45,not_false_eq_true,true_and,false_and,if_false,if_neg (show ¬ 2 ^ (64 - 1) <= zee (c :: r) from h2)]
    refine T.some ?_
    show false=_
    unfold znv;simp;omega
  ·simp only [if_neg h1]
   refine T.some ?_
   show true=_
   unfold znv;simp;omega
theorem zqA:∀ d:List UInt8,zlq (d.take (dg d))
 | []=>λx hx=>by simp at hx
 | c :: r=>λx hx=>by
  have ih:=zqA r
  rw [zqr] at hx
  cases h:zaq c with
  | false=>rw [h] at hx;simp at hx
  | true =>
   rw [h] at hx
   simp only [zCt,List.take_succ_cons,List.mem_cons] at hx
   rcases hx with rfl | hx
   ·exact h
   ·exact ih x hx
theorem zzf {d:UInt8} {l:List UInt8} (h:zlq (d :: l)) (hd:d ≠ 48):10 ^ l.length <= zee (d :: l):=by
 have h1:=zeo (h d (zMs ..))
 have h2:d.toNat ≠ 48:=λe=>hd (UInt8.toNat_inj.1 e)
 have h3:=zoX l (10 * 0 + (d.toNat - 48))
 refine Nat.le_trans ?_ h3
 exact Nat.le_mul_of_pos_left _ (by omega)
theorem zAq {n:Nat} (h:19 <= n):10000000000000000000 <= 10 ^ n:=by
 have:=Nat.pow_le_pow_right (show 0 < 10 by omega) h
 simpa using this
theorem zsB {m:Bool} {d:List UInt8} (hn:1 <= dg d):(znv m (zee (d.take (dg d))) || (decide (hd d=48) && (decide (1 < dg d) || m)) || zaF (hd (d.drop (dg d))))=zfs m d:=by
 have hD:=zqA d
 have hlen:(d.take (dg d)).length=dg d:=by rw [zLt];have:=zt1 d;omega
 unfold zfs
 rw [zDF (show ¬ dg d < 1 by omega),Bool.false_or]
 by_cases h19:dg d <= 19
 ·have hu:=zlb _ hD (by rw [hlen];exact h19)
  rw [zDF (show ¬ 19 < dg d by omega),Bool.false_or]
  have e1:decide (9223372036854775808 < ziW (d.take (dg d)))=decide (9223372036854775808 < zee (d.take (dg d))):=decide_eq_decide.2 (by rw [UInt64.lt_iff_toNat_lt,hu];rfl)
  have e2:decide (ziW (d.take (dg d))=9223372036854775808)=decide (zee (d.take (dg d))=9223372036854775808):=decide_eq_decide.2 (by rw [<- UInt64.toNat_inj,hu];rfl)
  rw [e1,e2]
  unfold znv
  generalize decide (hd d=48)=A
  generalize decide (1 < dg d)=B
  generalize zaF (hd (d.drop (dg d)))=C
  rcases Nat.lt_trichotomy (zee (d.take (dg d))) 9223372036854775808 with h | h | h
  ·rw [zDT h,zDF (show ¬ 9223372036854775808 < zee (d.take (dg d)) by omega),zDF (show ¬ zee (d.take (dg d))=9223372036854775808 by omega)]
   cases m <;> cases A <;> cases B <;> cases C <;> rfl
  ·rw [zDT h,zDF (show ¬ 9223372036854775808 < zee (d.take (dg d)) by omega),zDF (show ¬ zee (d.take (dg d)) < 9223372036854775808 by omega)]
   cases m <;> cases A <;> cases B <;> cases C <;> rfl
  ·rw [zDT h,zDF (show ¬ zee (d.take (dg d)) < 9223372036854775808 by omega),zDF (show ¬ zee (d.take (dg d))=9223372036854775808 by omega)]
   cases m <;> cases A <;> cases B <;> cases C <;> rfl
 ·rw [zDT (show 19 < dg d by omega),zDT (show 1 < dg d by omega)]
  simp only [Bool.true_or,Bool.and_true]
  by_cases h48:hd d=48
  ·rw [zDT h48];simp
  ·have hb:znv m (zee (d.take (dg d)))=true:=by
    have hne:d.take (dg d) ≠ []:=λe=>by rw [e] at hlen;simp at hlen;omega
    obtain ⟨c,r,e⟩:=List.exists_cons_of_ne_nil hne
    have hc:c ≠ 48:=by
     intro e48
     apply h48
     cases d with
     | nil=>simp at e
     | cons x y =>
      have:dg (x :: y)=(dg (x :: y) - 1) + 1:=by omega
      rw [this,List.take_succ_cons] at e
      injection e with e1 e2
      show x=48
      rw [e1,e48]
    rw [e] at hD hlen ⊢
    have:=zzf hD hc
    have h2:=zAq (n:=r.length) (by rw [zLc] at hlen;omega)
    unfold znv;simp;omega
   rw [hb];rfl
theorem zui (b:List UInt8) (k:Nat):dg (b.drop k)=bif zaq (hd (b.drop k)) then dg (b.drop (k + 1)) + 1 else 0:=by
 rcases Nat.lt_or_ge k b.length with h | h
 ·obtain ⟨c,e⟩:=ziG h
  rw [e];rfl
 ·rw [zDn h];rfl
theorem zxS {b:List UInt8} {k:Nat} (h:zaq (hd (b.drop k))=true):k < b.length:=by
 rcases Nat.lt_or_ge k b.length with h2 | h2
 ·exact h2
 ·rw [zDn h2] at h;cases h
theorem zyT (s:Str) (i:Int) (h0:0 <= i) (h1:i < s.b.length) (hl:s.b.length <= 1000000) (hp:zaq (hd (s.b.drop i.toNat))=true \/ (hd (s.b.drop i.toNat)=45/\zaq (hd (s.b.drop (i.toNat + 1)))=true)) :
    T (λr=>match zd4 (s.b.drop i.toNat) with
      | none=>r.1=0
      | some n=>r=((3:Int),Str.mk ((s.b.drop i.toNat).take n),zaa.mk (zch.mk s (i + n)))) (zeI (zaa.mk (zch.mk s i))):=by
  unfold zeI
  have hpk:∀ k:Int,0 <= k->k <= s.b.length->zaj (zaa.mk (zch.mk s k)) 0=some (hd (s.b.drop k.toNat),zaa.mk (zch.mk s k)):=λk k0 k1=>by
    rw [zjQ _ _ (by show 0 <= k + 0;omega) (by show k + 0 <= _;omega) hl]
    show some (hd (s.b.drop (k + 0).toNat),_)=_
    rw [Int.add_zero]
  refine T.eq (hpk i h0 (by omega)) ?_
  simp only
  refine T.jp (ι:=zaa) (λq=>∃ f:Int,q=zaa.mk (zch.mk s f)/\i <= f/\f <= i + 1/\zaq (hd (s.b.drop f.toNat))=true/\decide (i < f)=decide (hd (s.b.drop i.toNat)=45) /\
      zd4 (s.b.drop i.toNat)=(bif zfs (decide (i < f)) (s.b.drop f.toNat) then none else some (dg (s.b.drop f.toNat) + (f - i).toNat))) (λJ h=>T.br (λhb=>T.ck (by omega) (h _ ⟨i + 1,rfl,by omega,by omega,?_,?_,?_⟩)) λhb=>h _ ⟨i,rfl,zIl _,by omega,?_,?_,?_⟩) λq hq=>?_
  · have e1:(i + 1).toNat=i.toNat + 1:=by omega
    rw [e1]
    rcases hp with hp | hp
    · have:=zOT hb
      rw [this] at hp;cases hp
    · exact hp.2
  · rw [hb,zDT (show i < i + 1 by omega)]
  · have e1:(i + 1).toNat=i.toNat + 1:=by omega
    have e2:(i + 1 - i).toNat=1:=by omega
    unfold zd4
    rw [hb,zCt,e1,e2,List.drop_drop,zDT (show i < i + 1 by omega)]
  · rcases hp with hp | hp
    · exact hp
    · exact absurd hp.1 (zOF hb)
  · rw [hb,zDF (show ¬ i < i by omega)]
  · have e2:(i - i).toNat=0:=by omega
    unfold zd4
    rw [hb,zCf,e2,Nat.add_zero,zDF (show ¬ i < i by omega)]
  obtain ⟨f,rfl,f1,f2,f3,f4,f5⟩:=hq
  have hflt:=zxS f3
  generalize hm:decide (i < f)=m at f4 f5
  generalize hdd:s.b.drop f.toNat=dd at f3 f5
  have hn1:1 <= dg dd:=by
    have:=zui s.b f.toNat
    rw [hdd,f3,zCt] at this
    omega
  refine T.lp (ι:=zaa) (λq=>∃ k:Int,q=zaa.mk (zch.mk s k)/\f <= k/\k <= s.b.length/\(dg dd:Int)=k - f + dg (s.b.drop k.toNat)) (λq=>(s.b.length - q.reader.at_).toNat) ⟨f,rfl,zIl _,by omega,by rw [hdd];omega⟩ (by dsimp only;omega) λL q hq hL=>?_
  obtain ⟨k,rfl,k1,k2,k3⟩:=hq
  have ek:(k + 1).toNat=k.toNat + 1:=by omega
  rw [zui] at k3
  refine T.eq (hpk k (by omega) k2) (T.eq (zxl _) (T.br (λh3=>?_) λh3=>?_))
  · simp only at h3
    have:=zxS h3
    rw [h3,zCt] at k3
    exact T.ck (by dsimp only;omega) (hL _ ⟨k + 1,rfl,by omega,by omega,by rw [ek];omega⟩ (by dsimp only;omega))
  simp only at h3
  rw [h3,zCf] at k3
  have hdn:dg dd=k.toNat - f.toNat:=by omega
  have hD:=zqA dd
  have hdl:dd.length=s.b.length - f.toNat:=by rw [<- hdd,zLd]
  have hlen:(dd.take (dg dd)).length=dg dd:=by rw [zLt];omega
  have hseg:(s.b.take k.toNat).drop f.toNat=dd.take (dg dd):=by rw [seg,hdd,hdn]
  have htext:(s.b.take k.toNat).drop i.toNat=bif m then 45 :: dd.take (dg dd) else dd.take (dg dd):=by
    cases m with
    | true =>
      have hif:=zOT hm
      have h45:hd (s.b.drop i.toNat)=45:=zOT f4.symm
      obtain ⟨c,ec⟩:=ziG (b:=s.b) (n:=i.toNat) (by omega)
      have hc:c=45:=by rw [ec] at h45;exact h45
      have hg:s.b[i.toNat]?=some c:=by
        have:=congrArg (λl=>l[0]?) ec
        simpa using this
      rw [zof (by omega) (by omega) hg,hc,show i.toNat + 1=f.toNat by omega,hseg];rfl
    | false =>
      have hif:=zOF hm
      rw [show i.toNat=f.toNat by omega,hseg];rfl
  refine T.asd ⟨h0,by dsimp only;omega,k2⟩ ?_
  simp only
  rw [htext]
  refine T.get (by omega) (by omega) λy36 hy36=>?_
  have hy:hd dd=y36:=by rw [<- hdd,zgH hy36];rfl
  refine T.cal (zAV m _ hD (λe=>by rw [e] at hlen;simp at hlen;omega) (by omega)) λy37 _ hy37=>?_
  refine T.jp (λb=>b=(znv m (zee (dd.take (dg dd))) || (decide (hd dd=48) && (decide (1 < dg dd) || m)))) (λJ h=>T.br (λh4=>h _ (by rw [<- hy37,h4];rfl)) λh4=>?_) λb38 hb38=>?_
  · refine T.jp (λb=>b=(decide (hd dd=48) && (decide (1 < dg dd) || m))) (λJ2 h5=>T.br (λh6=>T.ck (by omega) ?_) λh6=>h5 _ (by rw [hy,h6];rfl)) λb hb=>h _ (by rw [<- hy37,h4,hb];rfl)
    have e1:decide ((1:Int) < k - f)=decide (1 < dg dd):=decide_eq_decide.2 (by omega)
    refine T.jp (λb=>b=(decide (1 < dg dd) || m)) (λJ3 h7=>T.br (λh8=>h7 _ (by rw [<- e1,h8];rfl)) λh8=>h7 _ (by rw [<- e1,h8];rfl)) λb hb=>h5 _ (by rw [hy,h6,hb];rfl)
  have hdk:dd.drop (dg dd)=s.b.drop k.toNat:=by rw [<- hdd,List.drop_drop,hdd];congr 1;omega
  refine T.jp (ι:=Bool × zaa) (λp=>p=(zfs m dd,zaa.mk (zch.mk s k))) (λJ h=>T.br (λh4=>h _ ?_) λh4=>T.eq (hpk k (by omega) k2) (T.eq (clet _) (h _ ?_))) λp hp=>?_
  · rw [<- zsB hn1,<- hb38,h4];rfl
  · rw [<- zsB hn1,<- hb38,h4,hdk];rfl
  subst hp
  rw [f5]
  cases hbad:zfs m dd with
  | true=>exact T.br (λ_=>T.some rfl) λh=>by cases h
  | false =>
    refine T.br (λh=>by cases h) λ_=>T.some ?_
    simp only [zCf]
    have e1:(i:Int) + ((dg dd + (f - i).toNat:Nat):Int)=k:=by omega
    have e2:(s.b.drop i.toNat).take (dg dd + (f - i).toNat)=bif m then 45 :: dd.take (dg dd) else dd.take (dg dd):=by
      rw [<- htext,seg];congr 1;omega
    rw [e1,e2]
theorem zp4 (s:Str) (hl:s.b.length <= 1000000) (k:Int) (k0:0 <= k) (k1:k <= s.b.length):zaj (zaa.mk (zch.mk s k)) 0=some (hd (s.b.drop k.toNat),zaa.mk (zch.mk s k)):=by
 rw [zjQ _ _ (by show 0 <= k + 0;omega) (by show k + 0 <= _;omega) hl]
 show some (hd (s.b.drop (k + 0).toNat),_)=_
 rw [Int.add_zero]
theorem peek1 (s:Str) (hl:s.b.length <= 1000000) (k:Int) (k0:0 <= k) (k1:k <= s.b.length):zaj (zaa.mk (zch.mk s k)) 1=some (hd (s.b.drop (k.toNat + 1)),zaa.mk (zch.mk s k)):=by
 rw [zjQ _ _ (by show 0 <= k + 1;omega) (by show k + 1 <= _;omega) hl]
 show some (hd (s.b.drop (k + 1).toNat),_)=_
 rw [show (k + 1).toNat=k.toNat + 1 by omega]

/-! ### Hexes -/
theorem zzm (b:List UInt8) (k:Nat):hx (b.drop k)=bif zdW (hd (b.drop k)) then hx (b.drop (k + 1)) + 1 else 0:=by
 rcases Nat.lt_or_ge k b.length with h | h
 ·obtain ⟨c,e⟩:=ziG h
  rw [e];rfl
 ·rw [zDn h];rfl
theorem zAJ {b:List UInt8} {k:Nat} (h:zdW (hd (b.drop k))=true):k < b.length:=by
 rcases Nat.lt_or_ge k b.length with h2 | h2
 ·exact h2
 ·rw [zDn h2] at h;cases h
theorem chex (s:Str) (i:Int) (h0:0 <= i) (h1:i < s.b.length) (hl:s.b.length <= 1000000) :
    T (λr=>bif zdS (s.b.drop (i.toNat + 1)) then r.1=0 else r=((4:Int),Str.mk ((s.b.drop (i.toNat + 1)).take (hx (s.b.drop (i.toNat + 1)))),zaa.mk (zch.mk s (i + 1 + hx (s.b.drop (i.toNat + 1)) + 2)))) (zfX (zaa.mk (zch.mk s i))):=by
  unfold zfX
  have e0:(i + 1).toNat=i.toNat + 1:=by omega
  generalize hdd:s.b.drop (i.toNat + 1)=dd
  simp only
  refine T.ck (by omega) (T.eq (zp4 s hl (i + 1) (by omega) (by omega)) ?_)
  refine T.lp (ι:=UInt8 × zaa) (λq=>∃ k:Int,q=(hd (s.b.drop k.toNat),zaa.mk (zch.mk s k))/\i + 1 <= k/\k <= s.b.length/\(hx dd:Int)=k - (i + 1) + hx (s.b.drop k.toNat)) (λq=>(s.b.length - q.2.reader.at_).toNat) ⟨i + 1,rfl,zIl _,by omega,by rw [e0,hdd];omega⟩ (by dsimp only;omega) λL q hq hL=>?_
  obtain ⟨k,rfl,k1,k2,k3⟩:=hq
  simp only at hL ⊢
  have ek:(k + 1).toNat=k.toNat + 1:=by omega
  rw [zzm] at k3
  generalize hc:hd (s.b.drop k.toNat)=c at *
  refine T.eq (zxl c) (T.jp (λq=>q=zdW c) (λJ2 h3=>T.br (λh4=>h3 _ (by unfold zdW;rw [h4];rfl)) λh4=>?_) λq hq=>?_)
  · exact T.jp (λq=>q=(decide (65 <= c) && decide (c <= 70))) (λJ4 h5=>T.br (λh6=>h5 _ (by rw [h6];rfl)) λh6=>h5 _ (by rw [h6];rfl)) λq hq=>h3 _ (by unfold zdW;rw [h4,hq];rfl)
  subst hq
  refine T.br (λh3=>?_) λh3=>?_
  · have hlt:=zAJ (b:=s.b) (k:=k.toNat) (by rw [hc];exact h3)
    rw [h3,zCt] at k3
    exact T.ck (by omega) (T.eq (zp4 s hl (k + 1) (by omega) (by omega)) (hL _ ⟨k + 1,rfl,by omega,by omega,by rw [ek];omega⟩ (by dsimp only;omega)))
  rw [h3,zCf] at k3
  have hn:hx dd=k.toNat - (i.toNat + 1):=by omega
  have hdl:dd.length=s.b.length - (i.toNat + 1):=by rw [<- hdd,zLd]
  have hlen:(dd.take (hx dd)).length=hx dd:=by rw [zLt];omega
  have hseg:(s.b.take k.toNat).drop (i + 1).toNat=dd.take (hx dd):=by rw [seg,e0,hdd,hn]
  have hdk:dd.drop (hx dd)=s.b.drop k.toNat:=by rw [<- hdd,List.drop_drop,hdd];congr 1;omega
  have hdk1:dd.drop (hx dd + 1)=s.b.drop (k.toNat + 1):=by rw [<- hdd,List.drop_drop,hdd];congr 1;omega
  refine T.asd ⟨by omega,k1,k2⟩ (T.asr rfl ?_)
  rw [hseg]
  simp only [hlen]
  have hmod:decide (((hx dd:Nat):Int).tmod 2=0)=decide (hx dd % 2=0):=by
    rw [decide_eq_decide,Int.tmod_eq_emod_of_nonneg (by omega)]
    omega
  refine T.jp (ι:=Bool × zaa) (λp=>p=(zdS dd,zaa.mk (zch.mk s k))) (λJ h=>T.br (λh4=>h _ ?_) λh4=>T.eq (zoM _ _ (by show 0 <= k;omega) k2) (h _ ?_)) λp hp=>?_
  · rw [hmod] at h4
    unfold zdS;rw [h4];rfl
  · rw [hmod] at h4
    unfold zdS
    rw [h4,hdk,hdk1]
    show (!ze4 [39,72] (s.b.drop k.toNat),_)=_
    rw [zw9 39 72 _ (by decide) (by decide),List.drop_drop]
    cases decide (hd (s.b.drop k.toNat)=39) <;> cases decide (hd (s.b.drop (k.toNat + 1))=72) <;> rfl
  subst hp
  cases hb:zdS dd with
  | true=>exact T.br (λ_=>T.some rfl) λh=>by cases h
  | false =>
    refine T.br (λh=>by cases h) λ_=>T.ck (by dsimp only;omega) (T.some ?_)
    simp only [zCf]
    rw [show i + 1 + (hx dd:Int) + 2=k + 2 by omega]

/-! ### Strings -/
theorem ctext (s:Str) (i:Int) (h0:0 <= i) (h1:i < s.b.length) (hl:s.b.length <= 1000000) :
    T (λr=>match qd false (s.b.drop (i.toNat + 1)) [] with
      | none=>r.1=0
      | some (t,rest)=>r=((7:Int),Str.mk t,zaa.mk (zch.mk s ((s.b.length:Int) - (rest.length:Int))))) (zft (zaa.mk (zch.mk s i))):=by
  unfold zft
  have e0:(i + 1).toNat=i.toNat + 1:=by omega
  simp only
  refine T.ck (by omega) (T.lp (ι:=List UInt8 × zaa) (λq=>∃ k:Int,q.2=zaa.mk (zch.mk s k)/\i + 1 <= k/\k <= s.b.length/\(q.1.length:Int) <= k/\qd false (s.b.drop (i.toNat + 1)) []=qd false (s.b.drop k.toNat) q.1) (λq=>(s.b.length - q.2.reader.at_).toNat) ⟨i + 1,rfl,zIl _,by omega,by simp only [zLn];omega,by rw [e0]⟩ (by dsimp only;omega) λL q hq hL=>?_)
  obtain ⟨o,g⟩:=q
  obtain ⟨k,rfl,k1,k2,k3,k4⟩:=hq
  simp only at k3 k4 hL ⊢
  rw [k4] at hL ⊢
  refine T.br (λh2=>?_) λh2=>T.some ?_
  rotate_left
  · have h2:=zOF h2
    rw [zDn (by omega)];rfl
  have h2:=zOT h2
  have ek:(k + 1).toNat=k.toNat + 1:=by omega
  obtain ⟨y,ey⟩:=ziG (b:=s.b) (n:=k.toNat) (by omega)
  have hy:hd (s.b.drop k.toNat)=y:=by rw [ey];rfl
  refine T.eq (zp4 s hl k (by omega) k2) ?_
  simp only [hy]
  refine T.jp (ι:=zaa) (λg=>∃ j:Int,g=zaa.mk (zch.mk s j)/\k <= j/\j < s.b.length/\qd false (s.b.drop k.toNat) o=qd false (s.b.drop (j.toNat + 1)) (o ++ [hd (s.b.drop j.toNat)])) (λJ h=>?_) λg hg=>?_
  · refine T.br (λh3=>T.ck (by omega) (T.eq (zp4 s hl (k + 1) (by omega) (by omega)) (T.br (λh4=>?_) λh4=>?_))) λh3=>h _ ⟨k,rfl,zIl _,h2,?_⟩
    · have hn:decide (hd (s.b.drop (k.toNat + 1))=34)=false:=by rw [<- ek];simpa using h4
      refine T.eq (zlx o (by omega)) (T.br (λh5=>T.some ?_) λh5=>T.some ?_)
      · have h5:Lib.validD o=false:=by simpa using h5
        rw [ey]
        simp only [qd,h3,zCt,hn,zCf,h5]
      · have h5:Lib.validD o=true:=by simpa using h5
        rw [ey]
        simp only [qd,h3,zCt,hn,zCf,h5,zLd]
        rw [show (s.b.length:Int) - ((s.b.length - (k.toNat + 1):Nat):Int)=k + 1 by omega]
    · have hn:hd (s.b.drop (k.toNat + 1))=34:=by rw [<- ek];simpa using h4
      have hlt:=zrL (b:=s.b) (n:=k.toNat + 1) (by rw [hn];decide)
      obtain ⟨c,ec⟩:=ziG hlt
      refine h _ ⟨k + 1,rfl,by omega,by omega,?_⟩
      rw [ek,hn,ey]
      simp only [qd,h3,zCt,zDT hn]
      rw [ec];simp only [qd]
    · rw [hy,ey]
      simp only [qd,h3,zCf]
  obtain ⟨j,rfl,j1,j2,j3⟩:=hg
  have ej:(j + 1).toNat=j.toNat + 1:=by omega
  refine T.eq (zp4 s hl j (by omega) (by omega)) ?_
  refine T.abl (by simp only [zLs];omega) (T.ck (by dsimp only;omega) (hL _ ⟨j + 1,rfl,by omega,by omega,by dsimp only;rw [zLa,zLs];omega,?_⟩ (by dsimp only;omega)))
  rw [ej,j3]

/-! ### Signs -/
theorem zyQ:∀ w ∈ sgs,0 < w.length:=by decide
theorem csign (s:Str) (i:Int) (h0:0 <= i) (h1:i < s.b.length) (hl:s.b.length <= 1000000) :
    T (λr=>bif decide (0 < sg (s.b.drop i.toNat)) then r=((6:Int),Str.mk ((s.b.drop i.toNat).take (sg (s.b.drop i.toNat))),zaa.mk (zch.mk s (i + sg (s.b.drop i.toNat)))) else r.1=0) (zfv (zaa.mk (zch.mk s i))):=by
  unfold zfv
  have hdl:(s.b.drop i.toNat).length=s.b.length - i.toNat:=zLd
  generalize hdd:s.b.drop i.toNat=d at hdl ⊢
  refine T.lp (ι:=Int × zaa) (λq=>q.2=zaa.mk (zch.mk s i)/\0 <= q.1/\q.1 <= 13/\sgF (sgs.drop q.1.toNat) d=sg d) (λq=>(13 - q.1).toNat) ⟨rfl,zIl _,by dsimp only;omega,rfl⟩ (by dsimp only;omega) λL q hq hL=>?_
  obtain ⟨k,g⟩:=q
  obtain ⟨rfl,k1,k2,k3⟩:=hq
  simp only at k1 k2 k3 hL ⊢
  refine T.br (λh2=>?_) λh2=>T.some ?_
  rotate_left
  · have h2:¬ k < 13:=zOF h2
    have:k=13:=by omega
    subst this
    have e:sg d=0:=by rw [<- k3];rfl
    rw [e];rfl
  have h2:k < 13:=zOT h2
  refine T.get k1 h2 λy hy=>?_
  have hs:=zuc hy
  have hpos:0 < y.b.length:=zyQ y.b (by
    have:y.b ∈ sgs.drop k.toNat:=by rw [hs];exact zMs ..
    exact List.mem_of_mem_drop this)
  rw [hs] at k3
  unfold sgF at k3
  refine T.eq (zoM _ y h0 (by show i <= (s.b.length:Int);omega)) ?_
  simp only [hdd]
  have e:(k + 1).toNat=k.toNat + 1:=by omega
  refine T.br (λh3=>?_) λh3=>T.ck (by omega) (hL _ ⟨rfl,by dsimp only;omega,by dsimp only;omega,?_⟩ (by dsimp only;omega))
  · obtain ⟨p1,p2⟩:=(zg4 _ _).1 h3
    rw [h3,zCt] at k3
    refine T.ck (by omega) (T.some ?_)
    rw [<- k3,zDT hpos,zCt,p2]
  · rw [h3,zCf] at k3
    rw [e,k3]

/-! ### One -/
theorem zuR {b t r:List UInt8} {k:Int} (h:zfO b=some (k,t,r)):k ≠ 0:=by
 unfold zfO at h
 simp only at h
 cases h1:zaF (hd b) with
 | true =>
  rw [h1,zCt] at h
  cases h2:zgK b with
  | true=>rw [h2] at h;cases h
  | false =>
   rw [h2] at h
   simp only [zCf,Option.some.injEq,Prod.mk.injEq] at h
   rw [<- h.1]
   cases ziZ (b.take (nm b)) <;> cases decide (hd b <= 90) <;> decide
 | false =>
  rw [h1,zCf] at h
  cases h2:zaq (hd b) || (decide (hd b=45) && zaq (hd (b.drop 1))) with
  | true =>
   rw [h2,zCt] at h
   cases h3:zd4 b with
   | none=>rw [h3] at h;cases h
   | some n =>
    rw [h3] at h
    simp only [Option.some.injEq,Prod.mk.injEq] at h
    rw [<- h.1];decide
  | false =>
   rw [h2,zCf] at h
   by_cases h3:hd b=39
   ·rw [zDT h3,zCt] at h
    cases h4:zdS (b.drop 1) with
    | true=>rw [h4] at h;cases h
    | false =>
     rw [h4] at h
     simp only [zCf,Option.some.injEq,Prod.mk.injEq] at h
     rw [<- h.1];decide
   ·rw [zDF h3,zCf] at h
    by_cases h4:hd b=34
    ·rw [zDT h4,zCt] at h
     cases h5:qd false (b.drop 1) [] with
     | none=>rw [h5] at h;cases h
     | some q =>
      rw [h5] at h
      simp only [Option.some.injEq,Prod.mk.injEq] at h
      rw [<- h.1];decide
    ·rw [zDF h4,zCf] at h
     by_cases h5:0 < sg b
     ·rw [zDT h5,zCt] at h
      simp only [Option.some.injEq,Prod.mk.injEq] at h
      rw [<- h.1];decide
     ·rw [zDF h5] at h;cases h
theorem zA7 (s:Str) (i:Int) (h0:0 <= i) (h1:i < s.b.length) (hl:s.b.length <= 1000000) :
    T (λr=>match zfO (s.b.drop i.toNat) with
      | none=>r.1=0
      | some (k,t,rest)=>r=(k,Str.mk t,zaa.mk (zch.mk s ((s.b.length:Int) - (rest.length:Int))))) (ze5 (zaa.mk (zch.mk s i))):=by
  unfold ze5
  have ed1:(s.b.drop i.toNat).drop 1=s.b.drop (i.toNat + 1):=by rw [List.drop_drop]
  have elen:(s.b.drop i.toNat).length=s.b.length - i.toNat:=zLd
  have erest:∀ (n:Nat),n <= (s.b.drop i.toNat).length->i + (n:Int)=(s.b.length:Int) - (((s.b.drop i.toNat).drop n).length:Int):=λn hn=>by
    rw [zLd,elen];rw [elen] at hn;omega
  refine T.eq (zp4 s hl i h0 (by omega)) (T.eq (clet _) ?_)
  unfold zfO
  simp only
  refine T.br (λhle=>?_) λhle=>T.eq (zxl _) ?_
  · rw [hle,zCt]
    refine T.cal (cname (zaa.mk (zch.mk s i)) h0 h1 hl hle) λr _ hr=>T.some ?_
    simp only at hr
    cases hb:zgK (s.b.drop i.toNat) with
    | true=>rw [hb,zCt] at hr;exact hr
    | false =>
      rw [hb,zCf] at hr
      simp only [zCf]
      rw [hr,<- erest _ (zpF _)]
  · rw [hle, zCf]
    refine T.jp (ι:=Bool × zaa) (λp=>p=(zaq (hd (s.b.drop i.toNat)) || (decide (hd (s.b.drop i.toNat)=45) && zaq (hd ((s.b.drop i.toNat).drop 1))),zaa.mk (zch.mk s i))) (λJ2 h2=>T.br (λh3=>h2 _ (by rw [h3];rfl)) λh3=>?_) λp hp=>?_
    · refine T.jp (ι:=Bool × zaa) (λp=>p=(decide (hd (s.b.drop i.toNat)=45) && zaq (hd ((s.b.drop i.toNat).drop 1)),zaa.mk (zch.mk s i))) (λJ3 h4=>T.br (λh5=>T.eq (peek1 s hl i h0 (by omega)) (T.eq (zxl _) (h4 _ (by rw [h5,ed1];rfl)))) λh5=>h4 _ (by rw [h5];rfl)) λp hp=>h2 _ (by rw [h3,hp];rfl)
    subst hp
    simp only
    refine T.br (λh3=>?_) λh3=>?_
    · rw [h3,zCt]
      have hp:zaq (hd (s.b.drop i.toNat))=true \/ (hd (s.b.drop i.toNat)=45/\zaq (hd (s.b.drop (i.toNat + 1)))=true):=by
        rw [ed1] at h3
        rcases Bool.or_eq_true_iff.1 h3 with h | h
        · exact .inl h
        · exact .inr ⟨zOT (Bool.and_eq_true_iff.1 h).1,(Bool.and_eq_true_iff.1 h).2⟩
      refine T.cal (zyT s i h0 h1 hl hp) λr _ hr=>T.some ?_
      cases hn:zd4 (s.b.drop i.toNat) with
      | none=>rw [hn] at hr;exact hr
      | some n =>
        rw [hn] at hr
        simp only at hr ⊢
        rw [hr,<- erest n (zm5 hn).2]
    · rw [h3,zCf]
      refine T.br (λh4=>?_) λh4=>?_
      · rw [h4,zCt,ed1]
        refine T.cal (chex s i h0 h1 hl) λr _ hr=>T.some ?_
        cases hb:zdS (s.b.drop (i.toNat + 1)) with
        | true=>rw [hb,zCt] at hr;exact hr
        | false =>
          rw [hb,zCf] at hr
          simp only [zCf]
          have h5:hx (s.b.drop (i.toNat + 1)) + 1 < (s.b.drop (i.toNat + 1)).length:=by
            unfold zdS at hb
            have:=(Bool.or_eq_false_iff.1 hb).2
            have h72:hd ((s.b.drop (i.toNat + 1)).drop (hx (s.b.drop (i.toNat + 1)) + 1))=72:=by simpa using this
            exact zrL (by rw [h72];decide)
          rw [zLd] at h5
          rw [hr,zLd,zLd]
          have e:i + 1 + (hx (s.b.drop (i.toNat + 1)):Int) + 2=(s.b.length:Int) - ((s.b.length - (i.toNat + 1) - (hx (s.b.drop (i.toNat + 1)) + 2):Nat):Int):=by omega
          rw [e]
      · rw [h4,zCf]
        refine T.br (λh5=>?_) λh5=>?_
        · rw [h5,zCt,ed1]
          refine T.cal (ctext s i h0 h1 hl) λr _ hr=>T.some ?_
          cases hq:qd false (s.b.drop (i.toNat + 1)) [] with
          | none=>rw [hq] at hr;exact hr
          | some q =>
            obtain ⟨t,rest⟩:=q
            rw [hq] at hr
            simp only at hr ⊢
            rw [hr]
        · rw [h5,zCf]
          refine T.cal (csign s i h0 h1 hl) λr _ hr=>T.some ?_
          cases hb:decide (0 < sg (s.b.drop i.toNat)) with
          | false=>rw [hb,zCf] at hr;exact hr
          | true =>
            rw [hb,zCt] at hr
            simp only [zCt]
            rw [hr,<- erest (sg (s.b.drop i.toNat)) (zum sgs _)]

/-! ### All -/
theorem zzz (s:Str):ziz s=some (toks s.b):=by
 refine tx ?_
 unfold ziz toks
 refine T.br (λh=>T.some ?_) λh=>?_
 ·have h:=zOT h
  rw [zDT (show 8000 < s.b.length by omega)];rfl
 have hl:=zOF h
 rw [zDF (show ¬ 8000 < s.b.length by omega),zCf]
 have hskip:∀ k:Int,0 <= k->k <= s.b.length->T (λr=>r=zaa.mk (zch.mk s ((s.b.length:Int) - ((wh .out (s.b.drop k.toNat)).length:Int)))) (zdM (zaa.mk (zch.mk s k))):=λk k0 k1=>by
  refine (zzb (zaa.mk (zch.mk s k)) k0 k1 (by show s.b.length <= _;omega)).mono λr hr=>?_
  obtain ⟨⟨s',j⟩⟩:=r
  obtain ⟨r1,r2⟩:=hr
  simp only at r1 r2
  rw [r1,r2]
 refine T.cal (hskip 0 (by omega) (by omega)) λy2 _ hy2=>?_
 subst hy2
 refine T.lp (ι:=List zU × zaa) (λq=>∃ (k:Int) (f:Nat) (b:List UInt8),q.2=zaa.mk (zch.mk s k)/\(q.1.length:Int) <= k/\k=(s.b.length:Int) - ((wh .out b).length:Int)/\wh .out b=s.b.drop k.toNat/\0 <= k/\b.length < f/\ziH s.b.length (s.b.length + 1) s.b []=ziH s.b.length f b q.1) (λq=>(s.b.length - q.2.reader.at_).toNat)
  ⟨_,s.b.length + 1,s.b,rfl,?_,rfl,?_,?_,by omega,rfl⟩ (by have:=zfi s.b .out;simp only [Int.toNat_zero,List.drop_zero];omega) λL q hq hL=>?_
 ·have:=zfi s.b .out
  simp only [zLn,Int.toNat_zero,List.drop_zero];omega
 ·obtain ⟨n,hn⟩:=ziY s.b .out
  have:=zkP hn
  have hwl:=zfi s.b .out
  simp only [Int.toNat_zero,List.drop_zero]
  rw [show ((s.b.length:Int) - ((wh .out s.b).length:Int)).toNat=s.b.length - (wh .out s.b).length by omega,this]
 ·have:=zfi s.b .out
  simp only [Int.toNat_zero,List.drop_zero];omega
 obtain ⟨l,g⟩:=q
 obtain ⟨k,f,b,rfl,h3,hk,hsw,k0,h4,h5⟩:=hq
 simp only at h3 h5 hL ⊢
 rw [h5] at hL ⊢
 cases f with
 | zero=>omega
 | succ f =>
  rw [zf5] at hL ⊢
  cases hwh:wh .out b with
  | nil =>
   rw [hwh] at hk
   simp only [hwh] at hL ⊢
   have hk:k=(s.b.length:Int):=by simpa using hk
   refine T.br (λh6=>by have:=zOT h6;omega) λ_=>T.abl (by simp only [zLc,zLn];omega) (T.some rfl)
  | cons c r =>
   rw [hwh] at hk hsw
   simp only [hwh] at hL ⊢ 
   have hcl:0 < (c :: r).length:=by simp
   have hwl:=zfi b .out
   rw [hwh] at hwl
   refine T.br (λ_=>?_) λh6=>by have:=zOF h6;omega
   refine T.cal (zA7 s k k0 (by omega) (by omega)) λq _ hq=>?_
   rw [<- hsw] at hq
   cases ho:zfO (c :: r) with
   | none =>
    rw [ho] at hq
    simp only [ho] at hL ⊢
    simp only at hq
    rw [hq]
    exact T.br (λ_=>T.some (by rw [hk])) λh7=>by have:=zOF h7;omega
   | some p =>
    obtain ⟨kd,t,r'⟩:=p
    rw [ho] at hq
    simp only [ho] at hL ⊢
    simp only at hq
    subst hq
    have hol:=zkU ho
    obtain ⟨no,hso⟩:=zro ho
    have hso2:r'=s.b.drop (k.toNat + no):=by rw [hso,<- List.drop_drop,<- hsw]
    have hsd:=zkP hso2
    have hrl:r'.length <= s.b.length:=by rw [hso2,zLd];omega
    refine T.br (λh7=>absurd (zOT h7) (zuR ho)) λ_=>T.abl (by simp only [zLc,zLn];omega) (T.cal (hskip _ (by omega) (by omega)) λy _ hy=>?_)
    subst hy
    have e1:((s.b.length:Int) - (r'.length:Int)).toNat=s.b.length - r'.length:=by omega
    rw [e1,hsd]
    have hw2:=zfi r' .out
    obtain ⟨n2,hn2⟩:=ziY r' .out
    rw [hso2,List.drop_drop,<- hso2] at hn2
    have hs2:=zkP hn2
    refine hL _ ⟨_,f,r',rfl,?_,rfl,?_,by omega,by omega,?_⟩ (by dsimp only;omega)
    ·dsimp only;rw [zLa,zLs];omega
    ·rw [show ((s.b.length:Int) - ((wh .out r').length:Int)).toNat=s.b.length - (wh .out r').length by omega,hs2]
    ·dsimp only;rw [hk]
def zfq :Option (Bool) :=
 cal (zcg (Str.mk [77,32,68,69,70,73,78,73,84,73,79,78,83,32,58,58,61,32,66,69,71,73,78,32,65,32,58,58,61,32,83,69,81,85,69,78,67,69,32,123,32,97,32,73,78,84,69,71,69,82,44,32,98,32,66,79,79,76,69,65,78,32,79,80,84,73,79,78,65,76,32,125,32,69,78,68])) λy1=>cal (zew y1.1 (0:Int) (Val.mk (7:Int) (0:Int) ([]:(List UInt8)) ([(Val.mk (2:Int) (5:Int) ([]:(List UInt8)) ([]:(List Val)) (0:Int) ([]:(List Raw))),(Val.mk (1:Int) (1:Int) ([]:(List UInt8)) ([]:(List Val)) (0:Int) ([]:(List Raw)))]:(List Val)) (0:Int) ([]:(List Raw)))) λy4=>jp (ι:=Bool) (λJ6=>br y1.2 (J6 ((decide (y4.2=(0:Int))))) (J6 (false))) (λq5=>jp (ι:=Bool) (λJ9=>br q5 (J9 ((decide (y4.1=(Str.mk [123,32,97,32,53,44,32,98,32,84,82,85,69,32,125]))))) (J9 (false))) (λq8=>some (q8)))
def zbW (a_s:zN):Option (zU × zN) :=
 cal (zs a_s.stream.l a_s.stream.i) λy4=>some (y4,a_s)

def zbS (a_p:zN) (a_e:Int):Option (Bool × zN) :=
 jp (ι:=zN) (λJ2=>br (decide (a_p.e=(0:Int))) (cal (zbW a_p) λy3=>J2 ((zN.mk y3.2.stream y3.2.t y3.1.at_ a_e))) (J2 (a_p))) (λq1=>some (false,q1))

def zcL (a_s:zN) (za3:Str):Option (Bool × zN) :=
 cal (zbW a_s) λy1=>jp (ι:=Bool) (λJ4=>br (!decide (y1.1.kind=(5:Int))) (J4 ((!decide (y1.1.kind=(6:Int))))) (J4 (false))) (λq3=>jp (ι:=Bool) (λJ7=>br q3 (J7 (true)) (J7 ((!decide (y1.1.text=za3))))) (λq6=>br q6 (some (false,y1.2)) (ck ((y1.2.stream.i + (1:Int))) <| some (true,(zN.mk { y1.2.stream with i:=(y1.2.stream.i + (1:Int)) } y1.2.t y1.2.at_ y1.2.e)))))

def zbT (a_p:zN) (za3:Str):Option (Bool × zN) :=
 cal (zcL a_p za3) λy1=>jp (ι:=Bool × zN) (λJ3=>br y1.1 (J3 (true,y1.2)) (cal (zbS y1.2 (7:Int)) λy5=>J3 (y5.1,y5.2))) (λq2=>some (q2.1,q2.2))

def zd5 (a_p:zN) (ze7:Int):Option (Str × Bool × zN) :=
 cal (zbW a_p) λy1=>br (!decide (y1.1.kind=ze7)) (cal (zbS y1.2 (7:Int)) λy3=>some ((Str.mk []),y3.1,y3.2)) (ck ((y1.2.stream.i + (1:Int))) <| some (y1.1.text,true,(zN.mk { y1.2.stream with i:=(y1.2.stream.i + (1:Int)) } y1.2.t y1.2.at_ y1.2.e)))

def zeC (a_p:zN) (a_x:zg):Option (Int × Bool × zN) :=
 cal (zbW a_p) λy1=>lp (ι:=Int) (λL4 q3=>br (decide (q3 < (a_x.items.length:Int))) (cal (zs a_x.items q3) λy13=>jp (ι:=Bool) (λJ16=>br (decide (y1.1.kind=(2:Int))) (J16 ((decide (y13.name=y1.1.text)))) (J16 (false))) (λq15=>br q15 (ck ((y1.2.stream.i + (1:Int))) <| some (y13.number,true,(zN.mk { y1.2.stream with i:=(y1.2.stream.i + (1:Int)) } y1.2.t y1.2.at_ y1.2.e))) (ck ((q3 + (1:Int))) <| L4 ((q3 + (1:Int)))))) (cal (zbS y1.2 (7:Int)) λy20=>some ((0:Int),y20.1,y20.2))) (((0:Int)))

def zbC (a_c:UInt8):Option (UInt8) :=
 some ((a_c ||| (32:UInt8)))

def zea (a_s:Str) (zdL:Int) (zcJ:Int):Option (UInt64 × Er) :=
 br (decide (a_s=(Str.mk []))) (none) (jp (ι:=Str × Int) (λJ2=>jp (ι:=Bool) (λJ4=>br (decide ((2:Int) <= zdL)) (J4 ((decide (zdL <= (36:Int))))) (J4 (false))) (λq3=>br q3 (J2 (a_s,zdL)) (br (decide (zdL=(0:Int))) (cal (zs a_s.b (0:Int)) λy6=>br (decide (y6=(48:UInt8))) (jp (ι:=Bool) (λJ8=>br (decide ((3:Int) <= (a_s.b.length:Int))) (cal (zs a_s.b (1:Int)) λy10=>cal (zbC y10) λy11=>J8 ((decide (y11=(98:UInt8))))) (J8 (false))) (λq7=>br q7 (asr (decide (0 <= (2:Int)/\(2:Int) <= (a_s.b.length:Int)/\(a_s.b.length:Int) <= (a_s.b.length:Int))) <| J2 ((Str.mk ((a_s.b.take ((a_s.b.length:Int)).toNat).drop ((2:Int)).toNat)),(2:Int))) (jp (ι:=Bool) (λJ14=>br (decide ((3:Int) <= (a_s.b.length:Int))) (cal (zs a_s.b (1:Int)) λy16=>cal (zbC y16) λy17=>J14 ((decide (y17=(111:UInt8))))) (J14 (false))) (λq13=>br q13 (asr (decide (0 <= (2:Int)/\(2:Int) <= (a_s.b.length:Int)/\(a_s.b.length:Int) <= (a_s.b.length:Int))) <| J2 ((Str.mk ((a_s.b.take ((a_s.b.length:Int)).toNat).drop ((2:Int)).toNat)),(8:Int))) (jp (ι:=Bool) (λJ20=>br (decide ((3:Int) <= (a_s.b.length:Int))) (cal (zs a_s.b (1:Int)) λy22=>cal (zbC y22) λy23=>J20 ((decide (y23=(120:UInt8))))) (J20 (false))) (λq19=>br q19 (asr (decide (0 <= (2:Int)/\(2:Int) <= (a_s.b.length:Int)/\(a_s.b.length:Int) <= (a_s.b.length:Int))) <| J2 ((Str.mk ((a_s.b.take ((a_s.b.length:Int)).toNat).drop ((2:Int)).toNat)),(16:Int))) (asr (decide (0 <= (1:Int)/\(1:Int) <= (a_s.b.length:Int)/\(a_s.b.length:Int) <= (a_s.b.length:Int))) <| J2 ((Str.mk ((a_s.b.take ((a_s.b.length:Int)).toNat).drop ((1:Int)).toNat)),(8:Int))))))))) (J2 (a_s,(10:Int)))) (none)))) (λq1=>jp (ι:=Int) (λJ27=>br (decide (zcJ=(0:Int))) (J27 ((64:Int))) (jp (ι:=Bool) (λJ29=>br (decide (zcJ < (0:Int))) (J29 (true)) (J29 ((decide ((64:Int) < zcJ))))) (λq28=>br q28 (none) (J27 (zcJ))))) (λq26=>jp (ι:=UInt64) (λJ32=>br (decide (q1.2=(10:Int))) (J32 ((1844674407370955162:UInt64))) (br (decide (q1.2=(16:Int))) (J32 ((1152921504606846976:UInt64))) (asr (!decide ((UInt64.ofNat (q1.2 % 18446744073709551616).toNat)=0)) <| J32 ((((18446744073709551615:UInt64) / (UInt64.ofNat (q1.2 % 18446744073709551616).toNat)) + (1:UInt64)))))) (λq31=>asr (Nat.ble (UInt64.ofNat (q26 % 18446744073709551616).toNat).toNat 64) <| asr (Nat.ble q1.1.b.length 68719476736) <| lp (ι:=Bool × UInt64 × Int) (λL37 q36=>br (decide (q36.2.2 < (q1.1.b.length:Int))) (jp (ι:=Bool × UInt64) (λJ60=>cal (zs q1.1.b q36.2.2) λy61=>jp (ι:=UInt8) (λJ63=>jp (ι:=Bool) (λJ65=>br (decide (y61=(95:UInt8))) (J65 ((decide (zdL=(0:Int))))) (J65 (false))) (λq64=>br q64 (J60 (true,q36.2.1)) (jp (ι:=Bool) (λJ68=>br (decide ((48:UInt8) <= y61)) (J68 ((decide (y61 <= (57:UInt8))))) (J68 (false))) (λq67=>br q67 (J63 ((y61 - (48:UInt8)))) (cal (zbC y61) λy70=>jp (ι:=Bool) (λJ72=>br (decide ((97:UInt8) <= y70)) (cal (zbC y61) λy74=>J72 ((decide (y74 <= (122:UInt8))))) (J72 (false))) (λq71=>br q71 (cal (zbC y61) λy75=>J63 (((y75 - (97:UInt8)) + (10:UInt8)))) (none))))))) (λq62=>br (decide ((UInt8.ofNat (q1.2 % 256).toNat) <= q62)) (none) (br (decide (q31 <= q36.2.1)) (none) (jp (ι:=Bool) (λJ77=>br (decide (((q36.2.1 * (UInt64.ofNat (q1.2 % 18446744073709551616).toNat)) + q62.toUInt64) < (q36.2.1 * (UInt64.ofNat (q1.2 % 18446744073709551616).toNat)))) (J77 (true)) (J77 ((decide (((zex (1:UInt64) (UInt64.ofNat (q26 % 18446744073709551616).toNat).toNat) - (1:UInt64)) < ((q36.2.1 * (UInt64.ofNat (q1.2 % 18446744073709551616).toNat)) + q62.toUInt64)))))) (λq76=>br q76 (none) (J60 (q36.1,((q36.2.1 * (UInt64.ofNat (q1.2 % 18446744073709551616).toNat)) + q62.toUInt64)))))))) (λq59=>ck ((q36.2.2 + (1:Int))) <| L37 (q59.1,q59.2,(q36.2.2 + (1:Int))))) (jp (ι:=Bool) (λJ81=>br q36.1 (none) (J81 (false))) (λq80=>br q80 (none) (some (q36.2.1,(Er.mk false)))))) ((false,(0:UInt64),(0:Int)))))))

def zdJ (a_s:Str) (zdL:Int) (zcJ:Int):Option (UInt64 × Er) :=
 cal (zea a_s zdL zcJ) λy1=>br y1.2.bad (none) (some (y1.1,(Er.mk false)))

def zdX (a_s:Str):Option ((List UInt8)) :=
 lp (ι:=(List UInt8) × Int) (λL2 q1=>ck ((q1.2 + (1:Int))) <| br (decide ((q1.2 + (1:Int)) < (a_s.b.length:Int))) (ck ((q1.2 + (2:Int))) <| asr (decide (0 <= q1.2/\q1.2 <= (q1.2 + (2:Int))/\(q1.2 + (2:Int)) <= (a_s.b.length:Int))) <| cal (zdJ (Str.mk ((a_s.b.take ((q1.2 + (2:Int))).toNat).drop (q1.2).toNat)) (16:Int) (8:Int)) λy14=>asr (Nat.ble (q1.1.length + ([y14.1.toUInt8]:(List UInt8)).length) 68719476736) <| ck ((q1.2 + (2:Int))) <| L2 ((q1.1 ++ ([y14.1.toUInt8]:(List UInt8))),(q1.2 + (2:Int)))) (some (q1.1))) ((([]:(List UInt8)),(0:Int)))

def zdF (a_p:zN) (a_l:(List zaC)) (zek:Int):Option (Int × Bool × zN) :=
 cal (zbW a_p) λy1=>lp (ι:=Int) (λL4 q3=>jp (ι:=Bool) (λJ13=>br (decide (q3 < (a_l.length:Int))) (J13 ((decide (y1.1.kind=(2:Int))))) (J13 (false))) (λq12=>br q12 (cal (zs a_l q3) λy15=>br (decide (y15.name=y1.1.text)) (ck ((y1.2.stream.i + (1:Int))) <| some (q3,true,(zN.mk { y1.2.stream with i:=(y1.2.stream.i + (1:Int)) } y1.2.t y1.2.at_ y1.2.e))) (ck ((q3 + (1:Int))) <| L4 ((q3 + (1:Int))))) (cal (zbS y1.2 (7:Int)) λy18=>some ((0:Int),y18.1,y18.2)))) ((zek))

def zc3 (zx:zN->zg->Int->Val->Option (Bool × zN × Val)) (zD:zN->Int->Int->Option (Val × Bool × zN)) (zF:zN->zg->Int->Val->Option (Bool × zN × Val)) (zH:zN->zg->Val->Int->Option (Bool × zN × Val)) (zu:zN->zg->Int->Int->Val->Option (Bool × zN × Int × Val)) (zr:zN->zg->Int->Int->Val->Option (Bool × zN × Int × Val)) (a_a0:zN) (a_a1:zg) (a_a2:Int) (a_a3:Val):Option (Bool × zN × Val) :=
 ck ((a_a2 + (1:Int))) <| cal (zD a_a0 a_a1.of (a_a2 + (1:Int))) λy3=>jp (ι:=Val) (λJ6=>asr (Nat.ble (a_a3.l.length + ([(Val.mk (0:Int) (0:Int) ([]:(List UInt8)) ([]:(List Val)) (0:Int) ([]:(List Raw)))]:(List Val)).length) 68719476736) <| asr (decide (0 <= ((a_a3.l.length:Nat):Int)/\((a_a3.l.length:Nat):Int) < (((a_a3.l ++ ([(Val.mk (0:Int) (0:Int) ([]:(List UInt8)) ([]:(List Val)) (0:Int) ([]:(List Raw)))]:(List Val))).length:Nat):Int))) <| cal ((a_a3.l ++ ([(Val.mk (0:Int) (0:Int) ([]:(List UInt8)) ([]:(List Val)) (0:Int) ([]:(List Raw)))]:(List Val)))[((a_a3.l.length:Nat):Int).toNat]?) λy11=>J6 ((Val.mk a_a3.kind a_a3.n a_a3.b ((a_a3.l ++ ([(Val.mk (0:Int) (0:Int) ([]:(List UInt8)) ([]:(List Val)) (0:Int) ([]:(List Raw)))]:(List Val))).set (((a_a3.l.length:Nat):Int).toNat) y3.1) a_a3.rule a_a3.more))) (λq5=>some (y3.2.1,y3.2.2,q5))
def zda (zx:zN->zg->Int->Val->Option (Bool × zN × Val)) (zD:zN->Int->Int->Option (Val × Bool × zN)) (zF:zN->zg->Int->Val->Option (Bool × zN × Val)) (zH:zN->zg->Val->Int->Option (Bool × zN × Val)) (zu:zN->zg->Int->Int->Val->Option (Bool × zN × Int × Val)) (zr:zN->zg->Int->Int->Val->Option (Bool × zN × Int × Val)) (a_p:zN) (a_i:Int) (za:Int):Option (Val × Bool × zN) :=
 br (decide ((16:Int) < za)) (cal (zbS a_p (5:Int)) λy2=>some ((Val.mk (0:Int) (0:Int) ([]:(List UInt8)) ([]:(List Val)) (0:Int) ([]:(List Raw))),y2.1,y2.2)) (jp (ι:=Bool) (λJ4=>br (decide (a_i < (0:Int))) (J4 (true)) (J4 ((decide ((a_p.t.types.length:Int) <= a_i))))) (λq3=>br q3 (cal (zbS a_p (9:Int)) λy6=>some ((Val.mk (0:Int) (0:Int) ([]:(List UInt8)) ([]:(List Val)) (0:Int) ([]:(List Raw))),y6.1,y6.2)) (cal (zs a_p.t.types a_i) λy7=>jp (ι:=Bool × Val × zN) (λJ13=>br (decide (y7.kind=(1:Int))) (cal (zcL a_p (Str.mk [84,82,85,69])) λy14=>br y14.1 (J13 (y14.1,(Val.mk y7.kind (1:Int) ([]:(List UInt8)) ([]:(List Val)) (0:Int) ([]:(List Raw))),y14.2)) (cal (zbT y14.2 (Str.mk [70,65,76,83,69])) λy15=>J13 (y15.1,(Val.mk y7.kind (0:Int) ([]:(List UInt8)) ([]:(List Val)) (0:Int) ([]:(List Raw))),y15.2))) (br (decide (y7.kind=(4:Int))) (cal (zbT a_p (Str.mk [78,85,76,76])) λy16=>J13 (y16.1,(Val.mk y7.kind (0:Int) ([]:(List UInt8)) ([]:(List Val)) (0:Int) ([]:(List Raw))),y16.2)) (br (decide (y7.kind=(2:Int))) (cal (zd5 a_p (3:Int)) λy17=>cal (zbb y17.1 (10:Int) (64:Int)) λy18=>J13 (y17.2.1,(Val.mk y7.kind y18.1 ([]:(List UInt8)) ([]:(List Val)) (0:Int) ([]:(List Raw))),y17.2.2)) (br (decide (y7.kind=(3:Int))) (cal (zeC a_p y7) λy19=>J13 (y19.2.1,(Val.mk y7.kind y19.1 ([]:(List UInt8)) ([]:(List Val)) (0:Int) ([]:(List Raw))),y19.2.2)) (br (decide (y7.kind=(5:Int))) (cal (zd5 a_p (4:Int)) λy20=>cal (zdX y20.1) λy21=>J13 (y20.2.1,(Val.mk y7.kind (0:Int) y21 ([]:(List Val)) (0:Int) ([]:(List Raw))),y20.2.2)) (br (decide (y7.kind=(6:Int))) (cal (zd5 a_p (7:Int)) λy22=>asr (Nat.ble y22.1.b.length 68719476736) <| J13 (y22.2.1,(Val.mk y7.kind (0:Int) y22.1.b ([]:(List Val)) (0:Int) ([]:(List Raw))),y22.2.2)) (br (decide (y7.kind=(10:Int))) (cal (zF a_p y7 za (Val.mk y7.kind (0:Int) ([]:(List UInt8)) ([]:(List Val)) (0:Int) ([]:(List Raw)))) λy24=>J13 (y24.1,y24.2.2,y24.2.1)) (br (decide (y7.kind=(9:Int))) (cal (zdF a_p y7.fields (0:Int)) λy26=>jp (ι:=Bool × zN) (λJ28=>br y26.2.1 (cal (zbT y26.2.2 (Str.mk [58])) λy30=>J28 (y30.1,y30.2)) (J28 (false,y26.2.2))) (λq27=>br q27.1 (cal (zs y7.fields y26.1) λy32=>ck ((za + (1:Int))) <| cal (zD q27.2 y32.ty (za + (1:Int))) λy34=>J13 (y34.2.1,(Val.mk y7.kind y26.1 ([]:(List UInt8)) ([y34.1]:(List Val)) (0:Int) ([]:(List Raw))),y34.2.2)) (J13 (y26.2.1,(Val.mk y7.kind (0:Int) ([]:(List UInt8)) ([]:(List Val)) (0:Int) ([]:(List Raw))),q27.2)))) (jp (ι:=Bool) (λJ38=>br (decide (y7.kind=(7:Int))) (J38 ((decide (y7.kind=(7:Int))))) (J38 ((decide (y7.kind=(8:Int)))))) (λq37=>br q37 (cal (zH a_p y7 (Val.mk y7.kind (0:Int) ([]:(List UInt8)) ([]:(List Val)) (0:Int) ([]:(List Raw))) za) λy39=>J13 (y39.1,y39.2.2,y39.2.1)) (J13 (false,(Val.mk y7.kind (0:Int) ([]:(List UInt8)) ([]:(List Val)) (0:Int) ([]:(List Raw))),a_p)))))))))))) (λq12=>jp (ι:=Bool) (λJ46=>br q12.1 (J46 ((decide (q12.2.2.e=(0:Int))))) (J46 (false))) (λq45=>some (q12.2.1,q45,q12.2.2))))))
def zdC (zx:zN->zg->Int->Val->Option (Bool × zN × Val)) (zD:zN->Int->Int->Option (Val × Bool × zN)) (zF:zN->zg->Int->Val->Option (Bool × zN × Val)) (zH:zN->zg->Val->Int->Option (Bool × zN × Val)) (zu:zN->zg->Int->Int->Val->Option (Bool × zN × Int × Val)) (zr:zN->zg->Int->Int->Val->Option (Bool × zN × Int × Val)) (a_p:zN) (zT:zg) (zy:Int) (zat:Val):Option (Bool × zN × Val) :=
 cal (zbT a_p (Str.mk [123])) λy2=>br (!y2.1) (some (false,y2.2,zat)) (cal (zcL y2.2 (Str.mk [125])) λy3=>br y3.1 (some (true,y3.2,zat)) (lp (ι:=zN × Val) (λL5 q4=>cal (zx q4.1 zT zy q4.2) λy10=>br (!y10.1) (some (false,y10.2.1,y10.2.2)) (cal (zcL y10.2.1 (Str.mk [44])) λy12=>br (!y12.1) (cal (zbT y12.2 (Str.mk [125])) λy13=>some (y13.1,y13.2,y10.2.2)) (L5 (y12.2,y10.2.2)))) ((y3.2,zat))))
def zdx (zx:zN->zg->Int->Val->Option (Bool × zN × Val)) (zD:zN->Int->Int->Option (Val × Bool × zN)) (zF:zN->zg->Int->Val->Option (Bool × zN × Val)) (zH:zN->zg->Val->Int->Option (Bool × zN × Val)) (zu:zN->zg->Int->Int->Val->Option (Bool × zN × Int × Val)) (zr:zN->zg->Int->Int->Val->Option (Bool × zN × Int × Val)) (a_p:zN) (a_x:zg) (a_v:Val) (za:Int):Option (Bool × zN × Val) :=
 asr (decide (0 <= (a_x.fields.length:Int)/\(a_x.fields.length:Int) <= 68719476736)) <| cal (zu a_p a_x (0:Int) za (Val.mk a_v.kind a_v.n a_v.b (List.replicate ((a_x.fields.length:Int)).toNat (Val.mk (0:Int) (0:Int) ([]:(List UInt8)) ([]:(List Val)) (0:Int) ([]:(List Raw)))) a_v.rule a_v.more)) λy5=>some (y5.1,y5.2.1,y5.2.2.2)
def zc8 (zx:zN->zg->Int->Val->Option (Bool × zN × Val)) (zD:zN->Int->Int->Option (Val × Bool × zN)) (zF:zN->zg->Int->Val->Option (Bool × zN × Val)) (zH:zN->zg->Val->Int->Option (Bool × zN × Val)) (zu:zN->zg->Int->Int->Val->Option (Bool × zN × Int × Val)) (zr:zN->zg->Int->Int->Val->Option (Bool × zN × Int × Val)) (a_p:zN) (zT:zg) (zy:Int) (zat:Int) (zb2:Val):Option (Bool × zN × Int × Val) :=
 cal (zbT a_p (Str.mk [123])) λy2=>br (!y2.1) (some (false,y2.2,zy,zb2)) (cal (zcL y2.2 (Str.mk [125])) λy3=>br y3.1 (some (true,y3.2,zy,zb2)) (lp (ι:=zN × Int × Val) (λL5 q4=>cal (zr q4.1 zT q4.2.1 zat q4.2.2) λy10=>br (!y10.1) (some (false,y10.2.1,y10.2.2.1,y10.2.2.2)) (cal (zcL y10.2.1 (Str.mk [44])) λy12=>br (!y12.1) (cal (zbT y12.2 (Str.mk [125])) λy13=>some (y13.1,y13.2,y10.2.2.1,y10.2.2.2)) (L5 (y12.2,y10.2.2.1,y10.2.2.2)))) ((y3.2,zy,zb2))))
def zcY (zx:zN->zg->Int->Val->Option (Bool × zN × Val)) (zD:zN->Int->Int->Option (Val × Bool × zN)) (zF:zN->zg->Int->Val->Option (Bool × zN × Val)) (zH:zN->zg->Val->Int->Option (Bool × zN × Val)) (zu:zN->zg->Int->Int->Val->Option (Bool × zN × Int × Val)) (zr:zN->zg->Int->Int->Val->Option (Bool × zN × Int × Val)) (a_a0:zN) (a_a1:zg) (a_a2:Int) (a_a3:Int) (a_a4:Val):Option (Bool × zN × Int × Val) :=
 cal (zdF a_a0 a_a1.fields a_a2) λy2=>br (!y2.2.1) (some (false,y2.2.2,a_a2,a_a4)) (jp (ι:=Bool × Val × zN) (λJ4=>cal (zs a_a1.fields y2.1) λy5=>ck ((a_a3 + (1:Int))) <| cal (zD y2.2.2 y5.ty (a_a3 + (1:Int))) λy7=>J4 (y7.2.1,y7.1,y7.2.2)) (λq3=>cal (zs a_a1.fields y2.1) λy10=>jp (ι:=Bool) (λJ13=>br (!y10.has) (J13 (true)) (cal (zeY fuel q3.2.1 y10.dflt) λy15=>J13 ((!y15)))) (λq12=>jp (ι:=Val) (λJ17=>br q12 (asr (decide (0 <= y2.1/\y2.1 < ((a_a4.l.length:Nat):Int))) <| cal (a_a4.l[y2.1.toNat]?) λy19=>J17 ((Val.mk a_a4.kind a_a4.n a_a4.b (a_a4.l.set y2.1.toNat q3.2.1) a_a4.rule a_a4.more))) (J17 (a_a4))) (λq16=>ck ((y2.1 + (1:Int))) <| some (q3.1,q3.2.2,(y2.1 + (1:Int)),q16)))))
def zbJ:Nat->(zN->zg->Int->Val->Option (Bool × zN × Val)) × (zN->Int->Int->Option (Val × Bool × zN)) × (zN->zg->Int->Val->Option (Bool × zN × Val)) × (zN->zg->Val->Int->Option (Bool × zN × Val)) × (zN->zg->Int->Int->Val->Option (Bool × zN × Int × Val)) × (zN->zg->Int->Int->Val->Option (Bool × zN × Int × Val))
 | 0=>(λ_ _ _ _=>none,λ_ _ _=>none,λ_ _ _ _=>none,λ_ _ _ _=>none,λ_ _ _ _ _=>none,λ_ _ _ _ _=>none)
 | n + 1=>let p:=zbJ n;(zc3 p.1 p.2.1 p.2.2.1 p.2.2.2.1 p.2.2.2.2.1 p.2.2.2.2.2,zda p.1 p.2.1 p.2.2.1 p.2.2.2.1 p.2.2.2.2.1 p.2.2.2.2.2,zdC p.1 p.2.1 p.2.2.1 p.2.2.2.1 p.2.2.2.2.1 p.2.2.2.2.2,zdx p.1 p.2.1 p.2.2.1 p.2.2.2.1 p.2.2.2.2.1 p.2.2.2.2.2,zc8 p.1 p.2.1 p.2.2.1 p.2.2.2.1 p.2.2.2.2.1 p.2.2.2.2.2,zcY p.1 p.2.1 p.2.2.1 p.2.2.2.1 p.2.2.2.2.1 p.2.2.2.2.2)
def zaK (n:Nat):zN->zg->Int->Val->Option (Bool × zN × Val):=(zbJ n).1
def zau (n:Nat):zN->Int->Int->Option (Val × Bool × zN):=(zbJ n).2.1
def zaR (n:Nat):zN->zg->Int->Val->Option (Bool × zN × Val):=(zbJ n).2.2.1
def zaQ (n:Nat):zN->zg->Val->Int->Option (Bool × zN × Val):=(zbJ n).2.2.2.1
def zaJ (n:Nat):zN->zg->Int->Int->Val->Option (Bool × zN × Int × Val):=(zbJ n).2.2.2.2.1
def zaE (n:Nat):zN->zg->Int->Int->Val->Option (Bool × zN × Int × Val):=(zbJ n).2.2.2.2.2

def zeQ (a_t:zab) (a_i:Int) (za3:Str):Option (Val × Int × Int) :=
 cal (ziz za3) λy2=>br (!decide (y2.2.2=(0:Int))) (some ((Val.mk (0:Int) (0:Int) ([]:(List UInt8)) ([]:(List Val)) (0:Int) ([]:(List Raw))),y2.2.1,y2.2.2)) (jp (ι:=Bool) (λJ4=>br (decide (a_i < (0:Int))) (J4 (true)) (J4 ((decide ((a_t.types.length:Int) <= a_i))))) (λq3=>br q3 (some ((Val.mk (0:Int) (0:Int) ([]:(List UInt8)) ([]:(List Val)) (0:Int) ([]:(List Raw))),(0:Int),(9:Int))) (cal (zau fuel (zN.mk (zgD.mk y2.1 (0:Int)) a_t (0:Int) (0:Int)) a_i (0:Int)) λy7=>jp (ι:=Bool × zN) (λJ10=>br y7.2.1 (cal (zbW y7.2.2) λy12=>J10 ((!decide (y12.1.kind=(0:Int))),y12.2)) (J10 (false,y7.2.2))) (λq9=>jp (ι:=Bool × zN) (λJ14=>br q9.1 (cal (zbS q9.2 (7:Int)) λy15=>J14 (y15.1,y15.2)) (J14 (y7.2.1,q9.2))) (λq13=>br (!q13.1) (some ((Val.mk (0:Int) (0:Int) ([]:(List UInt8)) ([]:(List Val)) (0:Int) ([]:(List Raw))),q13.2.at_,q13.2.e)) (cal (zeZ a_t a_i y7.1) λy18=>br (!y18) (some ((Val.mk (0:Int) (0:Int) ([]:(List UInt8)) ([]:(List Val)) (0:Int) ([]:(List Raw))),(0:Int),(13:Int))) (some (y7.1,(0:Int),(0:Int)))))))))
inductive PR (α:Type)
 | ok (x:α) (r:List zU)
 | bad (p e:Int)
def isW (t:zU) (s:List UInt8):Bool:=(decide (t.kind=5) || decide (t.kind=6)) && decide (t.text=⟨s⟩)
def atp:List zU->Int
 | []=>0
 | t :: _=>t.at_
def pIs (s:List UInt8):List zU->Option (List zU)
 | []=>none
 | t :: r=>bif isW t s then some r else none
def pOf (k:Int):List zU->Option (Str × List zU)
 | []=>none
 | t :: r=>bif decide (t.kind=k) then some (t.text,r) else none
def zln (fs:List zaC) (s:Str):Nat->Nat->Option Nat
 | 0,_=>none
 | n + 1,k=>match fs[k]? with
  | some f=>bif decide (f.name=s) then some k else zln fs s n (k + 1)
  | none=>none
def zon (fs:List zaC) (k:Nat):List zU->Option (Nat × List zU)
 | []=>none
 | t :: r=>bif decide (t.kind=2) then (zln fs t.text (fs.length - k) k).map λj=>(j,r) else none
def zmR (s:Str):List zag->Option Int
 | []=>none
 | y :: l=>bif decide (y.name=s) then some y.number else zmR s l
def zp5 (x:zg):List zU->Option (Int × List zU)
 | []=>none
 | t :: r=>bif decide (t.kind=2) then (zmR t.text x.items).map λj=>(j,r) else none
def zql (s:Str):Int:=match zbb s 10 64 with
 | some r=>r.1
 | none=>0
def zxp (s:Str):List UInt8:=match zdX s with
 | some r=>r
 | none=>[]
def zjZ (f:List zU->PR Val):Nat->List zU->List Val->PR (List Val)
 | 0,ts,_=>.bad (atp ts) 7
 | n + 1,ts,acc=>match f ts with
  | .bad p e=>.bad p e
  | .ok w r=>match pIs [44] r with
   | some r2=>zjZ f n r2 (acc ++ [w])
   | none=>match pIs [125] r with
    | some r3=>.ok (acc ++ [w]) r3
    | none=>.bad (atp r) 7
open Classical in
/-- A field's value is laid, but for one that is the default. -/
noncomputable def zg5 (x:zaC) (j:Nat) (w:Val) (acc:List Val):List Val:=if x.has=true/\w=x.dflt then acc else acc.set j w
theorem zrW {x:zaC} {j:Nat} {w:Val} {acc:List Val} (h:x.has=false):zg5 x j w acc=acc.set j w:=by
 unfold zg5;rw [if_neg (by rw [h];simp)]
theorem zuk {x:zaC} {j:Nat} {w:Val} {acc:List Val} (h:w ≠ x.dflt):zg5 x j w acc=acc.set j w:=by
 unfold zg5;rw [if_neg λk=>h k.2]
theorem zyK {x:zaC} {j:Nat} {w:Val} {acc:List Val} (h:x.has=true) (k:w=x.dflt):zg5 x j w acc=acc:=by
 unfold zg5;rw [if_pos ⟨h,k⟩]
noncomputable def zkg (fs:List zaC) (f:Int->List zU->PR Val):Nat->List zU->Nat->List Val->PR (List Val)
 | 0,ts,_,_=>.bad (atp ts) 7
 | n + 1,ts,k,acc=>match zon fs k ts with
  | none=>.bad (atp ts) 7
  | some (j,r0)=>match fs[j]? with
   | none=>.bad (atp ts) 7
   | some x=>match f x.ty r0 with
    | .bad p e=>.bad p e
    | .ok w r=>match pIs [44] r with
     | some r2=>zkg fs f n r2 (j + 1) (zg5 x j w acc)
     | none=>match pIs [125] r with
      | some r3=>.ok (zg5 x j w acc) r3
      | none=>.bad (atp r) 7
def PR.map {α β:Type} (f:α->β):PR α->PR β
 | .ok x r=>.ok (f x) r
 | .bad p e=>.bad p e
def zdH (k n:Int) (b:List UInt8) (l:List Val):Val:=Val.mk k n b l 0 []
def zvj (f:List zU->PR Val) (ts:List zU):PR (List Val):=match pIs [123] ts with
 | none=>.bad (atp ts) 7
 | some r=>match pIs [125] r with
  | some r2=>.ok [] r2
  | none=>zjZ f r.length r []
noncomputable def zsd (fs:List zaC) (f:Int->List zU->PR Val) (ts:List zU):PR (List Val):=match pIs [123] ts with
 | none=>.bad (atp ts) 7
 | some r=>match pIs [125] r with
  | some r2=>.ok (List.replicate fs.length zcV) r2
  | none=>zkg fs f r.length r 0 (List.replicate fs.length zcV)
noncomputable def pvK (f:Int->List zU->PR Val) (x:zg) (ts:List zU):PR Val :=
 if x.kind=1 then (match pIs [84,82,85,69] ts with
  | some r=>.ok (zdH 1 1 [] []) r
  | none=>match pIs [70,65,76,83,69] ts with
   | some r=>.ok (zdH 1 0 [] []) r
   | none=>.bad (atp ts) 7)
 else if x.kind=4 then (match pIs [78,85,76,76] ts with
  | some r=>.ok (zdH 4 0 [] []) r
  | none=>.bad (atp ts) 7)
 else if x.kind=2 then (match pOf 3 ts with
  | some (s,r)=>.ok (zdH 2 (zql s) [] []) r
  | none=>.bad (atp ts) 7)
 else if x.kind=3 then (match zp5 x ts with
  | some (n,r)=>.ok (zdH 3 n [] []) r
  | none=>.bad (atp ts) 7)
 else if x.kind=5 then (match pOf 4 ts with
  | some (s,r)=>.ok (zdH 5 0 (zxp s) []) r
  | none=>.bad (atp ts) 7)
 else if x.kind=6 then (match pOf 7 ts with
  | some (s,r)=>.ok (zdH 6 0 s.b []) r
  | none=>.bad (atp ts) 7)
 else if x.kind=10 then (PR.map (zdH 10 0 []) (zvj (f x.of) ts))
 else if x.kind=9 then (match zon x.fields 0 ts with
  | none=>.bad (atp ts) 7
  | some (j,r)=>match pIs [58] r with
   | none=>.bad (atp r) 7
   | some r2=>match x.fields[j]? with
    | none=>.bad (atp r) 7
    | some y=>PR.map (λw=>zdH 9 (j:Int) [] [w]) (f y.ty r2))
 else (PR.map (zdH x.kind 0 []) (zsd x.fields f ts))
noncomputable def pv:Nat->List zg->Int->List zU->PR Val
 | 0,_,_,ts=>.bad (atp ts) 5
 | h + 1,l,i,ts=>match l[i.toNat]? with
  | none=>.bad (atp ts) 9
  | some x=>pvK (pv h l) x ts
theorem zz2 {h:Nat} {l:List zg} {i:Int} {x:zg} (hx:l[i.toNat]?=some x) (ts:List zU):pv (h + 1) l i ts=pvK (pv h l) x ts:=by
 show (match l[i.toNat]? with | none=>_ | some x=>_)=_
 rw [hx]

/-! ### Where it stands -/
/-- From a place on these signs stand; the last one is the end. -/
structure Sd (L:List zU) (a:Int) (ts:List zU):Prop where
 a0:0 <= a
 len:L.length <= 9000
 dr:L.drop a.toNat=ts
 ends:∃ l t,ts=l ++ [t]/\t.kind=0
theorem Sd.cons {L a ts} (h:Sd L a ts):∃ t r,ts=t :: r/\zs L a=some t/\a.toNat + ts.length=L.length/\(t.kind ≠ 0->Sd L (a + 1) r):=by
 obtain ⟨l,e,h1,h2⟩:=h.ends
 have hd:=h.dr
 cases ts with
 | nil=>cases l <;> cases h1
 | cons t r =>
  have hlen:a.toNat + (t :: r).length=L.length:=by
   have:=congrArg List.length hd
   rw [zLd,zLc] at this
   rw [zLc];omega
  refine ⟨t,r,rfl,?_,hlen,λhk=>⟨by have:=h.a0;omega,h.len,?_,?_⟩⟩
  ·have e:L[a.toNat]?=some t:=by
    have:=List.getElem?_drop (xs:=L) (i:=a.toNat) (j:=0)
    rw [hd] at this
    simpa using this.symm
   unfold zs
   have h0:=h.a0
   cases a with
   | ofNat n=>exact e
   | negSucc n=>omega
  ·have e:(a + 1).toNat=a.toNat + 1:=by have:=h.a0;omega
   rw [e,<- List.drop_drop,hd];rfl
  ·cases l with
   | nil =>
    injection h1 with h1 h3
    subst h1;exact absurd h2 hk
   | cons y l =>
    injection h1 with h1 h3
    exact ⟨l,e,h3,h2⟩
theorem zx4 {s:List UInt8} {ts r:List zU} (h:pIs s ts=some r):∃ t,ts=t :: r/\isW t s=true:=by
 cases ts with
 | nil=>cases h
 | cons t r' =>
  change (bif isW t s then some r' else none)=some r at h
  cases hb:isW t s with
  | true=>rw [hb,zCt] at h;cases h;exact ⟨t,rfl,hb⟩
  | false=>rw [hb,zCf] at h;cases h
theorem zwM {t:zU} {s:List UInt8} (h:isW t s=true):t.kind ≠ 0:=by
 unfold isW at h
 rw [zBa,Bool.or_eq_true] at h
 rcases h.1 with h | h
 ·have:=zOT h;omega
 ·have:=zOT h;omega
theorem Sd.is {L a ts r s} (h:Sd L a ts) (hs:pIs s ts=some r):Sd L (a + 1) r/\r.length + 1=ts.length:=by
 obtain ⟨t,e,hw⟩:=zx4 hs
 obtain ⟨t',r',e',_,_,h2⟩:=h.cons
 subst e
 cases e'
 exact ⟨h2 (zwM hw),rfl⟩
theorem zw1 {k:Int} {s:Str} {ts r:List zU} (h:pOf k ts=some (s,r)):∃ t,ts=t :: r/\t.kind=k/\t.text=s:=by
 cases ts with
 | nil=>cases h
 | cons t r' =>
  change (bif decide (t.kind=k) then some (t.text,r') else none)=some (s,r) at h
  cases hb:decide (t.kind=k) with
  | true=>rw [hb,zCt] at h;cases h;exact ⟨t,rfl,zOT hb,rfl⟩
  | false=>rw [hb,zCf] at h;cases h
theorem Sd.next {L a ts t r} (h:Sd L a ts) (e:ts=t :: r) (hk:t.kind ≠ 0):Sd L (a + 1) r/\r.length + 1=ts.length:=by
 obtain ⟨t',r',e',_,_,h2⟩:=h.cons
 subst e
 cases e'
 exact ⟨h2 hk,rfl⟩

section small
variable {L:List zU} {a:Int} {ts:List zU} {t:zab} {p:Int}
def st (L:List zU) (t:zab) (p:Int) (a:Int):zN:=⟨⟨L,a⟩,t,p,0⟩
theorem zlJ (h:Sd L a ts) (e:Int):zbS (st L t p a) e=some (false,⟨⟨L,a⟩,t,atp ts,e⟩):=by
 obtain ⟨y,r,e1,e2,_⟩:=h.cons
 refine T.eqs ?_
 unfold zbS
 refine T.jp0 (T.br (λ_=>T.eq (y:=(y,st L t p a)) ?_ (T.some ?_)) λh=>by cases h)
 ·unfold zbW
  exact (T.eqs (T.eq e2 (T.some rfl)))
 ·subst e1;rfl
theorem zoV (h:Sd L a ts):∃ y r,ts=y :: r/\zbW (st L t p a)=some (y,st L t p a):=by
 obtain ⟨y,r,e1,e2,_⟩:=h.cons
 refine ⟨y,r,e1,?_⟩
 unfold zbW
 exact (T.eqs (T.eq e2 (T.some rfl)))
theorem zvM (h:Sd L a ts) (s:List UInt8):zcL (st L t p a) ⟨s⟩=some (match pIs s ts with | some _=>(true,st L t p (a + 1)) | none=>(false,st L t p a)):=by
 obtain ⟨y,r,e1,e2,e3,_⟩:=h.cons
 have ha:=h.a0
 have hl:=h.len
 obtain ⟨y',r',e1',e4⟩:=zoV (t:=t) (p:=p) h
 rw [e1] at e1';cases e1'
 refine T.eqs ?_
 unfold zcL
 refine T.eq e4 ?_
 have hw:isW y s=!((!decide (y.kind=5) && !decide (y.kind=6)) || !decide (y.text=⟨s⟩)):=by
  unfold isW
  cases decide (y.kind=5) <;> cases decide (y.kind=6) <;> cases decide (y.text=⟨s⟩) <;> rfl
 refine T.and' (T.or' (T.br (λhb=>?_) λhb=>?_))
 ·rw [hb] at hw
  subst e1
  have:pIs s (y :: r)=none:=by show (bif isW y s then some r else none)=_;rw [hw];rfl
  rw [this];exact T.some rfl
 ·rw [hb] at hw
  subst e1
  have:pIs s (y :: r)=some r:=by show (bif isW y s then some r else none)=_;rw [hw];rfl
  rw [this]
  refine T.ck ?_ (T.some rfl)
  show _ <= a + 1/\a + 1 <= _
  rw [zLc] at e3;omega
theorem zl0 (h:Sd L a ts) (s:List UInt8):zbT (st L t p a) ⟨s⟩=some (match pIs s ts with | some _=>(true,st L t p (a + 1)) | none=>(false,⟨⟨L,a⟩,t,atp ts,7⟩)):=by
 refine T.eqs ?_
 unfold zbT
 refine T.eq (zvM h s) ?_
 cases hp:pIs s ts with
 | some r=>exact T.jp0 (T.br (λ_=>T.some rfl) λh=>by cases h)
 | none=>exact T.jp0 (T.br (λh=>by cases h) λ_=>T.eq (zlJ h 7) (T.some rfl))
theorem zA0 (h:Sd L a ts) (k:Int):zd5 (st L t p a) k=some (match pOf k ts with | some (s,_)=>(s,true,st L t p (a + 1)) | none=>(⟨[]⟩,false,⟨⟨L,a⟩,t,atp ts,7⟩)):=by
 obtain ⟨y,r,e1,e2,e3,_⟩:=h.cons
 have ha:=h.a0
 have hl:=h.len
 obtain ⟨y',r',e1',e4⟩:=zoV (t:=t) (p:=p) h
 rw [e1] at e1';cases e1'
 refine T.eqs ?_
 unfold zd5
 refine T.eq e4 (T.br (λhb=>?_) λhb=>?_)
 ·have:pOf k ts=none:=by subst e1;show (bif decide (y.kind=k) then some (y.text,r) else none)=_;rw [show decide (y.kind=k)=false by simpa using hb];rfl
  rw [this]
  exact T.eq (zlJ h 7) (T.some rfl)
 ·have:pOf k ts=some (y.text,r):=by subst e1;show (bif decide (y.kind=k) then some (y.text,r) else none)=_;rw [show decide (y.kind=k)=true by simpa using hb];rfl
  rw [this]
  refine T.ck ?_ (T.some rfl)
  show _ <= a + 1/\a + 1 <= _
  rw [e1,zLc] at e3;omega
theorem zt3 {fs:List zaC} {s:Str}:∀ {n k j:Nat},zln fs s n k=some j->k <= j/\∃ f,fs[j]?=some f/\f.name=s:=by
 intro n
 induction n with
 | zero=>intro k j h;cases h
 | succ n ih =>
  intro k j h
  change (match fs[k]? with | some f=>(bif decide (f.name=s) then some k else zln fs s n (k + 1)) | none=>none)=some j at h
  cases hf:fs[k]? with
  | none=>rw [hf] at h;cases h
  | some f =>
   rw [hf] at h
   dsimp only at h
   cases hb:decide (f.name=s) with
   | true=>rw [hb,zCt] at h;cases h;exact ⟨zNl _,f,hf,zOT hb⟩
   | false =>
    rw [hb,zCf] at h
    obtain ⟨h1,h2⟩:=ih h
    exact ⟨by omega,h2⟩
theorem ztI (h:Sd L a ts) (fs:List zaC) (hfl:fs.length <= 1000000) (k:Nat) (hk:k <= 1000000):zdF (st L t p a) fs (k:Int)=some (match zon fs k ts with | some (j,_)=>((j:Int),true,st L t p (a + 1)) | none=>(0,false,⟨⟨L,a⟩,t,atp ts,7⟩)):=by
 obtain ⟨y,r,e1,e2,e3,_⟩:=h.cons
 have ha:=h.a0
 have hl:=h.len
 obtain ⟨y',r',e1',e4⟩:=zoV (t:=t) (p:=p) h
 rw [e1] at e1';cases e1'
 refine T.eqs ?_
 unfold zdF
 refine T.eq e4 ?_
 by_cases hk2:y.kind=2
 ·have e5:zon fs k ts=(zln fs y.text (fs.length - k) k).map λj=>(j,r):=by
   subst e1;show (bif decide (y.kind=2) then (zln fs y.text (fs.length - k) k).map _ else none)=_;rw [zDT hk2];rfl
  rw [e5]
  refine T.lp (ι:=Int) (λq=>∃ m:Nat,q=(m:Int)/\k <= m/\(m <= fs.length \/ m=k)/\zln fs y.text (fs.length - m) m=zln fs y.text (fs.length - k) k) (λq=>((fs.length:Int) - q).toNat) ⟨k,rfl,zNl _,.inr rfl,rfl⟩ (by omega) λJ q ⟨m,e6,hm,hm2,e7⟩ hJ=>?_
  subst e6
  rw [zDT hk2]
  refine T.and' (T.br (λhb=>?_) λhb=>?_)
  ·rw [Bool.and_true] at hb
   have hb:=zOT hb
   refine T.get (by omega) (by omega) λf hf=>?_
   rw [Int.toNat_natCast] at hf
   have e8:zln fs y.text (fs.length - m) m=bif decide (f.name=y.text) then some m else zln fs y.text (fs.length - (m + 1)) (m + 1):=by
    rw [show fs.length - m=(fs.length - (m + 1)) + 1 by omega]
    show (match fs[m]? with | some f=>_ | none=>_)=_
    rw [hf]
   refine T.br (λhn=>?_) λhn=>T.ck (by omega) (hJ _ ⟨m + 1,by omega,by omega,by omega,?_⟩ (by omega))
   ·rw [hn,zCt] at e8
    rw [<- e7,e8]
    refine T.ck ?_ (T.some rfl)
    show _ <= a + 1/\a + 1 <= _
    rw [e1,zLc] at e3;omega
   ·rw [hn,zCf] at e8
    rw [<- e7,e8]
  ·rw [Bool.and_true] at hb
   have hb:=zOF hb
   rw [<- e7,show fs.length - m=0 by omega]
   exact T.eq (zlJ h 7) (T.some rfl)
 ·have e5:zon fs k ts=none:=by subst e1;show (bif decide (y.kind=2) then (zln fs y.text (fs.length - k) k).map _ else none)=_;rw [zDF hk2];rfl
  rw [e5]
  refine T.lp (ι:=Int) (λq=>q=(k:Int)) (λq=>0) rfl (by omega) λJ q _ hJ=>?_
  rw [zDF hk2]
  refine T.and' (T.br (λhb=>by simp at hb) λhb=>?_)
  exact T.eq (zlJ h 7) (T.some rfl)
theorem zAb (h:Sd L a ts) (x:zg) (hil:x.items.length <= 1000000):zeC (st L t p a) x=some (match zp5 x ts with | some (n,_)=>(n,true,st L t p (a + 1)) | none=>(0,false,⟨⟨L,a⟩,t,atp ts,7⟩)):=by
 obtain ⟨y,r,e1,e2,e3,_⟩:=h.cons
 have ha:=h.a0
 have hl:=h.len
 obtain ⟨y',r',e1',e4⟩:=zoV (t:=t) (p:=p) h
 rw [e1] at e1';cases e1'
 refine T.eqs ?_
 unfold zeC
 refine T.eq e4 ?_
 refine T.lp (ι:=Int) (λq=>0 <= q/\q <= (x.items.length:Int)/\(y.kind=2->zmR y.text (x.items.drop q.toNat)=zmR y.text x.items)) (λq=>((x.items.length:Int) - q).toNat) ⟨zIl _,by omega,λ_=>rfl⟩ (by omega) λJ q ⟨q0,q1,q2⟩ hJ=>T.br (λhb=>?_) λhb=>?_
 ·have hb:=zOT hb
  refine T.get q0 hb λit hit=>T.and' ?_
  have hd:x.items.drop q.toNat=it :: x.items.drop (q.toNat + 1):=by
   obtain ⟨h1,h2⟩:=List.getElem?_eq_some_iff.1 hit
   rw [List.drop_eq_getElem_cons h1,h2]
  refine T.br (λhn=>?_) λhn=>T.ck (by omega) (hJ _ ⟨by omega,by omega,λhk=>?_⟩ (by omega))
  ·rw [zBa] at hn
   have hk:=zOT hn.1
   have e5:zp5 x ts=some (it.number,r):=by
    subst e1;show (bif decide (y.kind=2) then (zmR y.text x.items).map _ else none)=_
    rw [hn.1,zCt,<- q2 hk,hd]
    show Option.map _ (bif decide (it.name=y.text) then _ else _)=_
    rw [hn.2];rfl
   rw [e5]
   refine T.ck ?_ (T.some rfl)
   show _ <= a + 1/\a + 1 <= _
   rw [e1,zLc] at e3;omega
  ·rw [zDT hk,Bool.true_and] at hn
   rw [<- q2 hk,hd,show (q + 1).toNat=q.toNat + 1 by omega]
   show _=(bif decide (it.name=y.text) then _ else _)
   rw [hn];rfl
 ·have hb:=zOF hb
  have e5:zp5 x ts=none:=by
   subst e1;show (bif decide (y.kind=2) then (zmR y.text x.items).map _ else none)=_
   cases hk:decide (y.kind=2) with
   | false=>rfl
   | true =>
    rw [zCt,<- q2 (zOT hk),zDn (by omega)];rfl
  rw [e5]
  exact T.eq (zlJ h 7) (T.some rfl)
end small
structure TOk (l:List zg):Prop where
 len:l.length <= 1000
 fl:∀ x ∈ l,x.fields.length <= 1000
 il:∀ x ∈ l,x.items.length <= 100000
 kf:∀ x ∈ l,∀ f ∈ x.fields,0 <= f.ty/\f.ty < l.length
 ko:∀ x ∈ l,x.kind=10->0 <= x.of/\x.of < l.length
 kd:∀ x ∈ l,1 <= x.kind/\x.kind <= 10
structure TokG (t:zU):Prop where
 len:t.text.b.length <= 9000
 num:t.kind=3->∃ r,zbb t.text 10 64=some r
 hex:t.kind=4->∃ r,zdX t.text=some r/\r.length <= 9000
theorem zfG {k n:Int} {b:List UInt8} {l:List Val} (hb:b.length <= 68719476736) (hl:l.length <= 68719476736) (hk:∀ w ∈ l,zcA w):zcA (zdH k n b l) :=
 .mk hb hl (zNz _) (λr hr=>by cases hr) hk
theorem zig (k n:Int) (b:List UInt8) (l:List Val):cnt (zdH k n b l)=1 + (l.map cnt).sum:=zgZ _
theorem zp8:zcA zcV:=.mk (zNz _) (zNz _) (zNz _) (λr hr=>by cases hr) (λw hw=>by cases hw)
theorem znZ:cnt zcV=1:=by rw [zgZ];rfl
theorem zuv:∀ {l:List Val} {j:Nat} {w y:Val},l[j]?=some y->((l.set j w).map cnt).sum + cnt y=(l.map cnt).sum + cnt w
 | [],_,_,_,h=>by simp at h
 | x :: l,0,w,y,h=>by
  simp at h;subst h
  simp only [List.set_cons_zero,List.map_cons,List.sum_cons];omega
 | x :: l,j + 1,w,y,h=>by
  have:=zuv (l:=l) (j:=j) (w:=w) (y:=y) (by simpa using h)
  simp only [List.set_cons_succ,List.map_cons,List.sum_cons];omega
theorem zxk {l:List Val} {j:Nat} {w x:Val} (h:x ∈ l.set j w):x ∈ l \/ x=w:=by
 rcases List.mem_or_eq_of_mem_set h with h | h
 ·exact .inl h
 ·exact .inr h
def VR (L:List zU) (t:zab) (p0:Int) (ts:List zU):PR Val->(Val × Bool × zN)->Prop
 | .ok v rest,r=>∃ a',r=(v,true,st L t p0 a')/\Sd L a' rest/\zcA v/\cnt v + 1000 * rest.length <= 1000 * ts.length
 | .bad p e,r=>r.2.1=false/\r.2.2.at_=p/\r.2.2.e=e/\e ≠ 0/\zcA r.1/\cnt r.1 <= 2000 * ts.length
def KR (L:List zU) (t:zab) (p0:Int) (ts:List zU):PR Val->(Bool × Val × zN)->Prop
 | .ok v rest,q=>∃ a',q=(true,v,st L t p0 a')/\Sd L a' rest/\zcA v/\cnt v + 1000 * rest.length <= 1000 * ts.length
 | .bad p e,q=>q.2.2.at_=p/\q.2.2.e=e/\e ≠ 0/\zcA q.2.1/\cnt q.2.1 <= 2000 * ts.length
def BX (v0:Val) (ts:List zU) (v:Val):Prop:=∃ l,v=Val.mk v0.kind v0.n v0.b l v0.rule v0.more/\(∀ w ∈ l,zcA w)/\l.length <= 10000/\(l.map cnt).sum + 1 <= 2000 * ts.length
def BR (L:List zU) (t:zab) (p0:Int) (v0:Val) (ts:List zU) (c0:Nat):PR (List Val)->(Bool × zN × Val)->Prop
 | .ok l rest,r=>∃ a',r=(true,st L t p0 a',Val.mk v0.kind v0.n v0.b l v0.rule v0.more)/\Sd L a' rest/\(∀ w ∈ l,zcA w)/\l.length <= 10000/\(l.map cnt).sum + 1000 * rest.length + 1001 <= 1000 * ts.length + c0
 | .bad p e,r=>r.1=false/\r.2.1.at_=p/\r.2.1.e=e/\e ≠ 0/\BX v0 ts r.2.2
theorem zkh (n:Nat):zau (n + 1)=zda (zaK n) (zau n) (zaR n) (zaQ n) (zaJ n) (zaE n):=rfl
theorem zmK (n:Nat):zaR (n + 1)=zdC (zaK n) (zau n) (zaR n) (zaQ n) (zaJ n) (zaE n):=rfl
theorem zqB (n:Nat):zaK (n + 1)=zc3 (zaK n) (zau n) (zaR n) (zaQ n) (zaJ n) (zaE n):=rfl
theorem zmH (n:Nat):zaQ (n + 1)=zdx (zaK n) (zau n) (zaR n) (zaQ n) (zaJ n) (zaE n):=rfl
theorem zmz (n:Nat):zaJ (n + 1)=zc8 (zaK n) (zau n) (zaR n) (zaQ n) (zaJ n) (zaE n):=rfl
theorem zpg (n:Nat):zaE (n + 1)=zcY (zaK n) (zau n) (zaR n) (zaQ n) (zaJ n) (zaE n):=rfl
def Rd (L:List zU) (t:zab) (p0:Int) (f:List zU->PR Val) (M:zN->Option (Val × Bool × zN)):Prop:=∀ a ts,Sd L a ts->T (VR L t p0 ts (f ts)) (M (st L t p0 a))
theorem zyU {L : List zU} {t:zab} {p0:Int} {f:List zU->PR Val} {n:Nat} {x:zg} {d:Int} {v0:Val} (hd:0 <= d/\d <= 100) (hf:Rd L t p0 f λs=>zau n s x.of (d + 1)) {a:Int} {ts:List zU} (h:Sd L a ts) (hv:v0.l=[]) :
    T (BR L t p0 v0 ts 0 (zvj f ts)) (zaR (n + 2) (st L t p0 a) x d v0):=by
  obtain ⟨_,_,eT,_,_,_⟩:=h.cons
  have hts:1 <= ts.length:=by rw [eT,zLc];omega
  have bx0:BX v0 ts v0:=⟨[],by rw [<- hv,Val.eta],(λw hw=>by cases hw),zNz _,by simp only [List.map_nil,List.sum_nil];omega⟩
  rw [zmK]
  unfold zdC zvj
  refine T.eq (zl0 h [123]) ?_
  cases h1:pIs [123] ts with
  | none=>exact T.br (λ_=>T.some ⟨rfl,rfl,rfl,by decide,bx0⟩) λh=>by cases h
  | some r =>
    obtain ⟨A1,l1⟩:=h.is h1
    refine T.br (λh=>by cases h) λ_=>T.eq (zvM A1 [125]) ?_
    dsimp only
    cases h2:pIs [125] r with
    | some r2 =>
      obtain ⟨A2,l2⟩:=A1.is h2
      refine T.br (λ_=>T.some ⟨_,by rw [<- hv,Val.eta],A2,(λw hw=>by cases hw),zNz _,?_⟩) λh=>by cases h
      simp only [List.map_nil,List.sum_nil];omega
    | none =>
      refine T.br (λh=>by cases h) λ_=>?_
      have hlen:=A1.len
      obtain ⟨_,_,_,_,hrl,_⟩:=A1.cons
      refine T.lp (ι:=zN × Val) (λq=>∃ a' ts' acc k,q=(st L t p0 a',Val.mk v0.kind v0.n v0.b acc v0.rule v0.more)/\Sd L a' ts'/\(∀ w ∈ acc,zcA w)/\acc.length + ts'.length <= r.length/\ts'.length <= k/\(acc.map cnt).sum + 1000 * ts'.length <= 1000 * r.length/\zjZ f k ts' acc=zjZ f r.length r [])
        (λq=>10000 - q.1.stream.i.toNat) ⟨a + 1,r,[],r.length,by rw [<- hv,Val.eta],A1,(λw hw=>by cases hw),by simp,zNl _,by simp,rfl⟩ (by dsimp only;omega) λJ q ⟨a',ts',acc,k,e1,A2,g1,g2,g3,g4,g5⟩ hJ=>?_
      subst e1
      obtain ⟨y0,r0,ey,_,hA2,_⟩:=A2.cons
      obtain ⟨k,rfl⟩:∃ k',k=k' + 1:=⟨k - 1,by rw [ey,zLc] at g3;omega⟩
      refine T.cal (Q:=λr1=>∃ w,r1.2.2=Val.mk v0.kind v0.n v0.b (acc ++ [w]) v0.rule v0.more/\zcA w/\cnt w <= 2000 * ts'.length/\match f ts' with
        | .ok w' rest=>w'=w/\∃ a2,r1.1=true/\r1.2.1=st L t p0 a2/\Sd L a2 rest/\cnt w + 1000 * rest.length <= 1000 * ts'.length
        | .bad p e=>r1.1=false/\r1.2.1.at_=p/\r1.2.1.e=e/\e ≠ 0) ?_ λr1 _ hr1=>?_
      · rw [zqB]
        unfold zc3
        refine T.ck (by omega) (T.cal (hf a' ts' A2) λy _ hy=>T.jp (λv=>v=Val.mk v0.kind v0.n v0.b (acc ++ [y.1]) v0.rule v0.more) (λJ2 k2=>?_) λv hv2=>T.some ?_)
        · refine T.abl (by simp only [Val.l_mk,zLs];omega) (T.asd (by simp only [Val.l_mk,zLa,zLs];omega) (T.eq (y:=zcV) ?_ (k2 _ ?_)))
          · simp only [Val.l_mk,Int.toNat_natCast]
            rw [List.getElem?_append_right (zNl _),Nat.sub_self];rfl
          · simp only [Val.kind_mk,Val.n_mk,Val.b_mk,Val.l_mk,Val.rule_mk,Val.more_mk,Int.toNat_natCast]
            rw [List.set_append_right _ _ (zNl _),Nat.sub_self];rfl
        · subst hv2
          cases hfr:f ts' with
          | ok w rest =>
            rw [hfr] at hy
            obtain ⟨a2,e2,A3,F1,c1⟩:=hy
            subst e2
            exact ⟨w,rfl,F1,by omega,rfl,a2,rfl,rfl,A3,c1⟩
          | bad p e =>
            rw [hfr] at hy
            obtain ⟨z1,z2,z3,z4,z5,z6⟩:=hy
            exact ⟨y.1,rfl,z5,z6,z1,z2,z3,z4⟩
      · have eP : zjZ f (k + 1) ts' acc=match f ts' with
            | .bad p e=>.bad p e
            | .ok w r=>match pIs [44] r with
              | some r2=>zjZ f k r2 (acc ++ [w])
              | none=>match pIs [125] r with
                | some r3=>.ok (acc ++ [w]) r3
                | none=>.bad (atp r) 7:=rfl
        obtain ⟨w,ew,F1,c0,hr1⟩:=hr1
        have gacc:∀ w' ∈ acc ++ [w],zcA w':=λw' hw'=>by
          rcases List.mem_append.1 hw' with h | h
          · exact g1 w' h
          · rw [zMo.1 h];exact F1
        have gsum:((acc ++ [w]).map cnt).sum=(acc.map cnt).sum + cnt w:=by simp
        have glen:(acc ++ [w]).length=acc.length + 1:=by rw [zLa,zLs]
        have hts':1 <= ts'.length:=by rw [ey,zLc];omega
        have hbx:BX v0 ts r1.2.2:=⟨_,ew,gacc,by omega,by rw [gsum];omega⟩
        cases hfr:f ts' with
        | bad p e =>
          rw [hfr] at hr1
          obtain ⟨z1,z2,z3,z4⟩:=hr1
          refine T.br (λ_=>T.some (by rw [<- g5,eP,hfr];exact ⟨rfl,z2,z3,z4,hbx⟩)) λh=>by rw [z1] at h;cases h
        | ok w' rest =>
          rw [hfr] at hr1
          obtain ⟨z0,a2,e2,e3,A3,c1⟩:=hr1
          subst z0
          obtain ⟨_,_,ey3,_,hA3,_⟩:=A3.cons
          refine T.br (λh=>by rw [e2] at h;cases h) λ_=>?_
          rw [e3]
          refine T.eq (zvM A3 [44]) ?_
          dsimp only
          have hcw:=zeA w'
          cases h3:pIs [44] rest with
          | some r2 =>
            obtain ⟨A4,l4⟩:=A3.is h3
            have ha4:=A4.a0
            refine T.br (λh=>by cases h) λ_=>?_
            rw [ew]
            refine hJ _ ⟨a2 + 1,r2,acc ++ [w'],k,rfl,A4,gacc,by omega,by omega,by rw [gsum];omega,by rw [<- g5,eP,hfr];dsimp only;rw [h3]⟩ ?_
            have:=A3.a0
            have:=A2.a0
            show 10000 - (a2 + 1).toNat < 10000 - a'.toNat
            omega
          | none =>
            refine T.br (λ_=>T.eq (zl0 A3 [125]) ?_) λh=>by cases h
            cases h4:pIs [125] rest with
            | some r3 =>
              obtain ⟨A4,l4⟩:=A3.is h4
              refine T.some ?_
              rw [<- g5,eP,hfr]
              dsimp only
              rw [h3,h4]
              exact ⟨a2 + 1,by rw [ew],A4,gacc,by omega,by rw [gsum];omega⟩
            | none =>
              refine T.some ?_
              rw [<- g5,eP,hfr]
              dsimp only
              rw [h3,h4]
              exact ⟨rfl,rfl,rfl,by decide,hbx⟩
theorem zzn {α:Type} (n c:Nat):(List.replicate n c).sum=n * c:=by
 induction n with
 | zero=>simp
 | succ n ih=>rw [List.replicate_succ,List.sum_cons,ih,Nat.succ_mul];omega
theorem zAp {L : List zU} {t:zab} {p0:Int} {f:Int->List zU->PR Val} {n:Nat} {x:zg} {d:Int} {v0:Val} (hd:0 <= d/\d <= 100) (hfl:x.fields.length <= 1000) (hf:∀ y ∈ x.fields,Rd L t p0 (f y.ty) λs=>zau n s y.ty (d + 1)) {a:Int} {ts:List zU} (h:Sd L a ts) :
    T (BR L t p0 v0 ts x.fields.length (zsd x.fields f ts)) (zaQ (n + 3) (st L t p0 a) x v0 d):=by
  obtain ⟨_,_,eT,_,_,_⟩:=h.cons
  have hts:1 <= ts.length:=by rw [eT,zLc];omega
  have hz0:((List.replicate x.fields.length zcV).map cnt).sum=x.fields.length:=by
    rw [List.map_replicate,znZ,zzn (α:=Nat),Nat.mul_one]
  have hzf:∀ w ∈ List.replicate x.fields.length zcV,zcA w:=λw hw=>by rw [(List.mem_replicate.1 hw).2];exact zp8
  have bx0:BX v0 ts (Val.mk v0.kind v0.n v0.b (List.replicate x.fields.length zcV) v0.rule v0.more):=⟨_,rfl,hzf,by rw [List.length_replicate];omega,by rw [hz0];omega⟩
  rw [zmH]
  unfold zdx
  refine T.asd (by omega) (T.cal (Q:=λr=>match (zsd x.fields f ts) with
    | .ok l rest=>∃ a' k',r=(true,st L t p0 a',k',Val.mk v0.kind v0.n v0.b l v0.rule v0.more)/\Sd L a' rest/\(∀ w ∈ l,zcA w)/\l.length <= 10000/\(l.map cnt).sum + 1000 * rest.length + 1001 <= 1000 * ts.length + x.fields.length
    | .bad p e=>r.1=false/\r.2.1.at_=p/\r.2.1.e=e/\e ≠ 0/\BX v0 ts r.2.2.2) ?_ λy _ hy=>T.some ?_)
  · rw [Int.toNat_natCast,zmz]
    unfold zc8 zsd
    refine T.eq (zl0 h [123]) ?_
    cases h1:pIs [123] ts with
    | none=>exact T.br (λ_=>T.some ⟨rfl,rfl,rfl,by decide,bx0⟩) λh=>by cases h
    | some r =>
      obtain ⟨A1,l1⟩:=h.is h1
      refine T.br (λh=>by cases h) λ_=>T.eq (zvM A1 [125]) ?_
      dsimp only
      cases h2:pIs [125] r with
      | some r2 =>
        obtain ⟨A2,l2⟩:=A1.is h2
        refine T.br (λ_=>T.some ⟨_,_,rfl,A2,hzf,by rw [List.length_replicate];omega,?_⟩) λh=>by cases h
        rw [hz0];omega
      | none =>
        refine T.br (λh=>by cases h) λ_=>?_
        have hlen:=A1.len
        obtain ⟨_,_,_,_,hrl,_⟩:=A1.cons
        refine T.lp (ι:=zN × Int × Val) (λq=>∃ (a':Int) (ts':List zU) (acc:List Val) (k m:Nat),q=(st L t p0 a',(m:Int),Val.mk v0.kind v0.n v0.b acc v0.rule v0.more)/\Sd L a' ts'/\(∀ w ∈ acc,zcA w)/\acc.length=x.fields.length/\m <= 1000/\ts'.length <= k/\(acc.map cnt).sum + 1000 * ts'.length <= 1000 * r.length + x.fields.length/\zkg x.fields f k ts' m acc=zkg x.fields f r.length r 0 (List.replicate x.fields.length zcV))
          (λq=>10000 - q.1.stream.i.toNat) ⟨a + 1,r,List.replicate x.fields.length zcV,r.length,0,rfl,A1,hzf,List.length_replicate,by omega,zNl _,by rw [hz0];omega,rfl⟩ (by dsimp only;omega) λJ q ⟨a',ts',acc,k,m,e1,A2,g1,g2,gm,g3,g4,g5⟩ hJ=>?_
        subst e1
        obtain ⟨y0,r0,ey,_,hA2,_⟩:=A2.cons
        obtain ⟨k,rfl⟩:∃ k',k=k' + 1:=⟨k - 1,by rw [ey,zLc] at g3;omega⟩
        have hts':ts'.length=r0.length + 1:=by rw [ey,zLc]
        have eP : zkg x.fields f (k + 1) ts' m acc=match zon x.fields m ts' with
          | none=>.bad (atp ts') 7
          | some (j,r0)=>match x.fields[j]? with
            | none=>.bad (atp ts') 7
            | some y=>match f y.ty r0 with
              | .bad p e=>.bad p e
              | .ok w r=>match pIs [44] r with
                | some r2=>zkg x.fields f k r2 (j + 1) (zg5 y j w acc)
                | none=>match pIs [125] r with
                  | some r3=>.ok (zg5 y j w acc) r3
                  | none=>.bad (atp r) 7:=rfl
        -- one field
        refine T.cal (Q:=λ(r1:Bool × zN × Int × Val)=>∃ acc',r1.2.2.2=Val.mk v0.kind v0.n v0.b acc' v0.rule v0.more/\(∀ w ∈ acc',zcA w)/\acc'.length=x.fields.length/\(acc'.map cnt).sum + 1 <= 2000 * ts.length/\match zon x.fields m ts' with
          | none=>r1.1=false/\r1.2.1.at_=atp ts'/\r1.2.1.e=7
          | some (j,r0)=>∃ y,x.fields[j]?=some y/\match f y.ty r0 with
            | .bad p e=>r1.1=false/\r1.2.1.at_=p/\r1.2.1.e=e/\e ≠ 0
            | .ok w rest=>acc'=zg5 y j w acc/\∃ a2,r1.1=true/\r1.2.1=st L t p0 a2/\r1.2.2.1=((j + 1:Nat):Int)/\Sd L a2 rest/\(acc'.map cnt).sum + 1000 * rest.length + 1000 <= (acc.map cnt).sum + 1000 * ts'.length/\j + 1 <= 1000/\rest.length < ts'.length) ?_ λr1 _ hr1=>?_
        · rw [zpg]
          unfold zcY
          refine T.eq (ztI A2 x.fields (by omega) m (by omega)) ?_
          cases hp:zon x.fields m ts' with
          | none=>exact T.br (λ_=>T.some ⟨acc,rfl,g1,g2,by omega,rfl,rfl,rfl⟩) λh=>by cases h
          | some q =>
            obtain ⟨j,r0'⟩:=q
            have hp':=hp
            rw [ey] at hp'
            change (bif decide (y0.kind=2) then (zln x.fields y0.text (x.fields.length - m) m).map (λj=>(j,r0)) else none)=some (j,r0') at hp'
            cases hk2:decide (y0.kind=2) with
            | false=>rw [hk2] at hp';cases hp'
            | true =>
              rw [hk2,zCt] at hp'
              obtain ⟨j',hj,e2⟩:=Option.map_eq_some_iff.1 hp'
              cases e2
              have hk2:=zOT hk2
              obtain ⟨_,y,hy,_⟩:=zt3 hj
              have hjl:=(List.getElem?_eq_some_iff.1 hy).1
              obtain ⟨A3,l3⟩:=A2.next ey (by omega)
              have hyr:=hf y (List.mem_of_getElem? hy) _ _ A3
              obtain ⟨w0,hw0⟩:∃ w,acc[j]?=some w:=⟨_,List.getElem?_eq_getElem (by omega)⟩
              have hw0c:=zeA w0
              have egy:zs x.fields (j:Int)=some y:=by rw [zcH (by omega) (by omega)];exact congrArg some (List.getElem?_eq_some_iff.1 hy).2
              refine T.br (λh=>by cases h) λ_=>?_
              dsimp only
              refine T.jp (λq=>zcA q.2.1/\cnt q.2.1 <= 2000 * r0.length/\match f y.ty r0 with
                | .bad p e=>q.1=false/\q.2.2.at_=p/\q.2.2.e=e/\e ≠ 0
                | .ok w rest=>∃ a2,q=(true,w,st L t p0 a2)/\Sd L a2 rest/\cnt w + 1000 * rest.length <= 1000 * r0.length) (λJ2 k2=>T.eq egy (T.ck (by omega) (T.cal hyr λz _ hz=>k2 _ ?_))) λq hq=>T.eq egy ?_
              · cases hfr:f y.ty r0 with
                | bad p e=>rw [hfr] at hz;obtain ⟨z1,z2,z3,z4,z5,z6⟩:=hz;exact ⟨z5,z6,z1,z2,z3,z4⟩
                | ok w rest=>rw [hfr] at hz;obtain ⟨a2,z1,z2,z3,z4⟩:=hz;subst z1;exact ⟨z3,by dsimp only;omega,a2,rfl,z2,z4⟩
              obtain ⟨q1,q2,q3⟩:=hq
              have esum:=zuv (l:=acc) (j:=j) (w:=q.2.1) hw0
              have eset:∀ w ∈ acc.set j q.2.1,zcA w:=λw hw=>by
                rcases zxk hw with h | h
                · exact g1 w h
                · rw [h];exact q1
              -- the default
              refine T.jp (λb=>(b=true->zg5 y j q.2.1 acc=acc.set j q.2.1)/\(b=false->zg5 y j q.2.1 acc=acc)) (λJ2 k2=>T.br (λhh=>k2 _ ⟨λ_=>zrW (by simpa using hh),λh=>by cases h⟩) λhh=>T.cal (znb (k:=20000000) (n:=fuel) (by omega) (by unfold fuel;omega) q1 y.dflt) λz _ hz=>k2 _ ?_) λb hb=>?_
              · have hh:y.has=true:=by simpa using hh
                refine ⟨λh=>?_,λh=>?_⟩
                · exact zuk λe=>by rw [hz.2 e] at h;cases h
                · exact zyK hh (hz.1 (by simpa using h))
              refine T.jp (λv=>v=Val.mk v0.kind v0.n v0.b (zg5 y j q.2.1 acc) v0.rule v0.more/\(∀ w ∈ zg5 y j q.2.1 acc,zcA w)/\(zg5 y j q.2.1 acc).length=x.fields.length/\((zg5 y j q.2.1 acc).map cnt).sum <= (acc.map cnt).sum + cnt q.2.1) (λJ2 k2=>T.br (λh=>?_) λh=>?_) λv hv=>T.ck (by omega) (T.some ?_)
              · rw [hb.1 h] at k2
                refine T.asd (by simp only [Val.l_mk];omega) (T.eq (y:=w0) (by simp only [Val.l_mk,Int.toNat_natCast];exact hw0) (k2 _ ⟨?_,eset,by rw [List.length_set];exact g2,by omega⟩))
                simp only [Val.kind_mk,Val.n_mk,Val.b_mk,Val.l_mk,Val.rule_mk,Val.more_mk,Int.toNat_natCast]
              · rw [hb.2 h] at k2
                exact k2 _ ⟨rfl,g1,g2,by omega⟩
              obtain ⟨v1,v2,v3,v4⟩:=hv
              subst v1
              refine ⟨_,rfl,v2,v3,by omega,y,hy,?_⟩
              cases hfr:f y.ty r0 with
              | bad p e =>
                rw [hfr] at q3
                obtain ⟨z1,z2,z3,z4⟩:=q3
                exact ⟨z1,z2,z3,z4⟩
              | ok w rest =>
                rw [hfr] at q3
                obtain ⟨a2,z1,z2,z3⟩:=q3
                subst z1
                have v4':((zg5 y j w acc).map cnt).sum <= (acc.map cnt).sum + cnt w:=v4
                have z3':cnt w + 1000 * rest.length <= 1000 * r0.length:=z3
                exact ⟨rfl,a2,rfl,rfl,by dsimp only;omega,z2,by show ((zg5 y j w acc).map cnt).sum + 1000 * rest.length + 1000 <= _;omega,by omega,by have:=zeA w;omega⟩
        · obtain ⟨acc',ew,gacc,glen,gsum,hr1⟩:=hr1
          have hbx:BX v0 ts r1.2.2.2:=⟨_,ew,gacc,by omega,gsum⟩
          cases hp:zon x.fields m ts' with
          | none =>
            rw [hp] at hr1
            obtain ⟨z1,z2,z3⟩:=hr1
            refine T.br (λ_=>T.some (by rw [<- g5,eP,hp];exact ⟨rfl,z2,z3,by decide,hbx⟩)) λh=>by rw [z1] at h;cases h
          | some q =>
            obtain ⟨j,r0'⟩:=q
            rw [hp] at hr1
            obtain ⟨y,hy,hr1⟩:=hr1
            cases hfr:f y.ty r0' with
            | bad p e =>
              rw [hfr] at hr1
              obtain ⟨z1,z2,z3,z4⟩:=hr1
              refine T.br (λ_=>T.some (by rw [<- g5,eP,hp];dsimp only;rw [hy];dsimp only;rw [hfr];exact ⟨rfl,z2,z3,z4,hbx⟩)) λh=>by rw [z1] at h;cases h
            | ok w rest =>
              rw [hfr] at hr1
              obtain ⟨z0,a2,e2,e3,e4,A3,c1,hj,hrl2⟩:=hr1
              subst z0
              obtain ⟨_,_,ey3,_,hA3,_⟩:=A3.cons
              refine T.br (λh=>by rw [e2] at h;cases h) λ_=>?_
              rw [e3]
              refine T.eq (zvM A3 [44]) ?_
              dsimp only
              have eQ:zkg x.fields f r.length r 0 (List.replicate x.fields.length zcV)=match pIs [44] rest with
                | some r2=>zkg x.fields f k r2 (j + 1) (zg5 y j w acc)
                | none=>match pIs [125] rest with
                  | some r3=>.ok (zg5 y j w acc) r3
                  | none=>.bad (atp rest) 7:=by rw [<- g5,eP,hp];dsimp only;rw [hy];dsimp only;rw [hfr]
              cases h3:pIs [44] rest with
              | some r2 =>
                obtain ⟨A4,l4⟩:=A3.is h3
                have ha4:=A4.a0
                refine T.br (λh=>by cases h) λ_=>?_
                rw [ew,e4]
                refine hJ _ ⟨a2 + 1,r2,zg5 y j w acc,k,j + 1,rfl,A4,gacc,glen,hj,by omega,by omega,by rw [eQ,h3]⟩ ?_
                have:=A3.a0
                have:=A2.a0
                show 10000 - (a2 + 1).toNat < 10000 - a'.toNat
                omega
              | none =>
                refine T.br (λ_=>T.eq (zl0 A3 [125]) ?_) λh=>by cases h
                cases h4:pIs [125] rest with
                | some r3 =>
                  obtain ⟨A4,l4⟩:=A3.is h4
                  refine T.some ?_
                  rw [eQ,h3,h4]
                  exact ⟨a2 + 1,r1.2.2.1,by rw [ew],A4,gacc,by omega,by omega⟩
                | none =>
                  refine T.some ?_
                  rw [eQ,h3,h4]
                  exact ⟨rfl,rfl,rfl,by decide,hbx⟩
  · cases hR:(zsd x.fields f ts) with
    | ok l rest =>
      rw [hR] at hy
      obtain ⟨a',k',z1,z2,z3,z4,z5⟩:=hy
      subst z1
      exact ⟨a',rfl,z2,z3,z4,z5⟩
    | bad p e =>
      rw [hR] at hy
      obtain ⟨z1,z2,z3,z4,z5⟩:=hy
      exact ⟨z1,z2,z3,z4,z5⟩
section leaf
variable {L:List zU} {t:zab} {p0 a:Int} {ts:List zU}
theorem zpd {v:Val} {r:List zU} (h:Sd L a ts) (h2:Sd L (a + 1) r) (hl:r.length + 1=ts.length) (hf:zcA v) (hc:cnt v <= 1000):KR L t p0 ts (.ok v r) (true,v,st L t p0 (a + 1)) :=
 ⟨a + 1,rfl,h2,hf,by omega⟩
theorem zk1 {v:Val} {p e:Int} {b:Bool} {s:zgD} {g:zab} (h:Sd L a ts) (he:e ≠ 0) (hf:zcA v) (hc:cnt v <= 1000):KR L t p0 ts (.bad p e) (b,v,⟨s,g,p,e⟩):=by
 obtain ⟨_,_,eT,_,_,_⟩:=h.cons
 exact ⟨rfl,rfl,he,hf,by show cnt v <= _;rw [eT,zLc];omega⟩
theorem zgf {k n:Int} {b:List UInt8} (hb:b.length <= 9000):zcA (zdH k n b []):=zfG (by omega) (zNz _) λw hw=>by cases hw
theorem zio (k n:Int) (b:List UInt8):cnt (zdH k n b []) <= 1000:=by rw [zig];simp
end leaf
theorem zy0 {s:Str} {r:Int × Er} (h:zbb s 10 64=some r):zql s=r.1:=by unfold zql;rw [h]
theorem zq8 {s:Str} {r:List UInt8} (h:zdX s=some r):zxp s=r:=by unfold zxp;rw [h]
theorem zx8:∃ r,zbb ⟨[]⟩ 10 64=some r:=⟨_,rfl⟩
theorem zzk:zdX ⟨[]⟩=some []:=by
 refine T.eqs ?_
 unfold zdX
 exact T.lp (ι:=List UInt8 × Int) (λq=>q=([],0)) (λq=>0) rfl (by omega) λJ q e hJ=>by
  subst e
  exact T.ck (by decide) (T.br (λh=>by cases h) λ_=>T.some rfl)
theorem zs0 {L:List zU} {a:Int} {ts:List zU} (h:Sd L a ts) {k:Int} {s:Str} {r:List zU} (e:pOf k ts=some (s,r)) (hk:k ≠ 0):∃ y ∈ L,y.kind=k/\y.text=s/\Sd L (a + 1) r/\r.length + 1=ts.length:=by
 obtain ⟨y,e1,e2,e3⟩:=zw1 e
 obtain ⟨h1,h2⟩:=h.next e1 (by rw [e2];exact hk)
 have hm:y ∈ L.drop a.toNat:=by rw [h.dr,e1];exact zMs
 exact ⟨y,List.mem_of_mem_drop hm,e2,e3,h1,h2⟩
set_option maxHeartbeats 1000000 in
theorem pvP {t:zab} (ht:TOk t.types) {L:List zU} {p0:Int} (hG:∀ y ∈ L,TokG y):∀ (h n:Nat) (i d:Int),0 <= d->d + h=17->5 * h + 5 <= n->0 <= i->i < t.types.length->Rd L t p0 (pv h t.types i) λs=>zau n s i d:=by
 intro h
 induction h with
 | zero =>
  intro n i d d0 hd hn i0 i1 a ts A
  obtain ⟨n,rfl⟩:∃ n',n=n' + 1:=⟨n - 1,by omega⟩
  rw [zkh]
  unfold zda
  refine T.br (λ_=>T.eq (zlJ A 5) (T.some ⟨rfl,rfl,rfl,by decide,zp8,?_⟩)) λh=>absurd (zOF h) (by omega)
  obtain ⟨_,_,eT,_,_,_⟩:=A.cons
  show cnt zcV <= _
  rw [znZ,eT,zLc];omega
 | succ h ih =>
  intro n i d d0 hd hn i0 i1 a ts A
  obtain ⟨n,rfl⟩:∃ n',n=n' + 4:=⟨n - 4,by omega⟩
  rw [zkh]
  unfold zda
  refine T.br (λh=>absurd (zOT h) (by omega)) λ_=>T.or' (T.br (λh=>?_) λ_=>?_)
  ·rw [Bool.or_eq_true] at h
   rcases h with h | h
   ·exact absurd (zOT h) (by omega)
   ·have h:(t.types.length:Int) <= i:=zOT h
    omega
  refine T.get i0 i1 λx hx=>?_
  have hx:t.types[i.toNat]?=some x:=hx
  have hxm:x ∈ t.types:=List.mem_of_getElem? hx
  have hfl:=ht.fl x hxm
  have hil:=ht.il x hxm
  have hkd:=ht.kd x hxm
  rw [zz2 hx]
  obtain ⟨R,eR⟩:∃ R,R=pvK (pv h t.types) x ts:=⟨_,rfl⟩
  rw [<- eR]
  refine T.jp (KR L t p0 ts R) (λJ k=>?_) λq hq=>?_
  ·have kk:∀ {R'},R=R'->∀ q,KR L t p0 ts R' q->T (VR L t p0 ts R) (J q):=λe q hq=>k q (e ▸ hq)
   unfold pvK at eR
   refine T.br (λhk=>?_) λh1=>?_
   ·have hk:=zOT hk
    rw [if_pos hk] at eR
    refine T.eq (zvM A _) ?_
    cases h1:pIs [84,82,85,69] ts with
    | some r =>
     obtain ⟨A1,l1⟩:=A.is h1
     rw [h1] at eR
     refine T.br (λ_=>kk eR _ ?_) λh=>by cases h
     rw [hk];exact zpd A A1 l1 (zgf (zNz _)) (zio _ _ _)
    | none =>
     rw [h1] at eR
     refine T.br (λh=>by cases h) λ_=>T.eq (zl0 A _) (kk eR _ ?_)
     rw [hk]
     cases h2:pIs [70,65,76,83,69] ts with
     | some r =>
      obtain ⟨A1,l1⟩:=A.is h2
      exact zpd A A1 l1 (zgf (zNz _)) (zio _ _ _)
     | none=>exact zk1 A (by decide) (zgf (b:=[]) (zNz _)) (zio _ _ _)
   have h1:=zOF h1
   rw [if_neg h1] at eR
   refine T.br (λhk=>?_) λh4=>?_
   ·have hk:=zOT hk
    rw [if_pos hk] at eR
    refine T.eq (zl0 A _) (kk eR _ ?_)
    rw [hk]
    cases h2:pIs [78,85,76,76] ts with
    | some r =>
     obtain ⟨A1,l1⟩:=A.is h2
     exact zpd A A1 l1 (zgf (zNz _)) (zio _ _ _)
    | none=>exact zk1 A (by decide) (zgf (b:=[]) (zNz _)) (zio _ _ _)
   have h4:=zOF h4
   rw [if_neg h4] at eR
   refine T.br (λhk=>?_) λh2=>?_
   ·have hk:=zOT hk
    rw [if_pos hk] at eR
    refine T.eq (zA0 A 3) ?_
    cases h3:pOf 3 ts with
    | some q =>
     obtain ⟨s,r⟩:=q
     obtain ⟨y,ym,y1,y2,A1,l1⟩:=zs0 A h3 (by decide)
     obtain ⟨z,hz⟩:=(hG y ym).num y1
     rw [y2] at hz
     rw [h3] at eR
     refine T.eq hz (kk eR _ ?_)
     rw [hk,<- zy0 hz]
     exact zpd A A1 l1 (zgf (zNz _)) (zio _ _ _)
    | none =>
     rw [h3] at eR
     obtain ⟨z,hz⟩:=zx8
     refine T.eq hz (kk eR _ ?_)
     exact zk1 A (by decide) (zgf (b:=[]) (zNz _)) (zio _ _ _)
   have h2:=zOF h2
   rw [if_neg h2] at eR
   refine T.br (λhk=>?_) λh3=>?_
   ·have hk:=zOT hk
    rw [if_pos hk] at eR
    refine T.eq (zAb A x (by omega)) (kk eR _ ?_)
    rw [hk]
    cases h3:zp5 x ts with
    | some q =>
     obtain ⟨m,r⟩:=q
     cases ts with
     | nil=>cases h3
     | cons y r' =>
      change (bif decide (y.kind=2) then (zmR y.text x.items).map (λj=>(j,r')) else none)=some (m,r) at h3
      cases hk2:decide (y.kind=2) with
      | false=>rw [hk2] at h3;cases h3
      | true =>
       rw [hk2,zCt] at h3
       obtain ⟨j',_,e2⟩:=Option.map_eq_some_iff.1 h3
       cases e2
       obtain ⟨A1,l1⟩:=A.next rfl (by have:=zOT hk2;omega)
       exact zpd A A1 l1 (zgf (zNz _)) (zio _ _ _)
    | none=>exact zk1 A (by decide) (zgf (b:=[]) (zNz _)) (zio _ _ _)
   have h3:=zOF h3
   rw [if_neg h3] at eR
   refine T.br (λhk=>?_) λh5=>?_
   ·have hk:=zOT hk
    rw [if_pos hk] at eR
    refine T.eq (zA0 A 4) ?_
    cases h3:pOf 4 ts with
    | some q =>
     obtain ⟨s,r⟩:=q
     obtain ⟨y,ym,y1,y2,A1,l1⟩:=zs0 A h3 (by decide)
     obtain ⟨z,hz,hzl⟩:=(hG y ym).hex y1
     rw [y2] at hz
     rw [h3] at eR
     refine T.eq hz (kk eR _ ?_)
     rw [hk,<- zq8 hz]
     exact zpd A A1 l1 (zgf (by rw [zq8 hz];exact hzl)) (zio _ _ _)
    | none =>
     rw [h3] at eR
     refine T.eq zzk (kk eR _ ?_)
     exact zk1 A (by decide) (zgf (b:=[]) (zNz _)) (zio _ _ _)
   have h5:=zOF h5
   rw [if_neg h5] at eR
   refine T.br (λhk=>?_) λh6=>?_
   ·have hk:=zOT hk
    rw [if_pos hk] at eR
    refine T.eq (zA0 A 7) ?_
    cases h3:pOf 7 ts with
    | some q =>
     obtain ⟨s,r⟩:=q
     obtain ⟨y,ym,y1,y2,A1,l1⟩:=zs0 A h3 (by decide)
     have hz:=(hG y ym).len
     rw [y2] at hz
     rw [h3] at eR
     refine T.abl (by dsimp only;omega) (kk eR _ ?_)
     rw [hk]
     exact zpd A A1 l1 (zgf hz) (zio _ _ _)
    | none =>
     rw [h3] at eR
     refine T.abl (zNz _) (kk eR _ ?_)
     exact zk1 A (by decide) (zgf (b:=[]) (zNz _)) (zio _ _ _)
   have h6:=zOF h6
   rw [if_neg h6] at eR
   refine T.br (λhk=>?_) λh10=>?_
   ·have hk:=zOT hk
    rw [if_pos hk] at eR
    obtain ⟨o0,o1⟩:=ht.ko x hxm hk
    refine T.cal (zyU (n:=n + 1) (x:=x) (d:=d) (v0:=Val.mk x.kind 0 [] [] 0 []) (by omega) (ih (n + 1) x.of (d + 1) (by omega) (by omega) (by omega) o0 o1) A rfl) λy _ hy=>kk eR _ ?_
    generalize zvj (pv h t.types x.of) ts=Q at hy ⊢
    cases Q with
    | ok l rest =>
     obtain ⟨a',e1,A1,f1,g1,c1⟩:=hy
     subst e1
     simp only [Val.kind_mk,Val.n_mk,Val.b_mk,Val.rule_mk,Val.more_mk]
     rw [hk]
     exact ⟨a',rfl,A1,zfG (zNz _) (by omega) f1,by rw [zig];omega⟩
    | bad p e =>
     obtain ⟨e1,e2,e3,e4,l,e5,f1,g1,c1⟩:=hy
     refine ⟨e2,e3,e4,?_,?_⟩
     ·show zcA y.2.2
      rw [e5];exact zfG (zNz _) (by omega) f1
     ·show cnt y.2.2 <= _
      rw [e5]
      have:=zig x.kind 0 [] l
      unfold zdH at this
      simp only [Val.kind_mk,Val.n_mk,Val.b_mk,Val.rule_mk,Val.more_mk]
      rw [this];omega
   have h10:=zOF h10
   rw [if_neg h10] at eR
   refine T.br (λhk=>?_) λh9=>?_
   ·have hk:=zOT hk
    rw [if_pos hk] at eR
    refine T.eq (ztI A x.fields (by omega) 0 (by omega)) ?_
    cases hp:zon x.fields 0 ts with
    | none =>
     rw [hp] at eR
     refine T.jp0 (T.br (λh=>by cases h) λ_=>T.br (λh=>by cases h) λ_=>kk eR _ ?_)
     exact zk1 A (by decide) (zgf (b:=[]) (zNz _)) (zio _ _ _)
    | some q =>
     obtain ⟨j,r⟩:=q
     rw [hp] at eR
     have hp':=hp
     obtain ⟨y0,r0,ey,_,_,_⟩:=A.cons
     rw [ey] at hp'
     change (bif decide (y0.kind=2) then (zln x.fields y0.text (x.fields.length - 0) 0).map (λj=>(j,r0)) else none)=some (j,r) at hp'
     cases hk2:decide (y0.kind=2) with
     | false=>rw [hk2] at hp';cases hp'
     | true =>
      rw [hk2,zCt] at hp'
      obtain ⟨j',hj,e2⟩:=Option.map_eq_some_iff.1 hp'
      cases e2
      obtain ⟨A1,l1⟩:=A.next ey (by have:=zOT hk2;omega)
      obtain ⟨_,y,hy,_⟩:=zt3 hj
      have hjl:=(List.getElem?_eq_some_iff.1 hy).1
      have egy:zs x.fields (j:Int)=some y:=by rw [zcH (by omega) (by omega)];exact congrArg some (List.getElem?_eq_some_iff.1 hy).2
      refine T.jp0 (T.br (λ_=>T.eq (zl0 A1 [58]) ?_) λh=>by cases h)
      dsimp only at eR ⊢
      cases h58:pIs [58] r with
      | none =>
       rw [h58] at eR
       refine T.br (λh=>by cases h) λ_=>kk eR _ ?_
       exact zk1 A (by decide) (zgf (b:=[]) (zNz _)) (zio _ _ _)
      | some r2 =>
       obtain ⟨A2,l2⟩:=A1.is h58
       rw [h58] at eR
       dsimp only at eR
       rw [hy] at eR
       dsimp only at eR
       obtain ⟨y0',y1'⟩:=ht.kf x hxm y (List.mem_of_getElem? hy)
       refine T.br (λ_=>T.eq egy (T.ck (by omega) (T.cal (ih (n + 3) y.ty (d + 1) (by omega) (by omega) (by omega) y0' y1' _ _ A2) λz _ hz=>kk eR _ ?_))) λh=>by cases h
       rw [hk]
       cases hR:pv h t.types y.ty r2 with
       | ok w rest =>
        rw [hR] at hz
        obtain ⟨a2,e1,A3,f1,c1⟩:=hz
        subst e1
        refine ⟨a2,rfl,A3,zfG (zNz _) (by simp) (λw' hw'=>by rw [zMo.1 hw'];exact f1),?_⟩
        rw [zig,List.map_singleton,List.sum_singleton];omega
       | bad p e =>
        rw [hR] at hz
        obtain ⟨e1,e2,e3,e4,e5,e6⟩:=hz
        refine ⟨e2,e3,e4,zfG (k:=9) (n:=(j:Int)) (zNz _) (by simp) (λw' hw'=>by rw [zMo.1 hw'];exact e5),?_⟩
        show cnt (zdH 9 (j:Int) [] [z.1]) <= _
        rw [zig,List.map_singleton,List.sum_singleton];omega
   have h9:=zOF h9
   rw [if_neg h9] at eR
   refine T.jp (λb=>b=true) (λJ2 k2=>T.br (λh=>k2 _ h) λh=>k2 _ (zDT (by have:=zOF h;omega))) λb hb=>?_
   subst hb
   refine T.br (λ_=>?_) λh=>by cases h
   refine T.cal (zAp (n:=n) (x:=x) (d:=d) (v0:=Val.mk x.kind 0 [] [] 0 []) (f:=pv h t.types) (by omega) hfl (λy hy=>by
    obtain ⟨y0,y1⟩:=ht.kf x hxm y hy
    exact ih n y.ty (d + 1) (by omega) (by omega) (by omega) y0 y1) A) λy _ hy=>kk eR _ ?_
   generalize zsd x.fields (pv h t.types) ts=Q at hy ⊢
   cases Q with
   | ok l rest =>
    obtain ⟨a',e1,A1,f1,g1,c1⟩:=hy
    subst e1
    exact ⟨a',rfl,A1,zfG (zNz _) (by omega) f1,by rw [zig];omega⟩
   | bad p e =>
    obtain ⟨e1,e2,e3,e4,l,e5,f1,g1,c1⟩:=hy
    refine ⟨e2,e3,e4,?_,?_⟩
    ·show zcA y.2.2
     rw [e5];exact zfG (zNz _) (by omega) f1
    ·show cnt y.2.2 <= _
     rw [e5]
     have:=zig x.kind 0 [] l
     unfold zdH at this
     simp only [Val.kind_mk,Val.n_mk,Val.b_mk,Val.rule_mk,Val.more_mk]
     rw [this];omega
  ·refine T.and' (T.some ?_)
   cases R with
   | ok v rest =>
    obtain ⟨a',e1,A1,f1,c1⟩:=hq
    subst e1
    exact ⟨a',rfl,A1,f1,c1⟩
   | bad p e =>
    obtain ⟨e1,e2,e3,f1,c1⟩:=hq
    refine ⟨?_,e1,e2,e3,f1,c1⟩
    show (q.1 && decide (q.2.2.e=0))=false
    rw [e2,zDF e3,Bool.and_false]
/-! ### Octets as digits of 16 -/
def zpr (c:UInt8):Nat:=if c.toNat <= 57 then c.toNat - 48 else c.toNat - 55
def zph:List UInt8->List UInt8
 | a :: b :: r=>UInt8.ofNat (zpr a * 16 + zpr b) :: zph r
 | _=>[]
def hexL:List UInt8:=[48,49,50,51,52,53,54,55,56,57,65,66,67,68,69,70]
def zxX (a b:UInt8):Bool:=match zdJ ⟨[a,b]⟩ 16 8 with
 | some r=>decide (r.1.toUInt8=UInt8.ofNat (zpr a * 16 + zpr b))
 | none=>false
theorem zzI:(hexL.all λa=>hexL.all λb=>zxX a b)=true:=by kernel_rfl
theorem zuO:∀ X:Fin 256,zdW (UInt8.ofNat X.val)=true->UInt8.ofNat X.val ∈ hexL:=by decide +kernel
theorem zue {c:UInt8} (h:zdW c=true):c ∈ hexL:=by
 have:=zuO ⟨c.toNat,c.toNat_lt⟩
 simp only [UInt8.ofNat_toNat] at this
 exact this h
theorem zBS {a b:UInt8} (ha:zdW a=true) (hb:zdW b=true):T (λr=>r.1.toUInt8=UInt8.ofNat (zpr a * 16 + zpr b)) (zdJ ⟨[a,b]⟩ 16 8):=by
 have h:=List.all_eq_true.1 (List.all_eq_true.1 zzI a (zue ha)) b (zue hb)
 unfold zxX at h
 cases hp:zdJ ⟨[a,b]⟩ 16 8 with
 | none=>rw [hp] at h;cases h
 | some r=>rw [hp] at h;exact ⟨r,rfl,zOT h⟩
theorem zrg:∀ l:List UInt8,(zph l).length <= l.length
 | []=>zNl _
 | [_]=>zNz _
 | a :: b :: r=>by
  have:=zrg r
  show (zph r).length + 1 <= r.length + 1 + 1
  omega
theorem zpz {l:List UInt8} (h:l.all zdW=true) (h2:l.length % 2=0) (hl:l.length <= 1000000):zdX ⟨l⟩=some (zph l):=by
 refine T.eqs ?_
 unfold zdX
 refine T.lp (ι:=List UInt8 × Int) (λq=>0 <= q.2/\q.2 <= (l.length:Int)/\q.2.toNat % 2=0/\q.1.length <= q.2.toNat/\q.1 ++ zph (l.drop q.2.toNat)=zph l) (λq=>((l.length:Int) - q.2).toNat) ⟨zIl _,by dsimp only;omega,rfl,zNl _,rfl⟩ (by dsimp only;omega) λJ q ⟨q0,q1,q2,q3,q4⟩ hJ=>?_
 obtain ⟨acc,k⟩:=q
 dsimp only at q0 q1 q2 q3 q4 hJ ⊢
 refine T.ck (by omega) (T.br (λhb=>?_) λhb=>?_)
 ·have hb:=zOT hb
  refine T.ck (by omega) (T.asd (by omega) ?_)
  obtain ⟨a,ha⟩:∃ a,l[k.toNat]?=some a:=⟨_,List.getElem?_eq_getElem (by omega)⟩
  obtain ⟨b,hb'⟩:∃ b,l[k.toNat + 1]?=some b:=⟨_,List.getElem?_eq_getElem (by omega)⟩
  have hd:l.drop k.toNat=a :: b :: l.drop (k.toNat + 2):=by
   obtain ⟨h1,h2⟩:=List.getElem?_eq_some_iff.1 ha
   obtain ⟨h3,h4⟩:=List.getElem?_eq_some_iff.1 hb'
   rw [List.drop_eq_getElem_cons h1,h2,List.drop_eq_getElem_cons h3,h4]
  have e1:((l.take (k + 2).toNat).drop k.toNat)=[a,b]:=by
   rw [show (k + 2).toNat=k.toNat + 2 by omega,List.drop_take,hd,show k.toNat + 2 - k.toNat=2 by omega];rfl
  rw [e1]
  have ha':=List.all_eq_true.1 h a (List.mem_of_getElem? ha)
  have hb2:=List.all_eq_true.1 h b (List.mem_of_getElem? hb')
  refine T.cal (zBS ha' hb2) λr _ hr=>T.abl (by simp only [zLs];omega) (T.ck (by omega) (hJ _ ⟨by dsimp only;omega,by dsimp only;omega,by dsimp only;omega,?_,?_⟩ (by dsimp only;omega)))
  ·dsimp only
   rw [zLa,zLs];omega
  ·dsimp only
   rw [<- q4,hd,show (k + 2).toNat=k.toNat + 2 by omega,hr,zLA];rfl
 ·have hb:=zOF hb
  refine T.some ?_
  have e:l.drop k.toNat=[]:=zDn (by omega)
  rw [<- q4,e]
  exact (List.append_nil _).symm

/-! ### What is known of the signs of a text -/
theorem zpO (n:Nat):∀ (f:Nat) (b:List UInt8) (acc:List zU),(ziH n f b acc).1.length <= acc.length + b.length + 1
 | 0,b,acc=>by simp [ziH]
 | f + 1,b,acc=>by
  rw [zf5]
  have hwl:=zfi b .out
  cases hwh:wh .out b with
  | nil=>simp
  | cons c r =>
   rw [hwh] at hwl
   simp only
   cases ho:zfO (c :: r) with
   | none=>simp
   | some p =>
    obtain ⟨k,t,r'⟩:=p
    simp only
    have ih:=zpO n f r' (acc ++ [⟨k,⟨t⟩,(n:Int) - ((c :: r).length:Int)⟩])
    have hol:=zkU ho
    simp only [zLa,zLs] at ih
    omega
theorem zwT (b:List UInt8):(toks b).1.length <= 8001:=by
 unfold toks
 by_cases h:8000 < b.length
 ·rw [zDT h];simp
 ·rw [zDF h,zCf]
  have:=zpO b.length (b.length + 1) b []
  simp only [zLn] at this
  omega
theorem znG:∀ (b:List UInt8) (f:Bool) (acc t r:List UInt8),qd f b acc=some (t,r)->t.length <= acc.length + b.length
 | [],f,acc,t,r,h=>by cases f <;> simp [qd] at h
 | c :: b,true,acc,t,r,h=>by
  simp only [qd] at h
  have:=znG b _ _ _ _ h
  rw [zLa,zLs] at this
  rw [zLc];omega
 | c :: b,false,acc,t,r,h=>by
  simp only [qd] at h
  by_cases h1:c=34
  ·simp only [zDT h1,zCt] at h
   by_cases h2:hd b=34
   ·simp only [zDT h2,zCt] at h
    have:=znG b _ _ _ _ h
    rw [zLc];omega
   ·simp only [zDF h2,zCf] at h
    cases hv:Lib.validD acc with
    | true=>rw [hv] at h;simp at h;rw [<- h.1];simp
    | false=>rw [hv] at h;cases h
  ·simp only [zDF h1,zCf] at h
   have:=znG b _ _ _ _ h
   rw [zLa,zLs] at this
   rw [zLc];omega
theorem ztQ:∀ d:List UInt8,(d.take (hx d)).all zdW=true
 | []=>rfl
 | c :: r=>by
  rw [zqf]
  cases h:zdW c with
  | false=>rfl
  | true =>
   simp only [zCt,List.take_succ_cons,List.all_cons,h,ztQ r];rfl
structure OneG (k:Int) (t:List UInt8) (n:Nat):Prop where
 k0:k ≠ 0
 len:t.length <= n
 hex:k=4->t.all zdW=true/\t.length % 2=0
theorem zsW {b t r:List UInt8} {k:Int} (h:zfO b=some (k,t,r)):OneG k t b.length:=by
 unfold zfO at h
 simp only at h
 cases h1:zaF (hd b) with
 | true =>
  rw [h1,zCt] at h
  cases h2:zgK b with
  | true=>rw [h2] at h;cases h
  | false =>
   rw [h2,zCf] at h
   injection h with h;injection h with h3 h;injection h with h4 h5
   subst h3;subst h4
   refine ⟨?_,by rw [zLt];omega,?_⟩
   ·cases ziZ (List.take (nm b) b) <;> cases decide (hd b <= 90) <;> decide
   ·cases ziZ (List.take (nm b) b) <;> cases decide (hd b <= 90) <;> intro h <;> cases h
 | false =>
  rw [h1,zCf] at h
  cases h2:(zaq (hd b) || (decide (hd b=45) && zaq (hd (b.drop 1)))) with
  | true =>
   rw [h2,zCt] at h
   cases hn:zd4 b with
   | none=>rw [hn] at h;cases h
   | some n =>
    rw [hn] at h
    injection h with h;injection h with h3 h;injection h with h4 h5
    subst h3;subst h4
    exact ⟨by decide,by rw [zLt];omega,λh=>by cases h⟩
  | false =>
   rw [h2,zCf] at h
   cases h3:decide (hd b=39) with
   | true =>
    rw [h3,zCt] at h
    cases h4:zdS (b.drop 1) with
    | true=>rw [h4] at h;cases h
    | false =>
     rw [h4,zCf] at h
     injection h with h;injection h with h5 h;injection h with h6 h7
     subst h5;subst h6
     refine ⟨by decide,by rw [zLt,zLd];omega,λ_=>⟨ztQ _,?_⟩⟩
     unfold zdS at h4
     rw [Bool.or_eq_false_iff,Bool.or_eq_false_iff] at h4
     have h8:hx (b.drop 1) % 2=0:=by simpa using h4.1.1
     have:=zzQ (b.drop 1)
     rw [zLt];omega
   | false =>
    rw [h3,zCf] at h
    cases h4:decide (hd b=34) with
    | true =>
     rw [h4,zCt] at h
     cases hq:qd false (b.drop 1) [] with
     | none=>rw [hq] at h;cases h
     | some q =>
      obtain ⟨t',r'⟩:=q
      rw [hq] at h
      injection h with h;injection h with h5 h;injection h with h6 h7
      subst h5;subst h6
      have:=znG _ _ _ _ _ hq
      simp only [zLn,zLd] at this
      exact ⟨by decide,by omega,λh=>by cases h⟩
    | false =>
     rw [h4,zCf] at h
     cases h5:decide (0 < sg b) with
     | false=>rw [h5] at h;cases h
     | true =>
      rw [h5,zCt] at h
      injection h with h;injection h with h6 h;injection h with h7 h8
      subst h6;subst h7
      exact ⟨by decide,by rw [zLt];omega,λh=>by cases h⟩
inductive Src:List zU->Prop
 | fin {a:Int}:Src [⟨0,⟨[]⟩,a⟩]
 | cons {t:zU} {l:List zU}:OneG t.kind t.text.b 8000->Src l->Src (t :: l)
theorem zpQ (n:Nat):∀ (f:Nat) (b:List UInt8) (acc:List zU),b.length < f->b.length <= 8000->(∃ l,ziH n f b acc=(acc ++ l,0,0)/\Src l) \/ (ziH n f b acc).2.2 ≠ 0
 | 0,b,acc,h,_=>by omega
 | f + 1,b,acc,h,h8=>by
  rw [zf5]
  have hwl:=zfi b .out
  cases hwh:wh .out b with
  | nil=>exact .inl ⟨_,rfl,.fin⟩
  | cons c r =>
   rw [hwh] at hwl
   simp only
   cases ho:zfO (c :: r) with
   | none=>exact .inr (by simp)
   | some q =>
    obtain ⟨k,t,r'⟩:=q
    simp only
    have hol:=zkU ho
    have hf:=zsW ho
    rcases zpQ n f r' (acc ++ [⟨k,⟨t⟩,(n:Int) - ((c :: r).length:Int)⟩]) (by omega) (by omega) with ⟨l,e,g⟩ | e
    ·exact .inl ⟨_ :: l,by rw [e,zLA];rfl,.cons ⟨hf.k0,Nat.le_trans hf.len (by omega),hf.hex⟩ g⟩
    ·exact .inr e
theorem zwo (b:List UInt8) (h:(toks b).2.2=0):Src (toks b).1:=by
 unfold toks at h ⊢
 by_cases hl:8000 < b.length
 ·rw [zDT hl] at h;simp at h
 ·rw [zDF hl,zCf] at h ⊢
  rcases zpQ b.length (b.length + 1) b [] (by omega) (by omega) with ⟨l,e,g⟩ | e
  ·rw [e];simpa using g
  ·exact absurd h e
theorem Src.ends {l:List zU} (h:Src l):∃ k t,l=k ++ [t]/\t.kind=0:=by
 induction h with
 | fin=>exact ⟨[],_,rfl,rfl⟩
 | @cons t l _ _ ih=>obtain ⟨k,u,e,h⟩:=ih;exact ⟨t :: k,u,by rw [e];rfl,h⟩
theorem zx9 (s:Str) (h:s.b.length <= 9000):∃ r,zbb s 10 64=some r:=by
 unfold zbb
 rw [show (decide ((10:Int)=10) && decide ((64:Int)=64) && Nat.ble s.b.length 281474976710656)=true by rw [Nat.ble_eq_true_of_le (by omega)];rfl,zCt]
 cases Lib.parseIntB 64 s.b <;> exact ⟨_,rfl⟩
theorem zxy {t:zU} (h:OneG t.kind t.text.b 8000):TokG t:=by
 have hl:=h.len
 have hx:=zrg t.text.b
 exact ⟨by omega,λ_=>zx9 _ (by omega),λh4=>⟨zph t.text.b,zpz (l:=t.text.b) (h.hex h4).1 (h.hex h4).2 (by omega),by omega⟩⟩
theorem Src.good {l:List zU} (h:Src l):∀ y ∈ l,TokG y:=by
 induction h with
 | fin=>intro y hy;rw [zMo.1 hy];exact ⟨zNz _,(λh=>by cases h),λh=>by cases h⟩
 | cons h1 _ ih =>
  intro y hy
  rcases List.mem_cons.1 hy with e | e
  ·rw [e];exact zxy h1
  ·exact ih y e
theorem zv4 {l:List UInt8} (h:l.all zdW=true) (h2:l.length % 2=0) (hl:l.length <= 1000000):zxp ⟨l⟩=zph l:=zq8 (zpz h h2 hl)
theorem Src.sd {l:List zU} (h:Src l) (hl:l.length <= 8001):Sd l 0 l:=⟨zIl _,by omega,rfl,h.ends⟩
noncomputable def zns (l:List zg) (i:Int) (b:List UInt8):PR Val :=
 if (toks b).2.2 ≠ 0 then .bad (toks b).2.1 (toks b).2.2
 else match pv 17 l i (toks b).1 with
  | .bad p e=>.bad p e
  | .ok v r=>match r with
   | []=>.bad 0 7
   | t :: r'=>if t.kind=0 then .ok v [] else .bad t.at_ 7
theorem ztV {t:zab} (ht:TOk t.types) {i:Int} (i0:0 <= i) (i1:i < t.types.length) (s:Str) {R:Val × Int × Int->Prop}
    (hb:∀ p e,zns t.types i s.b=.bad p e->e ≠ 0->R (zcV,p,e))
    (hk:∀ v r,zns t.types i s.b=.ok v r->zcA v->cnt v <= 10000000->T (λy=>if y=true then R (v,0,0) else R (zcV,0,13)) (zeZ t i v)):T R (zeQ t i s):=by
  unfold zeQ
  refine T.eq (zzz s) (T.br (λh=>?_) λh=>?_)
  · have h:¬ (toks s.b).2.2=0:=by simpa using h
    exact T.some (hb _ _ (by unfold zns;rw [if_pos h]) h)
  have h:(toks s.b).2.2=0:=by simpa using h
  have hs:=zwo s.b h
  have hl:=zwT s.b
  have hA:=hs.sd hl
  unfold zns at hb hk
  rw [if_neg (show ¬ (toks s.b).2.2 ≠ 0 from λk=>k h)] at hb hk
  refine T.or' (T.br (λh=>?_) λ_=>?_)
  · rw [Bool.or_eq_true] at h
    rcases h with h | h
    · exact absurd (zOT h) (by omega)
    · exact absurd (zOT h) (by omega)
  refine T.cal (pvP ht (p0:=0) hs.good 17 fuel i 0 (zIl _) (by decide) (by unfold fuel;decide) i0 i1 0 _ hA) λy _ hy=>?_
  cases hR:pv 17 t.types i (toks s.b).1 with
  | bad p e =>
    rw [hR] at hy hb
    obtain ⟨y1,y2,y3,y4,_⟩:=hy
    refine T.jp (λq=>q=(false,y.2.2)) (λJ k=>T.br (λh=>by rw [y1] at h;cases h) λ_=>k _ rfl) λq hq=>?_
    subst hq
    refine T.jp (λq=>q=(false,y.2.2)) (λJ k=>T.br (λh=>by cases h) λ_=>k _ (by rw [y1])) λq hq=>?_
    subst hq
    refine T.br (λ_=>T.some ?_) λh=>by cases h
    dsimp only
    rw [y2,y3]
    exact hb _ _ rfl y4
  | ok v r =>
    rw [hR] at hy hb hk
    obtain ⟨a',e1,A1,f1,c1⟩:=hy
    subst e1
    obtain ⟨z,r',er,e2,_,_⟩:=A1.cons
    obtain ⟨z',r'',er',e4⟩:=zoV (t:=t) (p:=0) A1
    rw [er] at er';cases er'
    subst er
    dsimp only at hb hk
    have hc:cnt v <= 10000000:=by omega
    refine T.jp (λq=>q=(!decide (z.kind=0),st (toks s.b).1 t 0 a')) (λJ k=>T.br (λ_=>T.eq e4 (k _ rfl)) λh=>by cases h) λq hq=>?_
    subst hq
    by_cases hz:z.kind=0
    · rw [if_pos hz] at hb hk
      rw [zDT hz]
      refine T.jp (λq=>q=(true,st (toks s.b).1 t 0 a')) (λJ k=>T.br (λh=>by cases h) λ_=>k _ rfl) λq hq=>?_
      subst hq
      refine T.br (λh=>by cases h) λ_=>T.cal (hk _ _ rfl f1 hc) λb _ hb'=>T.br (λh=>T.some ?_) λh=>T.some ?_
      · have:b=false:=by simpa using h
        subst this
        rw [if_neg (by decide)] at hb'
        exact hb'
      · have:b=true:=by simpa using h
        subst this
        rw [if_pos rfl] at hb'
        exact hb'
    · rw [if_neg hz] at hb hk
      rw [zDF hz]
      refine T.jp (λq=>q.1=false/\q.2.at_=z.at_/\q.2.e=7) (λJ k=>T.br (λ_=>T.eq (zlJ A1 7) (k _ ⟨rfl,rfl,rfl⟩)) λh=>by cases h) λq hq=>?_
      obtain ⟨q1,q2,q3⟩:=hq
      refine T.br (λ_=>T.some ?_) λh=>by rw [q1] at h;cases h
      rw [q2,q3]
      exact hb _ _ rfl (by decide)
abbrev KS:=List (Int × List UInt8)
def stp (x:List UInt8):Prop:=hd x=0/\x=[] \/ hd x=32 \/ hd x=44
structure Stp (x:List UInt8):Prop where
 sN:ztT x=true
 dg:zaq (hd x)=false
 lt:zaF (hd x)=false
 q:hd x ≠ 34
theorem znf {x:List UInt8} (h:stp x):Stp x:=by
 rcases h with ⟨_,h⟩ | h | h
 ·subst h;exact ⟨rfl,rfl,rfl,(by decide:(0:UInt8) ≠ 34)⟩
 ·cases x with
  | nil=>cases h
  | cons c r =>
   have h:c=32:=h
   subst h;exact ⟨rfl,rfl,rfl,(by decide:(32:UInt8) ≠ 34)⟩
 ·cases x with
  | nil=>cases h
  | cons c r =>
   have h:c=44:=h
   subst h;exact ⟨rfl,rfl,rfl,(by decide:(44:UInt8) ≠ 34)⟩
def Lx (p:List UInt8) (q:KS):Prop:=∀ x ks,stp x->KT x ks->KT (p ++ x) (q ++ ks)
/-! ### Names -/
def zko (s:List UInt8):Bool:=zaF (hd s) && zjC s 0 && !decide (s.getLast?=some 45) && decide (s.length <= 60) && decide (znm s=2)
theorem zth {c:UInt8} {r s:List UInt8} (h:c ≠ 45):zcn c r=zcn c s:=by
 unfold zcn
 rw [zDF h];rfl
theorem zlh:∀ {w:List UInt8} {d e:UInt8},w.getLast? ≠ some 45->zjC w d=zjC w e
 | [],_,_,_=>rfl
 | [c],d,e,h=>by
  have hc:c ≠ 45:=λh2=>h (by rw [h2];rfl)
  show (zcn c [d] && true)=(zcn c [e] && true)
  rw [zth hc]
 | c :: a :: w,d,e,h=>by
  have ih:=zlh (w:=a :: w) (d:=d) (e:=e) (by rw [List.getLast?_cons_cons] at h;exact h)
  show (zcn c ((a :: w) ++ [d]) && zjC (a :: w) d)=(zcn c ((a :: w) ++ [e]) && zjC (a :: w) e)
  rw [ih,zm8 (show hd ((a :: w) ++ [d])=hd ((a :: w) ++ [e]) from rfl)]
theorem zqq {s x:List UInt8} {ks:KS} (h:zko s=true) (hx:Stp x) (hk:KT x ks):KT (s ++ x) ((2,s) :: ks):=by
 unfold zko at h
 simp only [zBa] at h
 obtain ⟨⟨⟨⟨h1,h2⟩,h3⟩,h4⟩,h5⟩:=h
 have h3:s.getLast? ≠ some 45:=by simpa using h3
 have:=KT.name h1 (by rw [zlh h3,h2]) hx.sN h3 (zOT h4) hk
 rwa [zOT h5] at this
theorem zqy {w:List UInt8} (h1:zaF (hd w)=true) (h2:zjC w 0=true) (h3:w.getLast? ≠ some 45) (h4:w.length <= 60) (h5:znm w=5):Lx w [(5,w)]:=λx ks hx hk=>by
 have:=KT.name h1 (by rw [zlh h3,h2]) (znf hx).sN h3 h4 hk
 rwa [h5] at this
theorem zxP {x:List UInt8}:stp (32 :: x):=.inr (.inl rfl)
theorem zBA {x:List UInt8}:stp (44 :: x):=.inr (.inr rfl)
/-! ### Numbers -/
theorem zxK {u:Nat} (h:u < 10):zaq (UInt8.ofNat (48 + u))=true/\(UInt8.ofNat (48 + u)).toNat - 48=u:=by
 have:∀ u:Fin 10,zaq (UInt8.ofNat (48 + u.val))=true/\(UInt8.ofNat (48 + u.val)).toNat - 48=u.val:=by decide
 exact this ⟨u,h⟩
theorem zn8 (u:Nat):zlq (Lib.decDigits u)/\zee (Lib.decDigits u)=u:=by
 induction u using Nat.strongRecOn with
 | _ u ih =>
  by_cases h:u < 10
  ·rw [Lib.decDigits_one h]
   obtain ⟨h1,h2⟩:=zxK h
   refine ⟨λd hd=>by rw [zMo.1 hd];exact h1,?_⟩
   have:=zhO [] (UInt8.ofNat (48 + u))
   rw [List.nil_append] at this
   rw [this,h2];simp [zee]
  ·rw [Lib.decDigits,dif_neg h]
   obtain ⟨h1,h2⟩:=zxK (Nat.mod_lt u (show 0 < 10 by decide))
   obtain ⟨h3,h4⟩:=ih (u / 10) (by omega)
   refine ⟨λd hd=>?_,?_⟩
   ·rcases List.mem_append.1 hd with h5 | h5
    ·exact h3 d h5
    ·rw [zMo.1 h5];exact h1
   ·rw [zhO,h4,h2];omega
theorem znW (u:Nat):Lib.decDigits u ≠ []:=by
 by_cases h:u < 10
 ·rw [Lib.decDigits_one h];simp
 ·rw [Lib.decDigits,dif_neg h];simp
theorem zxA (u:Nat) (h0:u ≠ 0):hd (Lib.decDigits u) ≠ 48:=by
 induction u using Nat.strongRecOn with
 | _ u ih =>
  by_cases h:u < 10
  ·rw [Lib.decDigits_one h]
   have:∀ u:Fin 10,u.val ≠ 0->UInt8.ofNat (48 + u.val) ≠ 48:=by decide
   exact this ⟨u,h⟩ h0
  ·rw [Lib.decDigits,dif_neg h,zjV (znW _)]
   exact ih (u / 10) (by omega) (by omega)
theorem zw2 {m:Bool} {u:Nat} (h:u <= if m then 9223372036854775808 else 9223372036854775807) (hm:m=true->u ≠ 0):zjJ m (Lib.decDigits u)=true:=by
 obtain ⟨h1,h2⟩:=zn8 u
 have hlen:(Lib.decDigits u).length <= 19:=znD 18 u (by
  have:(10:Nat) ^ (18 + 1)=10000000000000000000:=by decide
  rw [this];revert h;cases m <;> simp <;> omega)
 have hne:1 <= (Lib.decDigits u).length:=List.length_pos_iff.2 (znW u)
 have hu:=zlb _ h1 hlen
 unfold zjJ
 have e1:zoU (Lib.decDigits u)=true:=List.all_eq_true.2 h1
 rw [e1,zDT hne,zDT hlen,hu,h2,zDT h]
 have e2:(decide ((Lib.decDigits u).length <= 1) || !decide (hd (Lib.decDigits u)=48))=true:=by
  by_cases h0:u=0
  ·subst h0;rw [Lib.decDigits_one (by decide)];rfl
  ·rw [zDF (zxA u h0)];simp
 have e3:(!m || !decide (hd (Lib.decDigits u)=48))=true:=by
  cases m with
  | false=>rfl
  | true=>rw [zDF (zxA u (hm rfl))];rfl
 rw [e2,e3];rfl
theorem zzr {n:Int} (h0:-9223372036854775808 <= n) (h1:n <= 9223372036854775807):Lx (Lib.itoa n) [(3,Lib.itoa n)]:=λx ks hx hk=>by
 have hs:=znf hx
 unfold Lib.itoa
 split
 ·rename_i hn
  exact KT.neg (zw2 (by rw [if_pos rfl];omega) λ_=>by omega) hs.dg hs.lt hk
 ·rename_i hn
  exact KT.num (zw2 (by rw [if_neg (by decide)];omega) (λh=>by cases h)) hs.dg hs.lt hk
theorem zu3 {n:Int} (h0:-9223372036854775808 <= n) (h1:n <= 9223372036854775807):zql ⟨Lib.itoa n⟩=n:=by
 have hl:=zo7 h0 h1
 have key:Lib.parseIntB 64 (Lib.itoa n)=.ok n:=by
  unfold Lib.itoa at hl ⊢
  split
  ·rename_i hn
   obtain ⟨d1,d2⟩:=zn8 n.natAbs
   have hu:=zs4 _ d1 (znW _)
   rw [d2,if_pos (by omega)] at hu
   unfold Lib.parseIntB
   simp only [show (45:UInt8).toNat=45 from rfl,or_true,if_true,hu,not_true,false_and,if_false,true_and,if_neg (show ¬ 2 ^ (64 - 1) < n.natAbs by omega)]
   exact congrArg _ (by omega)
  ·rename_i hn
   obtain ⟨d1,d2⟩:=zn8 n.toNat
   have hu:=zs4 _ d1 (znW _)
   rw [d2,if_pos (by omega)] at hu
   obtain ⟨c,r,e⟩:=List.exists_cons_of_ne_nil (znW n.toNat)
   rw [e] at hu d1 ⊢
   have hr:=zeo (d1 c (zMs ..))
   have n45:¬ c.toNat=45:=by omega
   have n43:¬ c.toNat=43:=by omega
   unfold Lib.parseIntB
   simp only [n43,n45,or_self,if_false,hu,not_false_eq_true,true_and,false_and,if_false,if_neg (show ¬ 2 ^ (64 - 1) <= n.toNat by omega)]
   exact congrArg _ (by omega)
 unfold zql zbb
 rw [show (decide ((10:Int)=10) && decide ((64:Int)=64) && Nat.ble (Str.mk (Lib.itoa n)).b.length 281474976710656)=true by rw [Nat.ble_eq_true_of_le (by dsimp only;omega)];rfl,zCt]
 dsimp only
 rw [key]
/-! ### Octets -/
theorem zx3:∀ X:Fin 256,zdW (hiD (UInt8.ofNat X.val))=true/\zdW (loD (UInt8.ofNat X.val))=true/\UInt8.ofNat (zpr (hiD (UInt8.ofNat X.val)) * 16 + zpr (loD (UInt8.ofNat X.val)))=UInt8.ofNat X.val:=by decide +kernel
theorem zzS (c:UInt8):zdW (hiD c)=true/\zdW (loD c)=true/\UInt8.ofNat (zpr (hiD c) * 16 + zpr (loD c))=c:=by
 have:=zx3 ⟨c.toNat,c.toNat_lt⟩
 simpa only [UInt8.ofNat_toNat] using this
theorem zod:∀ b:List UInt8,(zlR b).all zdW=true
 | []=>rfl
 | c :: b=>by
  obtain ⟨h1,h2,_⟩:=zzS c
  rw [zmJ,List.all_cons,List.all_cons,h1,h2,zod b];rfl
theorem zwF:∀ b:List UInt8,zph (zlR b)=b
 | []=>rfl
 | c :: b=>by
  obtain ⟨_,_,h3⟩:=zzS c
  rw [zmJ]
  show UInt8.ofNat _ :: zph (zlR b)=_
  rw [h3,zwF b]
theorem zA4 {b:List UInt8} (hb:b.length <= 100000):zxp ⟨zlR b⟩=b:=by
 have hl:=zoJ b
 rw [zv4 (zod b) (by omega) (by omega),zwF]
/-! ### Values within braces -/
def cm:List KS->KS
 | []=>[]
 | [p]=>p
 | p :: q :: r=>p ++ (6,[44]) :: cm (q :: r)
def brcT (qs:List KS):KS:=(6,[123]) :: (cm qs ++ [(6,[125])])
inductive LxA:List (List UInt8)->List KS->Prop
 | nil:LxA [] []
 | cons {p q ps qs}:Lx p q->LxA ps qs->LxA (p :: ps) (q :: qs)
theorem ztP {x:List UInt8} {ks:KS} (hk:KT x ks):KT (123 :: x) ((6,[123]) :: ks):=KT.sign (s:=[123]) (by decide) (by simp [sgN]) hk
theorem zt2 {x:List UInt8} {ks:KS} (hk:KT x ks):KT (125 :: x) ((6,[125]) :: ks):=KT.sign (s:=[125]) (by decide) (by simp [sgN]) hk
theorem comma {x:List UInt8} {ks:KS} (hk:KT x ks):KT (44 :: x) ((6,[44]) :: ks):=KT.sign (s:=[44]) (by decide) (by simp [sgN]) hk
theorem zwO {ps:List (List UInt8)} {qs:List KS} (h:LxA ps qs) {x:List UInt8} {ks:KS} (hx:KT (32 :: x) ks):KT (zim ps ++ 32 :: x) (cm qs ++ ks):=by
 induction h with
 | nil=>exact hx
 | @cons p q ps qs hp hr ih =>
  cases hr with
  | nil=>exact hp _ _ zxP hx
  | @cons p2 q2 ps qs hp2 hr2 =>
   show KT ((p ++ 44 :: 32 :: zim (p2 :: ps)) ++ 32 :: x) ((q ++ (6,[44]) :: cm (q2 :: qs)) ++ ks)
   rw [zLA,zLA]
   exact hp _ _ zBA (comma (KT.sp ih))
theorem zxq {ps:List (List UInt8)} {qs:List KS} (h:LxA ps qs):Lx (brc ps) (brcT qs):=λx ks hx hk=>by
 unfold brc brcT
 cases h with
 | nil=>exact ztP (zt2 hk)
 | @cons p q ps qs hp hr =>
  rw [if_neg (by simp)]
  have:=zwO (.cons hp hr) (x:=125 :: x) (KT.sp (zt2 hk))
  show KT (123 :: 32 :: ((zim (p :: ps) ++ [32,125]) ++ x)) ((6,[123]) :: ((cm (q :: qs) ++ [(6,[125])]) ++ ks))
  rw [zLA,zLA]
  exact ztP (KT.sp this)
/-! ### Any value -/
def zpH (v:Val):KS :=
 if v.kind=1 then [(5,if v.n=0 then [70,65,76,83,69] else [84,82,85,69])]
 else if v.kind=4 then [(5,[78,85,76,76])]
 else if v.kind=2 then [(3,Lib.itoa v.n)]
 else if v.kind=5 then [(4,zlR v.b)]
 else if v.kind=6 then [(7,v.b)]
 else []
def zdK (f:Int->Val->KS):List zaC->List Val->List KS
 | y :: fs,w :: ws=>if w.kind=0 then zdK f fs ws else ((2,y.name.b) :: f y.ty w) :: zdK f fs ws
 | _,_=>[]
def zrt (f:Int->Val->KS) (x:zg) (v:Val):KS :=
 if x.kind=3 then [(2,zol x v.n)]
 else if x.kind=10 then brcT (v.l.map (f x.of))
 else if x.kind=9 then (match x.fields[v.n.toNat]?,v.l with
  | some y,w :: _=>(2,y.name.b) :: (6,[58]) :: f y.ty w
  | _,_=>[])
 else if x.kind=7 \/ x.kind=8 then brcT (zdK f x.fields v.l)
 else zpH v
def zjH:Nat->List zg->Int->Val->KS
 | 0,_,_,_=>[]
 | h + 1,l,i,v=>match l[i.toNat]? with
  | none=>[]
  | some x=>zrt (zjH h l) x v
theorem zqn {h:Nat} {l:List zg} {i:Int} {x:zg} (hx:l[i.toNat]?=some x) (v:Val):zjH (h + 1) l i v=zrt (zjH h l) x v:=by
 show (match l[i.toNat]? with | none=>_ | some x=>_)=_
 rw [hx]
structure NmW (l:List zg):Prop where
 fn:∀ x ∈ l,∀ f ∈ x.fields,zko f.name.b=true
 inm:∀ x ∈ l,∀ it ∈ x.items,zko it.name.b=true
 fd:∀ x ∈ l,(x.fields.map λf=>f.name).Nodup
 id:∀ x ∈ l,(x.items.map λit=>it.name).Nodup
theorem zou:znm [70,65,76,83,69]=5/\znm [84,82,85,69]=5/\znm [78,85,76,76]=5:=by decide +kernel
theorem znQ {v:Val} (h0:-9223372036854775808 <= v.n) (h1:v.n <= 9223372036854775807) (hk:v.kind=1 \/ v.kind=4 \/ v.kind=2 \/ v.kind=5 \/ v.kind=6) (hv:v.kind=6->Lib.validD v.b=true):Lx (znq v) (zpH v):=by
 unfold znq zpH
 split
 ·split
  ·exact zqy rfl rfl (by decide) (by decide) zou.1
  ·exact zqy rfl rfl (by decide) (by decide) zou.2.1
 split
 ·exact zqy rfl rfl (by decide) (by decide) zou.2.2
 split
 ·exact zzr h0 h1
 split
 ·intro x ks hx hk
  have hl:=zoJ v.b
  have:=KT.hex (x:=x) (zod v.b) (by omega) hk
  simpa using this
 split
 ·rename_i h6
  intro x ks hx hk
  have:=KT.str (x:=x) (s:=v.b) (znf hx).q (hv h6) hk
  simpa using this
 ·omega
theorem zx7 {s p:List UInt8} {q:KS} (hs:zko s=true) (h:Lx p q):Lx (s ++ 32 :: p) ((2,s) :: q):=λx ks hx hk=>by
 have:=zqq hs (znf zxP) (KT.sp (h x ks hx hk))
 simpa using this
theorem zrx {f:Int->Val->List UInt8} {g:Int->Val->KS}:∀ {fs:List zaC} {ws:List Val},(∀ y ∈ fs,zko y.name.b=true)->(∀ (k:Nat) y w,fs[k]?=some y->ws[k]?=some w->w.kind ≠ 0->Lx (f y.ty w) (g y.ty w))->LxA (parts f fs ws) (zdK g fs ws)
 | [],ws,_,_=>by cases ws <;> exact .nil
 | y :: fs,[],_,_=>.nil
 | y :: fs,w :: ws,hn,h=>by
  have ih:=zrx (fs:=fs) (ws:=ws) (λz hz=>hn z (zMm _ hz)) λk z u hz hu=>h (k + 1) z u (by simpa using hz) (by simpa using hu)
  show LxA (if w.kind=0 then parts f fs ws else _) (if w.kind=0 then zdK g fs ws else _)
  by_cases h0:w.kind=0
  ·rw [if_pos h0,if_pos h0];exact ih
  ·rw [if_neg h0,if_neg h0]
   exact .cons (zx7 (hn y zMs) (h 0 y w rfl rfl h0)) ih
theorem zuq {f:Val->List UInt8} {g:Val->KS}:∀ {ws:List Val},(∀ w ∈ ws,Lx (f w) (g w))->LxA (ws.map f) (ws.map g)
 | [],_=>.nil
 | w :: ws,h=>.cons (h w zMs) (zuq λz hz=>h z (zMm _ hz))
theorem zwn {b:List UInt8} (hl:(b.length:Int) <= 70000) (h:zcy b=some true):Lib.validD b=true:=by
 rw [zlx b (by omega)] at h
 injection h
theorem zBe {t:zab} (hW:NmW t.types):∀ {h:Nat} {i:Int} {v:Val},Fit t h i v->bare v=true->zhv v->Lx (txt h t.types i v) (zjH h t.types i v):=by
 intro h
 induction h with
 | zero=>intro i v hF;cases hF
 | succ h ih =>
  intro i v hF hb hI
  obtain ⟨h0,x,hx,hk⟩:=hF
  obtain ⟨hk12,hmore,hkb⟩:=zjG hb
  have hk:=hk.resolve_left hk12
  obtain ⟨e,hK⟩:=hk
  have hxm:x ∈ t.types:=List.mem_of_getElem? hx
  rw [ztt hx,zqn hx]
  unfold zv7 zrt
  rcases hK with ⟨k,_⟩ | ⟨k,_⟩ | ⟨k,_,hit⟩ | ⟨k,_⟩ | ⟨k,_,h7,_,h6⟩ | ⟨k,_,_,hl⟩ | ⟨k,_,hn0,f,w,hf,hl,hfw⟩ | ⟨k,_,_,hlen,hfl,_⟩
  ·rw [if_neg (by omega),if_neg (by omega),if_neg (by omega),if_neg (by omega),if_neg (by omega),if_neg (by omega),if_neg (by omega),if_neg (by omega)]
   exact znQ hI.lo hI.hi (by omega) λh=>absurd h (by omega)
  ·rw [if_neg (by omega),if_neg (by omega),if_neg (by omega),if_neg (by omega),if_neg (by omega),if_neg (by omega),if_neg (by omega),if_neg (by omega)]
   exact znQ hI.lo hI.hi (by omega) λh=>absurd h (by omega)
  ·rw [if_pos k,if_pos k]
   obtain ⟨it,e1,e2,_⟩:=zk7 hit
   unfold zol
   rw [e1]
   exact λx' ks hx' hk'=>zqq (hW.inm x hxm it e2) (znf hx') hk'
  ·rw [if_neg (by omega),if_neg (by omega),if_neg (by omega),if_neg (by omega),if_neg (by omega),if_neg (by omega),if_neg (by omega),if_neg (by omega)]
   exact znQ hI.lo hI.hi (by omega) λh=>absurd h (by omega)
  ·rw [if_neg (by omega),if_neg (by omega),if_neg (by omega),if_neg (by omega),if_neg (by omega),if_neg (by omega),if_neg (by omega),if_neg (by omega)]
   exact znQ hI.lo hI.hi (by omega) λh=>zwn h7 (h6.resolve_left (by omega))
  ·rw [if_neg (by omega),if_pos k,if_neg (by omega),if_pos k]
   exact zxq (zuq λw hw=>ih (hl w hw) (hkb w hw) (hI.kid w hw))
  ·rw [if_neg (by omega),if_neg (by omega),if_pos k,if_neg (by omega),if_neg (by omega),if_pos k,hf,hl]
   have hw:w ∈ v.l:=by rw [hl];exact zMo.2 rfl
   have hq:=ih hfw (hkb w hw) (hI.kid w hw)
   intro x' ks hx' hk'
   have h2:KT (58 :: 32 :: (txt h t.types f.ty w ++ x')) ((6,[58]) :: (zjH h t.types f.ty w ++ ks)):=KT.sign (s:=[58]) (by decide) (show sgN [58] 32=true by decide) (KT.sp (hq x' ks hx' hk'))
   have:=zqq (hW.fn x hxm f (List.mem_of_getElem? hf)) (znf zxP) (KT.sp h2)
   simpa using this
  ·rw [if_neg (by omega),if_neg (by omega),if_neg (by omega),if_pos k,if_neg (by omega),if_neg (by omega),if_neg (by omega),if_pos k]
   refine zxq (zrx (hW.fn x hxm) λm y w h8 h9 h10=>?_)
   rcases hfl m y w h8 h9 with ⟨z,_⟩ | ⟨_,z,_⟩
   ·exact absurd z h10
   ·exact ih z (hkb w (List.mem_of_getElem? h9)) (hI.kid w (List.mem_of_getElem? h9))
theorem zk8 {ts:List zU} {k:Int} {s:List UInt8} {ks:KS} (h:ts.map kt=(k,s) :: ks):∃ t r,ts=t :: r/\t.kind=k/\t.text=⟨s⟩/\r.map kt=ks:=by
 cases ts with
 | nil=>cases h
 | cons t r =>
  rw [List.map_cons] at h
  injection h with h1 h2
  obtain ⟨kd,tx,a⟩:=t
  obtain ⟨b⟩:=tx
  unfold kt at h1
  injection h1 with h3 h4
  exact ⟨_,r,rfl,h3,by rw [show b=s from h4],h2⟩
theorem zwR {t:zU} {k:Int} {s u:List UInt8} (h1:t.kind=k) (h2:t.text=⟨s⟩):isW t u=((decide (k=5) || decide (k=6)) && decide (s=u)):=by
 unfold isW
 rw [h1,h2]
 have:decide (Str.mk s=Str.mk u)=decide (s=u):=decide_eq_decide.2 ⟨λh=>by injection h,λh=>by rw [h]⟩
 rw [this]
theorem zhs {ts:List zU} {k:Int} {s:List UInt8} {ks:KS} (h:ts.map kt=(k,s) :: ks) (hk:k=5 \/ k=6):∃ r,pIs s ts=some r/\r.map kt=ks:=by
 obtain ⟨t,r,e,h1,h2,h3⟩:=zk8 h
 subst e
 refine ⟨r,?_,h3⟩
 show (bif isW t s then some r else none)=_
 rw [zwR h1 h2,zDT rfl]
 rcases hk with h | h <;> rw [h] <;> rfl
theorem zoQ {ts:List zU} {k:Int} {s u:List UInt8} {ks:KS} (h:ts.map kt=(k,s) :: ks) (hk:((decide (k=5) || decide (k=6)) && decide (s=u))=false):pIs u ts=none:=by
 obtain ⟨t,r,e,h1,h2,h3⟩:=zk8 h
 subst e
 show (bif isW t u then some r else none)=_
 rw [zwR h1 h2,hk];rfl
theorem zti {ts:List zU} {k:Int} {s:List UInt8} {ks:KS} (h:ts.map kt=(k,s) :: ks):∃ r,pOf k ts=some (⟨s⟩,r)/\r.map kt=ks:=by
 obtain ⟨t,r,e,h1,h2,h3⟩:=zk8 h
 subst e
 refine ⟨r,?_,h3⟩
 show (bif decide (t.kind=k) then some (t.text,r) else none)=_
 rw [zDT h1,h2];rfl
/-! ### Names -/
theorem zwG {fs:List zaC} (hd:(fs.map λf=>f.name).Nodup) {j:Nat} {f:zaC} (hj:fs[j]?=some f):∀ (n s:Nat),s <= j->j < s + n->zln fs f.name n s=some j:=by
 intro n
 induction n with
 | zero=>intro s h1 h2;omega
 | succ n ih =>
  intro s h1 h2
  obtain ⟨hlt,_⟩:=List.getElem?_eq_some_iff.1 hj
  obtain ⟨g,hg⟩:∃ g,fs[s]?=some g:=⟨_,List.getElem?_eq_getElem (by omega)⟩
  show (match fs[s]? with | some f'=>(bif decide (f'.name=f.name) then some s else zln fs f.name n (s + 1)) | none=>none)=_
  rw [hg]
  dsimp only
  by_cases he:s=j
  ·subst he
   rw [hj] at hg;cases hg
   rw [zDT rfl];rfl
  ·have hne:g.name ≠ f.name:=λe=>he (by
    have h3:(fs.map λf=>f.name)[s]?=some g.name:=by rw [List.getElem?_map,hg];rfl
    have h4:(fs.map λf=>f.name)[j]?=some f.name:=by rw [List.getElem?_map,hj];rfl
    exact (List.getElem?_inj (by rw [List.length_map];omega) hd).1 (by rw [h3,h4,e]))
   rw [zDF hne,zCf]
   exact ih (s + 1) (by omega) (by omega)
theorem ztX {fs:List zaC} (hd:(fs.map λf=>f.name).Nodup) {j s:Nat} {f:zaC} (hj:fs[j]?=some f) (hs:s <= j) {ts:List zU} {ks:KS} (h:ts.map kt=(2,f.name.b) :: ks):∃ r,zon fs s ts=some (j,r)/\r.map kt=ks:=by
 obtain ⟨t,r,e,h1,h2,h3⟩:=zk8 h
 subst e
 obtain ⟨hlt,_⟩:=List.getElem?_eq_some_iff.1 hj
 refine ⟨r,?_,h3⟩
 show (bif decide (t.kind=2) then (zln fs t.text (fs.length - s) s).map λj=>(j,r) else none)=_
 rw [zDT h1,h2,show (Str.mk f.name.b)=f.name from rfl,zwG hd hj _ s hs (by omega)];rfl
theorem zsA:∀ {l:List zag} {it:zag},(l.map λit=>it.name).Nodup->it ∈ l->zmR it.name l=some it.number
 | [],_,_,h=>by cases h
 | y :: l,it,hd,h=>by
  show (bif decide (y.name=it.name) then some y.number else zmR it.name l)=_
  rw [List.map_cons,List.nodup_cons] at hd
  rcases List.mem_cons.1 h with e | e
  ·subst e;rw [zDT rfl];rfl
  ·have:y.name ≠ it.name:=λe2=>hd.1 (by rw [e2];exact List.mem_map.2 ⟨it,e,rfl⟩)
   rw [zDF this,zCf]
   exact zsA hd.2 e
/-! ### Within braces -/
/-- Such signs are read as that value, whatever stands behind. -/
def Rr (f:List zU->PR Val) (q:KS) (w:Val):Prop:=∀ (ts:List zU) (ks:KS),ts.map kt=q ++ ks->∃ r,f ts=.ok w r/\r.map kt=ks
theorem zrf {f:List zU->PR Val} {g:Val->KS}:∀ {ws:List Val} (n:Nat) (ts:List zU) (acc:List Val) (ks:KS),ws ≠ []->(∀ w ∈ ws,Rr f (g w) w)->ts.map kt=cm (ws.map g) ++ (6,[125]) :: ks->ws.length <= n ->
    ∃ r,zjZ f n ts acc=.ok (acc ++ ws) r/\r.map kt=ks
  | [],_,_,_,_,h,_,_,_=>absurd rfl h
  | _ :: _,0,_,_,_,_,_,_,hn=>by simp at hn
  | [w],n + 1,ts,acc,ks,_,hf,h,hn=>by
    obtain ⟨r,e1,e2⟩:=hf w zMs ts _ h
    obtain ⟨r2,e3,e4⟩:=zhs e2 (.inr rfl)
    refine ⟨r2,?_,e4⟩
    show (match f ts with | .bad p e=>PR.bad p e | .ok w r=>_)=_
    rw [e1]
    dsimp only
    rw [zoQ e2 (by decide),e3]
  | w :: w2 :: ws,n + 1,ts,acc,ks,_,hf,h,hn=>by
    have h:ts.map kt=g w ++ ((6,[44]) :: cm ((w2 :: ws).map g) ++ (6,[125]) :: ks):=by
      rw [h]
      show (g w ++ (6,[44]) :: cm ((w2 :: ws).map g)) ++ _=_
      rw [zLA]
    obtain ⟨r,e1,e2⟩:=hf w zMs ts _ h
    obtain ⟨r2,e3,e4⟩:=zhs (show r.map kt=(6,[44]) :: (cm ((w2 :: ws).map g) ++ (6,[125]) :: ks) from e2) (.inr rfl)
    obtain ⟨r3,e5,e6⟩:=zrf (ws:=w2 :: ws) n r2 (acc ++ [w]) ks (by simp) (λy hy=>hf y (zMm _ hy)) e4 (by simpa using hn)
    refine ⟨r3,?_,e6⟩
    show (match f ts with | .bad p e=>PR.bad p e | .ok w r=>_)=_
    rw [e1]
    dsimp only
    rw [e3]
    dsimp only
    rw [e5,zLA];rfl
theorem zqk (q:KS) (qs:List KS):cm (q :: qs)=q ++ (if qs=[] then [] else (6,[44]) :: cm qs):=by
 cases qs with
 | nil=>rw [if_pos rfl,List.append_nil];rfl
 | cons a b=>rw [if_neg (by simp)];rfl
theorem zlY {g:Int->Val->KS}:∀ {fs:List zaC} {ws:List Val},fs.length=ws.length->zdK g fs ws=[]->∀ w ∈ ws,w.kind=0
 | [],[],_,_=>λw hw=>by cases hw
 | [],_ :: _,h,_=>by simp at h
 | _ :: _,[],h,_=>by simp at h
 | y :: fs,w :: ws,h,hp=>λu hu=>by
  change (if w.kind=0 then zdK g fs ws else _ :: zdK g fs ws)=[] at hp
  by_cases h0:w.kind=0
  ·rw [if_pos h0] at hp
   rcases List.mem_cons.1 hu with e | e
   ·rw [e];exact h0
   ·exact zlY (by simpa using h) hp u e
  ·rw [if_neg h0] at hp;cases hp
theorem zz8 {ws:List Val} (h:∀ w ∈ ws,w=zcV):ws=List.replicate ws.length zcV:=List.eq_replicate_iff.2 ⟨rfl,h⟩
theorem zzq {a:List Val} {w:Val} {n:Nat}:(a ++ List.replicate (n + 1) zcV).set a.length w=(a ++ [w]) ++ List.replicate n zcV:=by
 rw [List.set_append_right _ _ (zNl _),Nat.sub_self,List.replicate_succ,List.set_cons_zero,zLA];rfl
theorem zqW {fs:List zaC} (hd:(fs.map λf=>f.name).Nodup) {f:Int->List zU->PR Val} {g:Int->Val->KS}:∀ {f2:List zaC} {w2:List Val} (pre:List Val) (s n:Nat) (ts:List zU) (ks:KS),s <= pre.length->fs.drop pre.length=f2->f2.length=w2.length->zdK g f2 w2 ≠ [] ->
    (∀ (k:Nat) y w,f2[k]?=some y->w2[k]?=some w->(w.kind=0->w=zcV)/\(w.kind ≠ 0->Rr (f y.ty) (g y.ty w) w/\(y.has=true->w ≠ y.dflt)))->ts.map kt=cm (zdK g f2 w2) ++ (6,[125]) :: ks->ts.length <= n ->
    ∃ r,zkg fs f n ts s (pre ++ List.replicate f2.length zcV)=.ok (pre ++ w2) r/\r.map kt=ks
  | [],[],_,_,_,_,_,_,_,_,h,_,_,_=>absurd rfl h
  | [],_ :: _,_,_,_,_,_,_,_,h,_,_,_,_=>by simp at h
  | _ :: _,[],_,_,_,_,_,_,_,h,_,_,_,_=>by simp at h
  | y :: f2,w :: w2,pre,s,n,ts,ks,hs,hdr,hl,hne,hF,h,hn=>by
    have hlt:pre.length < fs.length:=by
      have:=congrArg List.length hdr
      rw [zLd,zLc] at this;omega
    have hy:fs[pre.length]?=some y:=by
      have:=List.getElem?_drop (xs:=fs) (i:=pre.length) (j:=0)
      rw [hdr] at this
      simpa using this.symm
    have hdr2:fs.drop (pre ++ [w]).length=f2:=by
      rw [zLa,zLs,<- List.drop_drop,hdr];rfl
    have hl2:f2.length=w2.length:=by simpa using hl
    have hF2:∀ (k:Nat) y w,f2[k]?=some y->w2[k]?=some w->(w.kind=0->w=zcV)/\(w.kind ≠ 0->Rr (f y.ty) (g y.ty w) w/\(y.has=true->w ≠ y.dflt)):=λk y' w' h1 h2=>hF (k + 1) y' w' (by simpa using h1) (by simpa using h2)
    obtain ⟨hz,hw⟩:=hF 0 y w rfl rfl
    change zdK g (y :: f2) (w :: w2) ≠ [] at hne
    by_cases h0:w.kind=0
    · have e0:zdK g (y :: f2) (w :: w2)=zdK g f2 w2:=by show (if w.kind=0 then _ else _)=_;rw [if_pos h0]
      rw [e0] at h hne
      obtain ⟨r,e1,e2⟩:=zqW hd (pre ++ [w]) s n ts ks (by rw [zLa];omega) hdr2 hl2 hne hF2 h hn
      refine ⟨r,?_,e2⟩
      rw [zLA,zLA] at e1
      rw [<- show ([w]:List Val) ++ w2=w :: w2 from rfl,<- e1,hz h0];rfl
    · have e0:zdK g (y :: f2) (w :: w2)=((2,y.name.b) :: g y.ty w) :: zdK g f2 w2:=by show (if w.kind=0 then _ else _)=_;rw [if_neg h0]
      obtain ⟨hR,hdf⟩:=hw h0
      rw [e0,zqk] at h
      have h:ts.map kt=(2,y.name.b) :: (g y.ty w ++ ((if zdK g f2 w2=[] then [] else (6,[44]) :: cm (zdK g f2 w2)) ++ (6,[125]) :: ks)):=by
        rw [h,zLA];rfl
      obtain ⟨r0,e1,e2⟩:=ztX hd hy hs h
      obtain ⟨r,e3,e4⟩:=hR r0 _ e2
      have hput:zg5 y pre.length w (pre ++ List.replicate (f2.length + 1) zcV)=(pre ++ [w]) ++ List.replicate f2.length zcV:=by
        have:zg5 y pre.length w (pre ++ List.replicate (f2.length + 1) zcV)=(pre ++ List.replicate (f2.length + 1) zcV).set pre.length w:=by
          cases hh:y.has with
          | false=>exact zrW hh
          | true=>exact zuk (hdf hh)
        rw [this,zzq]
      obtain ⟨n,rfl⟩:∃ n',n=n' + 1:=⟨n - 1,by
        have:=congrArg List.length h
        rw [List.length_map,zLc] at this;omega⟩
      unfold zkg
      rw [e1]
      dsimp only
      rw [hy]
      dsimp only
      rw [e3]
      dsimp only
      rw [zLc,hput]
      by_cases hp:zdK g f2 w2=[]
      · rw [if_pos hp] at e4
        obtain ⟨r2,e5,e6⟩:=zhs (show r.map kt=(6,[125]) :: ks from e4) (.inr rfl)
        refine ⟨r2,?_,e6⟩
        rw [zoQ (show r.map kt=(6,[125]) :: ks from e4) (by decide),e5]
        have hall:=zlY hl2 hp
        have:w2=List.replicate w2.length zcV:=zz8 λu hu=>by
          obtain ⟨k,hk⟩:=List.mem_iff_getElem?.1 hu
          obtain ⟨hk1,_⟩:=List.getElem?_eq_some_iff.1 hk
          exact (hF2 k _ u (List.getElem?_eq_getElem (by omega)) hk).1 (hall u hu)
        rw [hl2,<- this,zLA];rfl
      · rw [if_neg hp] at e4
        obtain ⟨r2,e5,e6⟩:=zhs (show r.map kt=(6,[44]) :: (cm (zdK g f2 w2) ++ (6,[125]) :: ks) from e4) (.inr rfl)
        rw [e5]
        dsimp only
        have hlen:r2.length <= n:=by
          have a1:=congrArg List.length h
          have a2:=congrArg List.length e6
          rw [if_neg hp] at a1
          rw [List.length_map] at a1 a2
          simp only [zLc,zLa] at a1 a2
          omega
        obtain ⟨r3,e7,e8⟩:=zqW hd (pre ++ [w]) (pre.length + 1) n r2 ks (by rw [zLa];exact zNl _) hdr2 hl2 hp hF2 e6 hlen
        refine ⟨r3,?_,e8⟩
        rw [e7,zLA];rfl
/-! ### Any value -/
/-- Signs that do not begin with a brace that closes. -/
def zvO (q:KS):Prop:=∃ k s r,q=(k,s) :: r/\((decide (k=5) || decide (k=6)) && decide (s=[125]))=false
theorem zl7 {v:Val} (hk:v.kind=1 \/ v.kind=4 \/ v.kind=2 \/ v.kind=5 \/ v.kind=6):zvO (zpH v):=by
 unfold zpH
 split
 ·split
  ·exact ⟨_,_,_,rfl,by decide⟩
  ·exact ⟨_,_,_,rfl,by decide⟩
 split
 ·exact ⟨_,_,_,rfl,by decide⟩
 split
 ·exact ⟨_,_,_,rfl,by simp⟩
 split
 ·exact ⟨_,_,_,rfl,by simp⟩
 split
 ·exact ⟨_,_,_,rfl,by simp⟩
 ·omega
theorem zun {t:zab}:∀ {h:Nat} {i:Int} {v:Val},Fit t h i v->bare v=true->zvO (zjH h t.types i v):=by
 intro h
 cases h with
 | zero=>intro i v hF;cases hF
 | succ h =>
  intro i v hF hb
  obtain ⟨h0,x,hx,hk⟩:=hF
  obtain ⟨hk12,hmore,hkb⟩:=zjG hb
  obtain ⟨e,hK⟩:=hk.resolve_left hk12
  rw [zqn hx]
  unfold zrt
  rcases hK with ⟨k,_⟩ | ⟨k,_⟩ | ⟨k,_,hit⟩ | ⟨k,_⟩ | ⟨k,_⟩ | ⟨k,_,_,hl⟩ | ⟨k,_,hn0,f,w,hf,hl,hfw⟩ | ⟨k,_,_,hlen,hfl,_⟩
  ·rw [if_neg (by omega),if_neg (by omega),if_neg (by omega),if_neg (by omega)]
   exact zl7 (by omega)
  ·rw [if_neg (by omega),if_neg (by omega),if_neg (by omega),if_neg (by omega)]
   exact zl7 (by omega)
  ·rw [if_pos k]
   exact ⟨_,_,_,rfl,by simp⟩
  ·rw [if_neg (by omega),if_neg (by omega),if_neg (by omega),if_neg (by omega)]
   exact zl7 (by omega)
  ·rw [if_neg (by omega),if_neg (by omega),if_neg (by omega),if_neg (by omega)]
   exact zl7 (by omega)
  ·rw [if_neg (by omega),if_pos k]
   exact ⟨_,_,_,rfl,by decide⟩
  ·rw [if_neg (by omega),if_neg (by omega),if_pos k,hf,hl]
   exact ⟨_,_,_,rfl,by simp⟩
  ·rw [if_neg (by omega),if_neg (by omega),if_neg (by omega),if_pos k]
   exact ⟨_,_,_,rfl,by decide⟩
theorem zxL {q:KS} {qs:List KS} (h:zvO q) (ks:KS):zvO (cm (q :: qs) ++ ks):=by
 obtain ⟨k,s,r,e,h2⟩:=h
 rw [zqk,e]
 exact ⟨k,s,_,rfl,h2⟩
theorem ziQ {v:Val} {n b l m:Bool} (h:pln v n b l m=true):(n=false->v.n=0)/\(b=false->v.b=[])/\(l=false->v.l=[])/\(m=false->v.rule=0):=by
 unfold pln at h
 simp only [zBa] at h
 obtain ⟨⟨⟨h1,h2⟩,h3⟩,h4⟩:=h
 refine ⟨λe=>?_,λe=>?_,λe=>?_,λe=>?_⟩
 ·rw [e,Bool.false_or] at h1;exact zOT h1
 ·rw [e,Bool.false_or] at h2;exact List.length_eq_zero_iff.1 (by have:=zOT h2;omega)
 ·rw [e,Bool.false_or] at h3;exact List.length_eq_zero_iff.1 (by have:=zOT h3;omega)
 ·rw [e,Bool.false_or,zBa] at h4;exact zOT h4.1
theorem zi7 {v:Val} {k n:Int} {b:List UInt8} {l:List Val} (h1:v.kind=k) (h2:v.n=n) (h3:v.b=b) (h4:v.l=l) (h5:v.rule=0) (h6:v.more=[]):v=zdH k n b l:=by
 rw [<- Val.eta v,h1,h2,h3,h4,h5,h6];rfl
theorem zAA {t:zab} (hW:NmW t.types):∀ {h:Nat} {i:Int} {v:Val},Fit t h i v->bare v=true->zhv v->Rr (pv h t.types i) (zjH h t.types i v) v:=by
 intro h
 induction h with
 | zero=>intro i v hF;cases hF
 | succ h ih =>
  intro i v hF hb hI ts ks hts
  obtain ⟨h0,x,hx,hk⟩:=hF
  obtain ⟨hk12,hmore,hkb⟩:=zjG hb
  obtain ⟨e,hK⟩:=hk.resolve_left hk12
  have hxm:x ∈ t.types:=List.mem_of_getElem? hx
  rw [zz2 hx]
  rw [zqn hx] at hts
  unfold pvK
  unfold zrt zpH at hts
  have n1:=hI.lo
  have n2:=hI.hi
  rcases hK with ⟨k,hp,hn⟩ | ⟨k,hp,_⟩ | ⟨k,hp,hit⟩ | ⟨k,hp⟩ | ⟨k,hp,h7,_,h6⟩ | ⟨k,hp,_,hl⟩ | ⟨k,hp,hn0,f,w,hf,hl,hfw⟩ | ⟨k,hp,hr,hlen,hfl,_⟩
  ·obtain ⟨_,p2,p3,p4⟩:=ziQ hp
   rw [if_neg (by omega),if_neg (by omega),if_neg (by omega),if_neg (by omega),if_pos (by omega)] at hts
   rw [if_pos k]
   by_cases hz:v.n=0
   ·rw [if_pos hz] at hts
    obtain ⟨r,e1,e2⟩:=zhs hts (.inl rfl)
    refine ⟨r,?_,e2⟩
    rw [zoQ hts (by decide),e1]
    dsimp only
    rw [<- zi7 (by omega) hz (p2 rfl) (p3 rfl) (p4 rfl) hmore]
   ·rw [if_neg hz] at hts
    obtain ⟨r,e1,e2⟩:=zhs hts (.inl rfl)
    refine ⟨r,?_,e2⟩
    rw [e1]
    dsimp only
    rw [Bool.or_eq_true] at hn
    rw [<- zi7 (by omega) (zOT (hn.resolve_left (by simpa using hz))) (p2 rfl) (p3 rfl) (p4 rfl) hmore]
  ·obtain ⟨_,p2,p3,p4⟩:=ziQ hp
   rw [if_neg (by omega),if_neg (by omega),if_neg (by omega),if_neg (by omega),if_neg (by omega),if_neg (by omega),if_pos (by omega)] at hts
   rw [if_neg (by omega),if_neg (by omega),if_pos k]
   obtain ⟨r,e1,e2⟩:=zti hts
   refine ⟨r,?_,e2⟩
   rw [e1]
   dsimp only
   rw [zu3 n1 n2,<- zi7 (by omega) rfl (p2 rfl) (p3 rfl) (p4 rfl) hmore]
  ·obtain ⟨_,p2,p3,p4⟩:=ziQ hp
   rw [if_pos k] at hts
   rw [if_neg (by omega),if_neg (by omega),if_neg (by omega),if_pos k]
   obtain ⟨it,i1,i2,i3⟩:=zk7 hit
   unfold zol at hts
   rw [i1] at hts
   obtain ⟨tk,r,e1,e2,e3,e4⟩:=zk8 hts
   subst e1
   refine ⟨r,?_,e4⟩
   have:zp5 x (tk :: r)=some (v.n,r):=by
    show (bif decide (tk.kind=2) then (zmR tk.text x.items).map λj=>(j,r) else none)=_
    rw [zDT e2,e3,show Str.mk it.name.b=it.name from rfl,zsA (hW.id x hxm) i2,i3];rfl
   rw [this]
   dsimp only
   rw [<- zi7 (by omega) rfl (p2 rfl) (p3 rfl) (p4 rfl) hmore]
  ·obtain ⟨p1,p2,p3,p4⟩:=ziQ hp
   rw [if_neg (by omega),if_neg (by omega),if_neg (by omega),if_neg (by omega),if_neg (by omega),if_pos (by omega)] at hts
   rw [if_neg (by omega),if_pos k]
   obtain ⟨r,e1,e2⟩:=zhs hts (.inl rfl)
   refine ⟨r,?_,e2⟩
   rw [e1]
   dsimp only
   rw [<- zi7 (by omega) (p1 rfl) (p2 rfl) (p3 rfl) (p4 rfl) hmore]
  ·obtain ⟨p1,p2,p3,p4⟩:=ziQ hp
   rw [if_neg (by omega),if_neg (by omega),if_neg (by omega),if_neg (by omega),if_neg (by omega),if_neg (by omega),if_neg (by omega)] at hts
   rw [if_neg (by omega),if_neg (by omega),if_neg (by omega),if_neg (by omega)]
   rcases k with k | k
   ·rw [if_pos (by omega)] at hts
    rw [if_pos k]
    obtain ⟨r,e1,e2⟩:=zti hts
    refine ⟨r,?_,e2⟩
    rw [e1]
    dsimp only
    rw [zA4 (by omega),<- zi7 (by omega) (p1 rfl) rfl (p3 rfl) (p4 rfl) hmore]
   ·rw [if_neg (by omega),if_pos (by omega)] at hts
    rw [if_neg (by omega),if_pos k]
    obtain ⟨r,e1,e2⟩:=zti hts
    refine ⟨r,?_,e2⟩
    rw [e1]
    dsimp only
    rw [<- zi7 (by omega) (p1 rfl) rfl (p3 rfl) (p4 rfl) hmore]
  ·obtain ⟨p1,p2,p3,p4⟩:=ziQ hp
   rw [if_neg (by omega),if_pos k] at hts
   rw [if_neg (by omega),if_neg (by omega),if_neg (by omega),if_neg (by omega),if_neg (by omega),if_neg (by omega),if_pos k]
   have hv:v=zdH 10 0 [] v.l:=zi7 (by omega) (p1 rfl) (p2 rfl) rfl (p4 rfl) hmore
   obtain ⟨r,e1,e2⟩:=zhs (show ts.map kt=(6,[123]) :: ((cm (v.l.map (zjH h t.types x.of)) ++ [(6,[125])]) ++ ks) from hts) (.inr rfl)
   unfold zvj
   rw [e1]
   dsimp only
   rw [zLA] at e2
   cases hvl:v.l with
   | nil =>
    rw [hvl] at e2
    obtain ⟨r2,e3,e4⟩:=zhs (show r.map kt=(6,[125]) :: ks from e2) (.inr rfl)
    refine ⟨r2,?_,e4⟩
    rw [e3]
    show PR.ok (zdH 10 0 [] []) r2=_
    rw [hv,hvl]
   | cons w ws =>
    rw [hvl] at e2 hl hkb
    have hw:=zun (hl w zMs) (hkb w zMs)
    obtain ⟨a,b,c,e3,e4⟩:=zxL (qs:=ws.map (zjH h t.types x.of)) hw ([(6,[125])] ++ ks)
    have e5:r.map kt=(a,b) :: c:=by rw [e2];exact e3
    rw [zoQ e5 e4]
    dsimp only
    obtain ⟨r3,e6,e7⟩:=zrf (f:=pv h t.types x.of) (g:=zjH h t.types x.of) (ws:=w :: ws) r.length r [] ks (by simp) (λu hu=>ih (hl u hu) (hkb u hu) (hI.kid u (by rw [hvl];exact hu))) e2 (by
     have:=congrArg List.length e2
     rw [List.length_map] at this
     rw [this]
     have:∀ (l:List KS),(∀ q ∈ l,1 <= q.length)->l.length <= (cm l).length:=by
      intro l
      induction l with
      | nil=>intro _;exact zNz _
      | cons q l ih2 =>
       intro hq
       have h1:=ih2 λz hz=>hq z (zMm _ hz)
       have h2:=hq q zMs
       rw [zqk,zLc,zLa]
       split
       ·rename_i hl0;rw [hl0];simp;omega
       ·rw [zLc];omega
     have h3:=this ((w :: ws).map (zjH h t.types x.of)) λq hq=>by
      obtain ⟨u,hu,rfl⟩:=List.mem_map.1 hq
      obtain ⟨_,_,_,e8,_⟩:=zun (hl u hu) (hkb u hu)
      rw [e8];simp
     rw [List.length_map] at h3
     rw [zLa];omega)
    refine ⟨r3,?_,e7⟩
    rw [e6]
    show PR.ok (zdH 10 0 [] ([] ++ w :: ws)) r3=_
    rw [List.nil_append,hv,hvl]
  ·obtain ⟨p1,p2,p3,p4⟩:=ziQ hp
   rw [if_neg (by omega),if_neg (by omega),if_pos k,hf,hl] at hts
   rw [if_neg (by omega),if_neg (by omega),if_neg (by omega),if_neg (by omega),if_neg (by omega),if_neg (by omega),if_neg (by omega),if_pos k]
   have hw:w ∈ v.l:=by rw [hl];exact zMo.2 rfl
   obtain ⟨r,e1,e2⟩:=ztX (hW.fd x hxm) hf (zNz _) hts
   obtain ⟨r2,e3,e4⟩:=zhs (show r.map kt=(6,[58]) :: (zjH h t.types f.ty w ++ ks) from e2) (.inr rfl)
   obtain ⟨r3,e5,e6⟩:=ih hfw (hkb w hw) (hI.kid w hw) r2 ks e4
   refine ⟨r3,?_,e6⟩
   rw [e1]
   dsimp only
   rw [e3]
   dsimp only
   rw [hf]
   dsimp only
   rw [e5]
   show PR.ok (zdH 9 (v.n.toNat:Int) [] [w]) r3=_
   rw [<- zi7 (by omega) (by omega) (p2 rfl) hl (p4 rfl) hmore]
  ·obtain ⟨p1,p2,p3,p4⟩:=ziQ hp
   rw [if_neg (by omega),if_neg (by omega),if_neg (by omega),if_pos k] at hts
   rw [if_neg (by omega),if_neg (by omega),if_neg (by omega),if_neg (by omega),if_neg (by omega),if_neg (by omega),if_neg (by omega),if_neg (by omega)]
   have hv:v=zdH x.kind 0 [] v.l:=zi7 e (p1 rfl) (p2 rfl) rfl (hr hmore) hmore
   have hF:∀ (k:Nat) y w,x.fields[k]?=some y->v.l[k]?=some w->(w.kind=0->w=zcV)/\(w.kind ≠ 0->Rr (pv h t.types y.ty) (zjH h t.types y.ty w) w/\(y.has=true->w ≠ y.dflt)):=λm y w h8 h9=>by
    rcases hfl m y w h8 h9 with ⟨z1,z2,_⟩ | ⟨z1,z2,z3⟩
    ·exact ⟨λ_=>z2,λz=>absurd z1 z⟩
    ·exact ⟨λz=>absurd z z1,λ_=>⟨ih z2 (hkb w (List.mem_of_getElem? h9)) (hI.kid w (List.mem_of_getElem? h9)),z3⟩⟩
   obtain ⟨r,e1,e2⟩:=zhs (show ts.map kt=(6,[123]) :: ((cm (zdK (zjH h t.types) x.fields v.l) ++ [(6,[125])]) ++ ks) from hts) (.inr rfl)
   unfold zsd
   rw [e1]
   dsimp only
   rw [zLA] at e2
   by_cases hp0:zdK (zjH h t.types) x.fields v.l=[]
   ·rw [hp0] at e2
    obtain ⟨r2,e3,e4⟩:=zhs (show r.map kt=(6,[125]) :: ks from e2) (.inr rfl)
    refine ⟨r2,?_,e4⟩
    rw [e3]
    have hall:=zlY hlen.symm hp0
    have:v.l=List.replicate v.l.length zcV:=zz8 λu hu=>by
     obtain ⟨m,hm⟩:=List.mem_iff_getElem?.1 hu
     obtain ⟨hm1,_⟩:=List.getElem?_eq_some_iff.1 hm
     exact (hF m _ u (List.getElem?_eq_getElem (by omega)) hm).1 (hall u hu)
    show PR.ok (zdH x.kind 0 [] (List.replicate x.fields.length zcV)) r2=_
    rw [<- hlen,<- this,<- hv]
   ·have hfirst:∃ c,cm (zdK (zjH h t.types) x.fields v.l) ++ ([(6,[125])] ++ ks)=c/\zvO c:=by
     have:∀ {fs:List zaC} {ws:List Val},∀ q ∈ zdK (zjH h t.types) fs ws,zvO q:=by
      intro fs
      induction fs with
      | nil=>intro ws q hq;cases ws <;> cases hq
      | cons y fs ih2 =>
       intro ws q hq
       cases ws with
       | nil=>cases hq
       | cons w ws =>
        change q ∈ (if w.kind=0 then zdK (zjH h t.types) fs ws else _ :: zdK (zjH h t.types) fs ws) at hq
        by_cases h0:w.kind=0
        ·rw [if_pos h0] at hq;exact ih2 q hq
        ·rw [if_neg h0] at hq
         rcases List.mem_cons.1 hq with e | e
         ·rw [e];exact ⟨_,_,_,rfl,by simp⟩
         ·exact ih2 q e
     obtain ⟨q,qs,eq⟩:=List.exists_cons_of_ne_nil hp0
     rw [eq]
     exact ⟨_,rfl,zxL (this q (by rw [eq];exact zMs)) _⟩
    obtain ⟨c,c1,a,b,d,c2,c3⟩:=hfirst
    rw [zoQ (show r.map kt=(a,b) :: d by rw [e2,c1,c2]) c3]
    dsimp only
    obtain ⟨r3,e6,e7⟩:=zqW (fs:=x.fields) (hW.fd x hxm) (f:=pv h t.types) (g:=zjH h t.types) (f2:=x.fields) (w2:=v.l) [] 0 r.length r ks (zNz _) rfl hlen.symm hp0 hF e2 (zNl _)
    refine ⟨r3,?_,e7⟩
    rw [List.nil_append,List.nil_append] at e6
    rw [e6]
    show PR.ok (zdH x.kind 0 [] v.l) r3=_
    rw [<- hv]
theorem zyp {t:zab} (hW:NmW t.types) {i:Int} {v:Val} (hF:Fit t 17 i v) (hb:bare v=true) (hI:zhv v) (hl:(txt 17 t.types i v).length <= 8000):zns t.types i (txt 17 t.types i v)=.ok v []:=by
 have h:=zBe hW hF hb hI [] [] (.inl ⟨rfl,rfl⟩) (.fin rfl)
 rw [List.append_nil,List.append_nil] at h
 obtain ⟨l,e1,e2⟩:=zy6 h hl
 obtain ⟨r,e3,e4⟩:=zAA hW hF hb hI l [(0,[])] e2
 obtain ⟨y,r',e5,e6,_,e7⟩:=zk8 e4
 unfold zns
 rw [e1,if_neg (by simp)]
 dsimp only
 rw [e3]
 dsimp only
 rw [e5]
 dsimp only
 rw [if_pos e6]
theorem zsm:∀ {k n:Nat} {v:Val},cnt v <= k->4 * k <= n->zcA v->zdP n v=some (bare v):=by
 intro k
 induction k with
 | zero=>intro n v h;have:=zeA v;omega
 | succ k ih =>
  intro n v hk hn hf
  obtain ⟨n,rfl⟩:∃ n',n=n' + 4:=⟨n - 4,by omega⟩
  have hfl:=hf.l
  have hc:zS (n + 3) v.l=some (!(v.l.map bare).all id):=by
   refine T.eqs ?_
   show T _ (zaT (zdt (n + 2)) (zdP (n + 2)) (zS (n + 2)) (zad (n + 2)) v.l)
   unfold zaT
   refine T.cal (Q:=λ(r:Int)=>decide (0 <= r)=!(v.l.map bare).all id) ?_ λy _ hy=>T.some hy
   show T _ (za6 (zdt (n + 1)) (zdP (n + 1)) (zS (n + 1)) (zad (n + 1)) v.l)
   unfold za6
   refine T.lp (ι:=Int) (λq=>0 <= q/\q <= (v.l.length:Int)/\((v.l.take q.toNat).map bare).all id=true) (λq=>((v.l.length:Int) - q).toNat) ⟨zIl _,by omega,rfl⟩ (by omega) λL q ⟨q1,q2,q3⟩ hL=>T.br (λhb=>?_) λhb=>T.some ?_
   ·have hb:=zOT hb
    refine T.get q1 hb λy hy=>?_
    have hm:=List.mem_of_getElem? hy
    have hk:=zdq hm
    refine T.eq (y:=!bare y) ?_ (T.br (λh2=>T.some ?_) λh2=>T.ck (by omega) (hL _ ⟨by omega,by omega,?_⟩ (by omega)))
    ·refine T.eqs ?_
     show T _ (ze2 (zdt n) (zdP n) (zS n) (zad n) y)
     unfold ze2
     exact T.eq (ih (by omega) (by omega) (hf.kid y hm)) (T.some rfl)
    ·have h2:bare y=false:=by simpa using h2
     have:(v.l.map bare).all id=false:=by
      rw [List.all_eq_false]
      exact ⟨bare y,List.mem_map.2 ⟨y,hm,rfl⟩,by rw [h2];decide⟩
     rw [this,zDT q1];rfl
    ·have h2:bare y=true:=by simpa using h2
     have e:(q + 1).toNat=q.toNat + 1:=by omega
     rw [e,List.take_add_one,hy,List.map_append,List.all_append,q3]
     show (true && (bare y && true))=true
     rw [h2];rfl
   ·have hb:=zOF hb
    rw [zTl (by omega)] at q3
    rw [q3];rfl
  refine T.eqs ?_
  show T _ (zgY (zdt (n + 3)) (zdP (n + 3)) (zS (n + 3)) (zad (n + 3)) v)
  unfold zgY
  rw [ziI]
  have e0:(!(decide (v.kind=12) || decide (0 < v.more.length)))=(!decide (v.kind=12) && decide ((v.more.length:Int)=0)):=by
   rw [Bool.not_or]
   congr 1
   cases h:decide (0 < v.more.length) with
   | true=>have:=zOT h;rw [zDF (by omega)];rfl
   | false=>have:=zOF h;rw [zDT (by omega)];rfl
  rw [e0]
  refine T.andJ (d:=decide ((v.more.length:Int)=0)) (λJ kk=>kk) ?_
  refine T.andJ (d:=(v.l.map bare).all id) (λJ kk=>T.eq hc ?_) (T.some rfl)
  rw [Bool.not_not]
  exact kk
theorem zrH {t:zab} (ht:zdp t) {i:Int} {v:Val} (hF:Fit t 17 i v) (hb:bare v=true) (hf:zcA v) (hc:cnt v <= 5000):zeZ t i v=some true:=by
 refine T.eqs ?_
 unfold zeZ
 have hs:=zvB hF hb
 have h:=zxJ ht (b:=false) (h:=17) (n:=fuel) (i:=i) (v:=v) (d:=1) (by decide) (by decide) (by unfold fuel;decide) hf (by omega) hF (by rw [hs];exact hb)
 rw [hs] at h
 exact T.eq h (T.jp (λb=>b=true) (λJ kk=>T.br (λ_=>T.eq (zpU (by unfold fuel;omega) (by omega) hf) (kk _ (zDT (by omega)))) λh=>by cases h) λb hb=>T.some hb)
def zoB (l:List zg) (i:Int) (v:Val):Str × Int:=if 8000 < (txt 17 l i v).length then (⟨[]⟩,5) else (⟨txt 17 l i v⟩,0)
theorem zpc {t:zab} (ht:zdp t) (hB:NmB t.types) {i:Int} {v:Val} (hF:Fit t 17 i v) (hb:bare v=true) (hI:zhv v) (hf:zcA v) (hc:cnt v <= 5000):zew t i v=some (zoB t.types i v):=by
 refine T.eqs ?_
 unfold zew
 have h:=prP hB (h:=17) (n:=fuel) (b:=[]) (by unfold fuel;decide) hF hb hI hf (by omega) (by simp only [zLn];omega)
 refine T.eq (zrH ht hF hb hf hc) (T.br (λh=>by cases h) λ_=>T.eq (zsm (k:=5000) (by omega) (by unfold fuel;decide) hf) ?_)
 rw [hb]
 refine T.br (λh=>by cases h) λ_=>T.eq h (T.br (λhl=>T.some ?_) λhl=>T.some ?_)
 ·have hl:=zOT hl
  unfold zoB
  rw [if_pos (by have h9:(8000:Int) < ((txt 17 t.types i v).length:Nat):=(by simpa using hl);omega)]
 ·have hl:=zOF hl
  unfold zoB
  rw [if_neg (by have h9:((txt 17 t.types i v).length:Int) <= 8000:=(by simpa using hl);omega)];rfl
theorem zAD {t:zab} {h:Nat} {i:Int} {v:Val} (hF:Fit t h i v):0 <= i/\i < t.types.length:=by
 cases h with
 | zero=>cases hF
 | succ h =>
  obtain ⟨h0,x,hx,_⟩:=hF
  have:=(List.getElem?_eq_some_iff.1 hx).1
  exact ⟨h0,by omega⟩
theorem zrQ {t:zab} (ht:zdp t) (hk:TOk t.types) (hW:NmW t.types) {i:Int} {v:Val} (hF:Fit t 17 i v) (hb:bare v=true) (hI:zhv v) (hf:zcA v) (hc:cnt v <= 5000) (hl:(txt 17 t.types i v).length <= 8000):zeQ t i ⟨txt 17 t.types i v⟩=some (v,0,0):=by
 refine T.eqs ?_
 obtain ⟨i0,i1⟩:=zAD hF
 have h:=zyp hW hF hb hI hl
 refine ztV hk i0 i1 _ (λp e hp=>?_) λw r hp _ _=>?_
 ·rw [h] at hp;cases hp
 ·rw [h] at hp
  cases hp
  exact ⟨true,zrH ht hF hb hf hc,by dsimp only;rw [if_pos rfl]⟩
def BI (v:Val):Prop:=bare v=true/\zhv v
theorem zrn {k n:Int} {b:List UInt8} {l:List Val} (hk:k ≠ 12) (h0:-9223372036854775808 <= n/\n <= 9223372036854775807) (hl:∀ w ∈ l,BI w):BI (zdH k n b l):=by
 refine ⟨?_,.mk h0.1 h0.2 λw hw=>(hl w hw).2⟩
 rw [ziI,zBa]
 refine ⟨?_,List.all_eq_true.2 λy hy=>?_⟩
 ·show (!(decide (k=12) || decide (0 < ([]:List Raw).length)))=true
  rw [zDF hk];rfl
 ·obtain ⟨w,hw,e⟩:=List.mem_map.1 hy
  rw [<- e];exact (hl w hw).1
theorem zut {w:Val}:w ∈ ([]:List Val)->BI w:=λh=>by cases h
theorem zzF:BI zcV:=zrn (by decide) (by decide) λw=>zut
theorem zwg (s:Str):-9223372036854775808 <= zql s/\zql s <= 9223372036854775807:=by
 have z:zc1 0:=zkV (by decide) (by decide)
 have key:zc1 (zql s):=by
  unfold zql zbb
  cases decide ((10:Int)=10) && decide ((64:Int)=64) && Nat.ble s.b.length 281474976710656 with
  | false=>exact z
  | true =>
   dsimp only [zCt]
   cases h:Lib.parseIntB 64 s.b with
   | ok v=>exact zrI h
   | range=>exact zzW _
   | _=>exact z
 unfold zc1 at key
 omega
theorem zrq {f:List zU->PR Val} (hf:∀ {ts w r},f ts=.ok w r->BI w):∀ (n:Nat) (ts:List zU) (acc:List Val) {l r},(∀ w ∈ acc,BI w)->zjZ f n ts acc=.ok l r->∀ w ∈ l,BI w
 | 0,ts,acc,l,r,_,h=>by cases h
 | n + 1,ts,acc,l,r,ha,h=>by
  unfold zjZ at h
  split at h
  ·cases h
  ·rename_i w r' e
   have ha2:∀ w' ∈ acc ++ [w],BI w':=λw' hw'=>(List.mem_append.1 hw').elim (ha w') λh=>by rw [zMo.1 h];exact hf e
   split at h
   ·exact zrq hf n _ _ ha2 h
   ·split at h
    ·cases h;exact ha2
    ·cases h
theorem zBf {x:zaC} {j:Nat} {w:Val} {acc:List Val} (ha:∀ w ∈ acc,BI w) (hw:BI w):∀ w' ∈ zg5 x j w acc,BI w':=by
 unfold zg5
 split
 ·exact ha
 ·exact λw' h=>(List.mem_or_eq_of_mem_set h).elim (ha w') λe=>by rw [e];exact hw
theorem zt0 {fs:List zaC} {f:Int->List zU->PR Val} (hf:∀ {i ts w r},f i ts=.ok w r->BI w):∀ (n:Nat) (ts:List zU) (k:Nat) (acc:List Val) {l r},(∀ w ∈ acc,BI w)->zkg fs f n ts k acc=.ok l r->∀ w ∈ l,BI w
 | 0,ts,k,acc,l,r,_,h=>by cases h
 | n + 1,ts,k,acc,l,r,ha,h=>by
  unfold zkg at h
  split at h
  ·cases h
  ·split at h
   ·cases h
   ·split at h
    ·cases h
    ·rename_i w r' e
     have ha2:∀ x j,∀ w' ∈ zg5 x j w acc,BI w':=λx j=>zBf ha (hf e)
     split at h
     ·exact zt0 hf n _ _ _ (ha2 _ _) h
     ·split at h
      ·cases h;exact ha2 _ _
      ·cases h
theorem zsS {α β:Type} {f:α->β} {p:PR α} {y:β} {r:List zU} (h:p.map f=.ok y r):∃ x,p=.ok x r/\y=f x:=by
 cases p with
 | ok x r'=>cases h;exact ⟨x,rfl,rfl⟩
 | bad p e=>cases h
theorem zst {s:Str} {n:Int}:∀ {l:List zag},zmR s l=some n->∃ it ∈ l,it.number=n
 | [],h=>by cases h
 | y :: l,h=>by
  unfold zmR at h
  cases hd:decide (y.name=s) with
  | true=>rw [hd] at h;cases h;exact ⟨y,zMs,rfl⟩
  | false =>
   rw [hd] at h
   obtain ⟨it,h1,h2⟩:=zst h
   exact ⟨it,zMm _ h1,h2⟩
theorem zt9 {l:List zg} (hl:∀ x ∈ l,x.kind ≠ 12/\x.fields.length <= 1000/\∀ it ∈ x.items,-9223372036854775808 <= it.number/\it.number <= 9223372036854775807):∀ (h:Nat) {i:Int} {ts:List zU} {v:Val} {r:List zU},pv h l i ts=.ok v r->BI v
 | 0,i,ts,v,r,e=>by cases e
 | h + 1,i,ts,v,r,e=>by
  unfold pv at e
  split at e
  ·cases e
  rename_i x hx
  obtain ⟨hk,hfl,hit⟩:=hl x (List.mem_of_getElem? hx)
  have lf:∀ {k n:Int} {b:List UInt8},k ≠ 12->-9223372036854775808 <= n/\n <= 9223372036854775807->BI (zdH k n b []):=λhk hn=>zrn hk hn λw=>zut
  unfold pvK at e
  split at e
  ·split at e
   ·cases e;exact lf (by decide) (by decide)
   ·split at e
    ·cases e;exact lf (by decide) (by decide)
    ·cases e
  split at e
  ·split at e
   ·cases e;exact lf (by decide) (by decide)
   ·cases e
  split at e
  ·split at e
   ·cases e;exact lf (by decide) (zwg _)
   ·cases e
  split at e
  ·split at e
   ·rename_i n r' hp
    cases e
    refine lf (by decide) ?_
    cases ts with
    | nil=>cases hp
    | cons t ts =>
     change (bif decide (t.kind=2) then (zmR t.text x.items).map λj=>(j,ts) else none)=some (n,_) at hp
     cases hd:decide (t.kind=2) with
     | false=>rw [hd] at hp;cases hp
     | true =>
      rw [hd] at hp
      obtain ⟨j,hj,e2⟩:=Option.map_eq_some_iff.1 hp
      cases e2
      obtain ⟨it,h1,h2⟩:=zst hj
      rw [<- h2];exact hit it h1
   ·cases e
  split at e
  ·split at e
   ·cases e;exact lf (by decide) (by decide)
   ·cases e
  split at e
  ·split at e
   ·cases e;exact lf (by decide) (by decide)
   ·cases e
  split at e
  ·obtain ⟨q,e1,e2⟩:=zsS e
   rw [e2]
   refine zrn (by decide) (by decide) ?_
   unfold zvj at e1
   split at e1
   ·cases e1
   ·split at e1
    ·cases e1;exact λw=>zut
    ·exact zrq (λh'=>zt9 hl h h') _ _ _ (λw=>zut) e1
  split at e
  ·split at e
   ·cases e
   ·rename_i j r' hj
    split at e
    ·cases e
    ·split at e
     ·cases e
     ·rename_i y hy
      obtain ⟨q,e1,e2⟩:=zsS e
      rw [e2]
      have:=(List.getElem?_eq_some_iff.1 hy).1
      exact zrn (by decide) ⟨by omega,by omega⟩ λw hw=>by rw [zMo.1 hw];exact zt9 hl h e1
  ·obtain ⟨q,e1,e2⟩:=zsS e
   rw [e2]
   refine zrn hk (by decide) ?_
   have hz:∀ w ∈ List.replicate x.fields.length zcV,BI w:=λw hw=>by rw [(List.mem_replicate.1 hw).2];exact zzF
   unfold zsd at e1
   split at e1
   ·cases e1
   ·split at e1
    ·cases e1;exact hz
    ·exact zt0 (λh'=>zt9 hl h h') _ _ _ _ hz e1
def tokF (s:Str):Option (List zU × Int × Int):=some (toks s.b)
theorem zzd:zfp=tokF:=funext zpA
def zlK (za3:Str):Option (zaB × Int × Int) :=
 cal (tokF za3) λy2=>br (!decide (y2.2.2=(0:Int))) (some ((zaB.mk (Str.mk []) (0:Int) ([]:(List Str)) ([]:(List Int)) ([]:(List zh))),y2.2.1,y2.2.2)) (cal (zbw (zz.mk y2.1 (0:Int) (zaB.mk (Str.mk []) (0:Int) ([]:(List Str)) ([]:(List Int)) ([]:(List zh))) (0:Int) (0:Int)) (1:Int)) λy7=>cal (zP (zz.mk y7.2.l y7.2.at_ (zaB.mk y7.1 y7.2.m.tagging y7.2.m.names y7.2.m.types y7.2.m.nodes) y7.2.e y7.2.p) (Str.mk [68,69,70,73,78,73,84,73,79,78,83])) λy10=>jp (ι:=zz) (λJ14=>cal (zE y10 (Str.mk [69,88,80,76,73,67,73,84])) λy15=>br y15.1 (cal (zP y15.2 (Str.mk [84,65,71,83])) λy18=>J14 (y18)) (cal (zE y15.2 (Str.mk [73,77,80,76,73,67,73,84])) λy21=>br y21.1 (cal (zP (zz.mk y21.2.l y21.2.at_ (zaB.mk y21.2.m.name (1:Int) y21.2.m.names y21.2.m.types y21.2.m.nodes) y21.2.e y21.2.p) (Str.mk [84,65,71,83])) λy24=>J14 (y24)) (cal (zE y21.2 (Str.mk [65,85,84,79,77,65,84,73,67])) λy27=>br y27.1 (cal (zP (zz.mk y27.2.l y27.2.at_ (zaB.mk y27.2.m.name (2:Int) y27.2.m.names y27.2.m.types y27.2.m.nodes) y27.2.e y27.2.p) (Str.mk [84,65,71,83])) λy30=>J14 (y30)) (J14 (y27.2))))) (λq13=>cal (zP q13 (Str.mk [58,58,61])) λy33=>cal (zP y33 (Str.mk [66,69,71,73,78])) λy36=>lp (ι:=zz) (λL40 q39=>jp (ι:=Bool × zz) (λJ92=>br (decide (q39.e=(0:Int))) (cal (zE q39 (Str.mk [69,78,68])) λy94=>J92 ((!y94.1),y94.2)) (J92 (false,q39))) (λq91=>br q91.1 (cal (zaG q91.2) λy97=>cal (zbw y97.2 (1:Int)) λy101=>jp (ι:=Bool) (λJ105=>br (decide (y101.2.e=(0:Int))) (J105 ((decide ((40:Int) <= (y101.2.m.names.length:Int))))) (J105 (false))) (λq104=>jp (ι:=zz) (λJ108=>br q104 (cal (za4 y101.2 (5:Int) y97.1) λy109=>J108 (y109)) (J108 (y101.2))) (λq107=>cal (zP q107 (Str.mk [58,58,61])) λy112=>cal (za0 fuel y112 (0:Int)) λy115=>asr (Nat.ble (y115.2.m.names.length + ([y101.1]:(List Str)).length) 68719476736) <| asr (Nat.ble (y115.2.m.types.length + ([y115.1]:(List Int)).length) 68719476736) <| L40 ((zz.mk y115.2.l y115.2.at_ (zaB.mk y115.2.m.name y115.2.m.tagging (y115.2.m.names ++ ([y101.1]:(List Str))) (y115.2.m.types ++ ([y115.1]:(List Int))) y115.2.m.nodes) y115.2.e y115.2.p))))) (jp (ι:=Bool × zz) (λJ126=>br (decide (q91.2.e=(0:Int))) (cal (zaG q91.2) λy128=>J126 ((!decide (y128.1.kind=(0:Int))),y128.2)) (J126 (false,q91.2))) (λq125=>jp (ι:=zz) (λJ132=>br q125.1 (cal (zaG q125.2) λy133=>cal (za4 y133.2 (7:Int) y133.1) λy136=>J132 (y136)) (J132 (q125.2))) (λq131=>br (!decide (q131.e=(0:Int))) (some ((zaB.mk (Str.mk []) (0:Int) ([]:(List Str)) ([]:(List Int)) ([]:(List zh))),q131.p,q131.e)) (some (q131.m,(0:Int),(0:Int)))))))) ((y36))))
theorem zpi:zfA=zlK:=by
 funext za3
 unfold zfA zlK
 rw [zzd]
def zjd (za3:Str):Option (zab × Bool) :=
 br (decide ((3000:Int) < (za3.b.length:Int))) (some ((zab.mk (Str.mk []) ([]:(List Str)) ([]:(List Int)) ([]:(List zg))),false)) (cal (zlK za3) λy2=>br (!decide (y2.2.2=(0:Int))) (some ((zab.mk (Str.mk []) ([]:(List Str)) ([]:(List Int)) ([]:(List zg))),false)) (cal (zgS y2.1) λy4=>jp (ι:=Bool) (λJ7=>br (decide (y4.2.2=(0:Int))) (J7 ((decide ((y4.1.types.length:Int) <= (120:Int))))) (J7 (false))) (λq6=>some (y4.1,q6))))
theorem zlr:zcg=zjd:=by
 funext za3
 unfold zcg zjd
 rw [zpi]
def conN:zbt:=⟨false,false,false,false,0,0⟩
def zul (l:List zg):Bool:=decide (l.length <= 1000) && l.all λx=>decide (x.fields.length <= 1000) && decide (x.items.length <= 1000) && (x.fields.all λf=>decide (0 <= f.ty) && decide (f.ty < l.length) && zko f.name.b && decide (f.name.b.length <= 90)) && (x.items.all λit=>zko it.name.b && decide (it.name.b.length <= 90)) &&
 (!decide (x.kind=10) || (decide (0 <= x.of) && decide (x.of < l.length))) && decide (1 <= x.kind) && decide (x.kind <= 10) && decide ((x.fields.map λf=>f.name).Nodup) && decide ((x.items.map λit=>it.name).Nodup)
structure TG (l:List zg):Prop where
 ok:TOk l
 nb:NmB l
 nw:NmW l
theorem zxE {l:List zg} (h:zul l=true):TG l:=by
 unfold zul at h
 rw [zBa] at h
 have hl:=zOT h.1
 have ha:=λx hx=>List.all_eq_true.1 h.2 x hx
 simp only [zBa] at ha
 refine ⟨⟨hl,λx hx=>zOT (ha x hx).1.1.1.1.1.1.1.1,λx hx=>?_,λx hx f hf=>?_,λx hx hk=>?_,λx hx=>?_⟩,⟨hl,λx hx=>zOT (ha x hx).1.1.1.1.1.1.1.1,λx hx=>?_,λx hx f hf=>?_,λx hx it hit=>?_⟩,⟨λx hx f hf=>?_,λx hx it hit=>?_,λx hx=>?_,λx hx=>?_⟩⟩
 ·have:=zOT (ha x hx).1.1.1.1.1.1.1.2;omega
 ·have:=List.all_eq_true.1 (ha x hx).1.1.1.1.1.1.2 f hf
  simp only [zBa] at this
  exact ⟨zOT this.1.1.1,zOT this.1.1.2⟩
 ·have:=(ha x hx).1.1.1.1.2
  rw [zDT hk,Bool.not_true,Bool.false_or,zBa] at this
  exact ⟨zOT this.1,zOT this.2⟩
 ·exact ⟨zOT (ha x hx).1.1.1.2,zOT (ha x hx).1.1.2⟩
 ·have:=zOT (ha x hx).1.1.1.1.1.1.1.2;omega
 ·have:=List.all_eq_true.1 (ha x hx).1.1.1.1.1.1.2 f hf
  simp only [zBa] at this
  exact zOT this.2
 ·have:=List.all_eq_true.1 (ha x hx).1.1.1.1.1.2 it hit
  simp only [zBa] at this
  exact zOT this.2
 ·have:=List.all_eq_true.1 (ha x hx).1.1.1.1.1.1.2 f hf
  simp only [zBa] at this
  exact this.1.2
 ·have:=List.all_eq_true.1 (ha x hx).1.1.1.1.1.2 it hit
  simp only [zBa] at this
  exact this.1
 ·exact zOT (ha x hx).1.2
 ·exact zOT (ha x hx).2
/-! ### A table is well made: by looking -/
def dokB (v:Val):Bool:=decide (v.b.length <= 8000) && v.l.isEmpty && v.more.isEmpty && decide (0 <= v.kind) && decide (v.kind <= 6) && decide (v.rule=0)
def zvY (t:zg):Bool:=(decide (t.kind=9) || !t.tags.isEmpty) && decide (t.tags.length <= 100000) && decide (0 <= t.root) && (if t.kind=7 \/ t.kind=8 \/ t.kind=9 then decide (t.root <= t.fields.length) else t.fields.isEmpty && (decide (t.kind=3) || decide (t.root=0))) && (if t.kind=3 then decide (t.root <= t.items.length) else t.items.isEmpty) && decide (t.items.length <= 8001) && (t.items.all λit=>decide (-9223372036854775808 <= it.number) && decide (it.number <= 9223372036854775807)) && t.fields.all λf=>dokB f.dflt
theorem zAf {t:zg} (h:zvY t=true):zjO t:=by
 unfold zvY at h
 simp only [zBa] at h
 obtain ⟨⟨⟨⟨⟨⟨⟨h1,h2⟩,h3⟩,h4⟩,h5⟩,h6⟩,h7⟩,h8⟩:=h
 refine ⟨λk=>?_,zOT h2,zOT h3,λk=>?_,λk=>?_,λk=>?_,λk=>?_,zOT h6,λit hit=>?_,λf hf=>?_,λk k2=>?_⟩
 ·rw [zDF k,Bool.false_or] at h1
  intro e;rw [e] at h1;cases h1
 ·rw [if_pos k] at h4;exact zOT h4
 ·rw [if_pos k] at h5;exact zOT h5
 ·rw [if_neg k,zBa] at h4;exact List.isEmpty_iff.1 h4.1
 ·rw [if_neg k] at h5;exact List.isEmpty_iff.1 h5
 ·have:=List.all_eq_true.1 h7 it hit
  rw [zBa] at this
  exact ⟨zOT this.1,zOT this.2⟩
 ·have:=List.all_eq_true.1 h8 f hf
  unfold dokB at this
  simp only [zBa] at this
  exact ⟨zOT this.1.1.1.1.1,List.isEmpty_iff.1 this.1.1.1.1.2,List.isEmpty_iff.1 this.1.1.1.2,zOT this.1.1.2,zOT this.1.2,zOT this.2⟩
 ·rw [if_neg k2,zBa,zDF k,Bool.false_or] at h4
  exact zOT h4.2
def zpI (S:Nat->Option Nat):List Int->Nat->Option Nat
 | [],a=>some a
 | k :: r,a=>if k=(a:Int) then (match S a with
  | some c=>zpI S r c
  | none=>none) else none
theorem zq3 {S:Nat->Option Nat} {R:Nat->Nat->Prop} (h:∀ a c,S a=some c->R a c):∀ {l:List Int} {a b:Nat},zpI S l a=some b->zaN R l a b
 | [],a,b,e=>by injection e
 | k :: r,a,b,e=>by
  change (if k=(a:Int) then (match S a with | some c=>zpI S r c | none=>none) else none)=some b at e
  by_cases hk:k=(a:Int)
  ·rw [if_pos hk] at e
   cases hc:S a with
   | none=>rw [hc] at e;cases e
   | some c=>rw [hc] at e;exact ⟨c,hk,h a c hc,zq3 h e⟩
  ·rw [if_neg hk] at e;cases e
def subJ:Nat->List zg->Nat->Option Nat
 | 0,_,_=>none
 | h + 1,l,i=>match l[i]? with
  | none=>none
  | some t=>if zvY t=true then zpI (subJ h l) (zhk t) (i + 1) else none
theorem zAM:∀ {h:Nat} {l:List zg} {i j:Nat},subJ h l i=some j->zbO h l i j:=by
 intro h
 induction h with
 | zero=>intro l i j e;cases e
 | succ h ih =>
  intro l i j e
  change (match l[i]? with | none=>none | some t=>if zvY t=true then zpI (subJ h l) (zhk t) (i + 1) else none)=some j at e
  cases ht:l[i]? with
  | none=>rw [ht] at e;cases e
  | some t =>
   rw [ht] at e
   dsimp only at e
   by_cases hb:zvY t=true
   ·rw [if_pos hb] at e
    exact ⟨t,ht,zAf hb,zq3 (R:=zbO h l) (λa c h=>ih h) e⟩
   ·rw [if_neg hb] at e;cases e
def tabB (t:zab):Bool:=decide (t.names.length <= 40) && decide (t.roots.length=t.names.length) && decide (t.types.length <= 300) && decide (zpI (subJ 17 t.types) t.roots 0=some t.types.length) && (List.range t.names.length).all λp=>(t.names[p]?).all λs=>decide (fnd t.names s=(p:Int))
theorem zAg {t:zab} (h:tabB t=true):zdp t:=by
 unfold tabB at h
 simp only [zBa] at h
 obtain ⟨⟨⟨⟨h1,h2⟩,h3⟩,h4⟩,h5⟩:=h
 refine ⟨zOT h1,zOT h2,zOT h3,zq3 (R:=zbO 17 t.types) (λa c h=>zAM h) (zOT h4),λp s hp=>?_⟩
 have hlt:=(List.getElem?_eq_some_iff.1 hp).1
 have:=List.all_eq_true.1 h5 p (List.mem_range.2 hlt)
 rw [hp] at this
 exact zOT this

/-! ### awake -/
def zwW:zab:=⟨⟨[77]⟩,[⟨[65]⟩],[0],[⟨7,[⟨0,16⟩],conN,[],[⟨⟨[97]⟩,1,false,false,zcV,0⟩,⟨⟨[98]⟩,2,true,false,zcV,0⟩],2,false,0⟩,⟨2,[⟨0,2⟩],conN,[],[],0,false,0⟩,⟨1,[⟨0,1⟩],conN,[],[],0,false,0⟩]⟩
theorem zyB:zcg (Str.mk [77,32,68,69,70,73,78,73,84,73,79,78,83,32,58,58,61,32,66,69,71,73,78,32,65,32,58,58,61,32,83,69,81,85,69,78,67,69,32,123,32,97,32,73,78,84,69,71,69,82,44,32,98,32,66,79,79,76,69,65,78,32,79,80,84,73,79,78,65,76,32,125,32,69,78,68])=some (zwW,true):=by
 rw [zlr];kernel_rfl
theorem zA5:TG zwW.types:=zxE (by kernel_rfl)
theorem zzv:zdp zwW:=zAg (by kernel_rfl)
def zvi:Val:=zdH 7 0 [] [zdH 2 5 [] [],zdH 1 1 [] []]
theorem zzA {t:zab} {h:Nat} {i n:Int} {x:zg} (h0:0 <= i) (hx:t.types[i.toNat]?=some x) (hk:x.kind=2) (hc:(x.con.more || zgc x.con n)=true):Fit t (h + 1) i (zdH 2 n [] []) :=
 ⟨h0,x,hx,.inr ⟨hk.symm,.inr (.inl ⟨hk,rfl,hc⟩)⟩⟩
theorem zwc {t:zab} {h:Nat} {i n:Int} {x:zg} (h0:0 <= i) (hx:t.types[i.toNat]?=some x) (hk:x.kind=1) (hc:(decide (n=0) || decide (n=1))=true):Fit t (h + 1) i (zdH 1 n [] []) :=
 ⟨h0,x,hx,.inr ⟨hk.symm,.inl ⟨hk,rfl,hc⟩⟩⟩
theorem zzi {t:zab} {h:Nat} {i:Int} {l:List Val} {x:zg} (h0:0 <= i) (hx:t.types[i.toNat]?=some x) (hk:x.kind=7) (hl:l.length=x.fields.length) (hf:∀ (k:Nat) f w,x.fields[k]?=some f->l[k]?=some w->zqR x (Fit t h) k f w) (hs:slots x=[]):Fit t (h + 1) i (zdH 7 0 [] l) :=
 ⟨h0,x,hx,.inr ⟨hk.symm,.inr (.inr (.inr (.inr (.inr (.inr (.inr ⟨.inl hk,rfl,λ_=>rfl,hl,hf,λs hs'=>by rw [hs] at hs';cases hs'⟩))))))⟩⟩
theorem there {x:zg} {F:Int->Val->Prop} {k:Nat} {f:zaC} {w:Val} (h1:w.kind ≠ 0) (h2:F f.ty w) (h3:f.has=false):zqR x F k f w:=.inr ⟨h1,h2,λh=>by rw [h3] at h;cases h⟩
theorem zrF {k n:Int} {b:List UInt8} {l:List Val} (h:zc1 n) (hl:∀ w ∈ l,zhv w):zhv (zdH k n b l):=by
 unfold zc1 at h
 exact .mk h.1 (by have:=h.2;show n <= _;omega) hl
theorem zoo:zfq=some true:=by
 refine T.eqs ?_
 unfold zfq
 have hF:Fit zwW 17 0 zvi:=zzi (zIl _) rfl rfl rfl (λk f w hf hw=>by
  match k,hf,hw with
  | 0,hf,hw=>cases hf;cases hw;exact there (show (2:Int) ≠ 0 by decide) (zzA (by decide) rfl rfl rfl) rfl
  | 1,hf,hw=>cases hf;cases hw;exact there (show (1:Int) ≠ 0 by decide) (zwc (by decide) rfl rfl rfl) rfl
  | k + 2,hf,hw=>cases hw) rfl
 have hI:zhv zvi:=zrF (zkV (by decide) (by decide)) λw hw=>by
  simp only [List.mem_cons,List.not_mem_nil,or_false] at hw
  rcases hw with e | e <;> subst e <;> exact zrF (zkV (by decide) (by decide)) λw hw=>by cases hw
 have hf:zcA zvi:=zfG (zNz _) (by decide) λw hw=>by
  simp only [List.mem_cons,List.not_mem_nil,or_false] at hw
  rcases hw with e | e <;> subst e <;> exact zfG (zNz _) (zNz _) λw hw=>by cases hw
 have hb:bare zvi=true:=by decide +kernel
 have hc:cnt zvi <= 5000:=by decide +kernel
 have hp:=zpc zzv zA5.nb hF hb hI hf hc
 have ht:txt 17 zwW.types 0 zvi=[123,32,97,32,53,44,32,98,32,84,82,85,69,32,125]:=by
  have e5:Lib.itoa 5=[53]:=by
   unfold Lib.itoa
   rw [if_neg (by decide),Lib.decDigits_one (by decide)];rfl
  show brc [[97] ++ 32 :: Lib.itoa 5,[98] ++ 32 :: [84,82,85,69]]=_
  rw [e5];rfl
 unfold zoB at hp
 rw [ht,if_neg (by decide)] at hp
 refine T.eq zyB (T.eq hp ?_)
 exact T.and' (T.and' (T.some rfl))

/-! ### NoteLeaves -/
end Go.Proofs.Q

/- Values that are handed in: what can be read as one is one. No condition: general lemmas. -/
import Derived.Test.YthafpblconbjkaaGreatDoorPqB
import Derived.Lib.ValidLaws
set_option linter.unusedVariables false
set_option linter.unusedSimpArgs false
set_option maxRecDepth 4000
set_option maxHeartbeats 4000000
namespace Go.Proofs.Q
open Go.Sy
theorem zxV (s:Str) (i:Int) (h0:0 <= i) (h1:i < s.b.length) (hl:s.b.length <= 1000000) :
    T (λ(r:Int × Str)=>r.1=-1 \/ (i < r.1/\r.1 <= (s.b.length:Int)/\r.2.b.length <= s.b.length)) (zj1 s i):=by
  unfold zj1
  refine T.ck (by omega) (T.lp (λ(k:Int)=>i + 1 <= k/\k <= (s.b.length:Int)) (λ(k:Int)=>((s.b.length:Int) - k).toNat) ⟨zIl _,by omega⟩ (by omega) λL k hk hL=>?_)
  refine T.jp (λb=>b=true->k < s.b.length) (λJ h=>T.br (λh2=>?_) λ_=>h _ (λh=>by cases h)) λb hb=>?_
  · have h2:=zOT h2
    refine T.get (by omega) h2 λy _=>T.eq (zf6 y) ?_
    refine T.jp (λ_=>True) (λJ2 h3=>T.br (λ_=>h3 _ trivial) λ_=>T.get (by omega) h2 λy _=>?_) λq _=>h _ λ_=>h2
    refine T.jp (λ_=>True) (λJ4 h4=>T.br (λ_=>T.get (by omega) h2 λ_ _=>h4 _ trivial) λ_=>h4 _ trivial) λq _=>h3 _ trivial
  refine T.br (λh2=>T.ck (by have:=hb h2;omega) (hL _ (by have:=hb h2;omega) (by have:=hb h2;omega))) λ_=>?_
  refine T.ck (by omega) (T.asr rfl ?_)
  have hat:∀ (j:Int) y,y=(if 0 <= j then (s.b[j.toNat]?).getD 0 else 0)->y ≠ 0->0 <= j/\j < s.b.length:=by
    intro j y hy h0
    split at hy
    · rename_i h3
      refine ⟨h3,?_⟩
      rcases Nat.lt_or_ge j.toNat s.b.length with h4 | h4
      · omega
      · rw [List.getElem?_eq_none h4] at hy;exact absurd hy h0
    · exact absurd hy h0
  refine T.jp (λ_=>True) (λJ h=>T.br (λ_=>h _ trivial) λ_=>T.cal (zjT s k) λy _ hy=>h _ trivial) λb1 hb1=>?_
  refine T.jp (λb=>b=false->k + 1 < s.b.length) (λJ h=>T.br (λ_=>h _ (λh=>by cases h)) λ_=>T.ck (by omega) (T.cal (zjT s (k + 1)) λy _ hy=>h _ λh4=>?_)) λb2 hb2=>?_
  · have h5:y=72:=by simpa using h4
    exact (hat _ _ hy (by rw [h5];decide)).2
  refine T.br (λ_=>T.some (.inl rfl)) λh3=>T.ck (by omega) (T.asd ?_ (T.some (.inr ?_)))
  · have:=hb2 h3;omega
  · have:=hb2 h3
    refine ⟨by dsimp only;omega,by dsimp only;omega,?_⟩
    simp only [zLd,zLt];omega

theorem zsu (s:Str) (i:Int) (h0:0 <= i) (h1:i < s.b.length) (hl:s.b.length <= 1000000) :
    T (λ(r:Int × Str)=>r.1=-1 \/ (i < r.1/\r.1 <= (s.b.length:Int)/\r.2.b.length <= s.b.length)) (zgu s i):=by
  unfold zgu
  refine T.ck (by omega) (T.lp (ι:=Int × Str) (λq=>i + 1 <= q.1/\q.1 <= s.b.length + 1/\(q.2.b.length:Int) < q.1) (λq=>(s.b.length + 1 - q.1).toNat) ⟨zIl _,by dsimp only;omega,by dsimp only;simp only [zLn];omega⟩ (by dsimp only;omega) λL q hq hL=>?_)
  obtain ⟨k,o⟩:=q
  obtain ⟨hq1,hq2,hq3⟩:=hq
  simp only at hq1 hq2 hq3 ⊢
  refine T.br (λh2=>?_) λ_=>T.some (.inl rfl)
  have h2:=zOT h2
  refine T.jp (λ(q:Int × Str)=>k <= q.1/\q.1 < (s.b.length:Int)/\(q.2.b.length:Int) < q.1 + 1) (λJ h=>?_) λq hq=>?_
  · refine T.get (by omega) h2 λy _=>T.br (λ_=>?_) λ_=>?_
    · refine T.ck (by omega) (T.asd (by omega) (T.abl ?_ (h _ ?_)))
      · simp only [zLd,zLt];omega
      · refine ⟨zIl _,by dsimp only;omega,?_⟩
        simp only [zLa,zLd,zLt];omega
    · refine T.ck (by omega) (T.cal (zjT s (k + 1)) λy2 _ hy2=>T.br (λ_=>?_) λh34=>?_)
      · exact T.eq rfl (T.br (λ_=>T.some (.inl rfl)) λ_=>T.ck (by omega) (T.some (.inr ⟨by dsimp only;omega,by dsimp only;omega,by dsimp only;omega⟩)))
      · have hlt:k + 1 < s.b.length:=by
          have h5:y2=34:=by simpa using h34
          rw [if_pos (by omega)] at hy2
          rcases Nat.lt_or_ge (k + 1).toNat s.b.length with h4 | h4
          · omega
          · rw [List.getElem?_eq_none h4,h5] at hy2;cases hy2
        refine T.abl ?_ (T.ck (by omega) (h _ ?_))
        · simp only [zLc,zLn];omega
        · refine ⟨by dsimp only;omega,by dsimp only;omega,?_⟩
          simp only [zLa,zLc,zLn];omega
  · exact T.ck (by omega) (hL _ ⟨by dsimp only;omega,by dsimp only;omega,hq.2.2⟩ (by dsimp only;omega))

theorem zi9 (l:List Str) (x:Str) (hl:l.length <= 1000000):T (λr=>r=decide (x ∈ l)) (zgF l x):=by
 unfold zgF
 refine T.lp (λ(k:Int)=>0 <= k/\k <= (l.length:Int)/\x ∉ l.take k.toNat) (λ(k:Int)=>((l.length:Int) - k).toNat) ⟨zIl _,by omega,by simp⟩ (by omega) λL k hk hL=>?_
 refine T.br (λh2=>?_) λh2=>T.some ?_
 ·have h2:=zOT h2
  refine T.get hk.1 h2 λy hy=>T.br (λh3=>T.some ?_) λh3=>T.ck (by omega) (hL _ ⟨by omega,by omega,?_⟩ (by omega))
  ·have h3:=zOT h3
   subst h3
   exact (zDT (List.mem_of_getElem? hy)).symm
  ·have h3:=zOF h3
   have e:(k + 1).toNat=k.toNat + 1:=by omega
   rw [e,List.take_add_one,hy]
   simp only [Option.toList_some,List.mem_append,zMo,not_or]
   exact ⟨hk.2.2,λh=>h3 h.symm⟩
 ·have h2:=zOF h2
  have h4:=hk.2.2
  rw [zTl (by omega)] at h4
  exact (zDF h4).symm

theorem zwb (s:Str) (i:Int) (h0:0 <= i) (h1:i < s.b.length) (hl:s.b.length <= 1000000):T (λ(r:Int)=>0 <= r/\i + r <= (s.b.length:Int)) (ziN s i):=by
 unfold ziN
 refine T.asd (by omega) (T.lp (λ(k:Int)=>0 <= k) (λ(k:Int)=>(13 - k).toNat) (zIl _) (by omega) λL k hk hL=>?_)
 refine T.br (λh2=>?_) λ_=>T.some ⟨zIl _,by omega⟩
 have h2:=zOT h2
 have hrest:((Str.mk ((s.b.take ((s.b.length:Int)).toNat).drop i.toNat)).b.length:Int)=s.b.length - i:=by
  simp only [zLd,zLt];omega
 refine T.get hk h2 λy hy=>?_
 refine T.jp (λb=>b=true->i + (y.b.length:Int) <= s.b.length) (λJ h=>T.br (λh3=>?_) λ_=>h _ (λh=>by cases h)) λb hb=>?_
 ·have h3:=zOT h3
  rw [hrest] at h3
  refine T.asd ⟨zIl _,by omega,by rw [hrest];exact h3⟩ (T.get hk h2 λy2 hy2=>h _ λ_=>by omega)
 ·refine T.br (λh3=>T.some ⟨by omega,hb h3⟩) λ_=>T.ck (by have h2:k < 13:=h2;omega) (hL _ (by omega) ?_)
  have h2:k < 13:=h2
  omega

structure zqD (n:Nat) (t:zS):Prop where
 num:t.kind=3->zpD t.text.b
 len:t.text.b.length <= n
 at0:0 <= t.at_/\t.at_ <= n
theorem zuS:∀ r,zju=some r->r.length <= 1000000:=by
 intro r h
 unfold zju at h
 have:=Option.some.inj h
 subst this
 decide
theorem zu1 (s:Str):T (λ_=>True) (zil s):=by
 unfold zil
 refine T.cal (Q:=λ_=>True) ⟨_,rfl,trivial⟩ λy hy _=>T.cal (zi9 y s (zuS y hy)) λ_ _ _=>T.some trivial

theorem zwY (s:Str) (i:Int) (h0:0 <= i) (h1:i < s.b.length) (hl:s.b.length <= 1000000) :
    T (λ(r:zS × Int)=>r.2 < 0 \/ (i < r.2/\r.2 <= (s.b.length:Int)/\zqD s.b.length r.1/\1 <= r.1.kind/\r.1.kind <= 7)) (zkk s i):=by
  unfold zkk
  refine T.get h0 h1 λy hy=>?_
  refine T.jp (ι:=Int × zS) (λ(q:Int × zS)=>q.1 < 0 \/ (i < q.1/\q.1 <= (s.b.length:Int)/\zqD s.b.length q.2/\1 <= q.2.kind/\q.2.kind <= 7)) (λJ h=>?_) λq hq=>T.some hq
  have hsub:∀ (a b:Nat),((s.b.take a).drop b).length <= s.b.length:=λa b=>by rw [zLd,zLt];omega
  refine T.eq (zif y) (T.br (λhle=>?_) λ_=>T.eq (zf6 y) ?_)
  · refine T.cal (zvY s i h0 h1 hl λy' hy'=>by rw [hy] at hy';cases hy';exact hle) λe _ he=>T.br (λ_=>T.some (.inl (by dsimp only;omega))) λhn=>?_
    have hn:=zOF hn
    have he':i < e/\e <= s.b.length:=by omega
    refine T.asd (by omega) (T.jp (ι:=zS) (λt=>(t.kind=1 \/ t.kind=2)/\t.text.b.length <= s.b.length/\t.at_=i) (λJ2 h2=>T.br (λ_=>h2 _ ⟨.inl rfl,hsub _ _,rfl⟩) λ_=>h2 _ ⟨.inr rfl,hsub _ _,rfl⟩) λt ht=>?_)
    obtain ⟨ht1,ht2,ht3⟩:=ht
    refine T.cal (zu1 t.text) λw _ _=>T.br (λ_=>h _ (.inr ⟨he'.1,he'.2,⟨λh=>by simp at h,ht2,by dsimp only;omega⟩,by simp,by simp⟩)) λ_=>h _ (.inr ⟨he'.1,he'.2,⟨λh=>by rw [h] at ht1;omega,ht2,by dsimp only;omega⟩,by dsimp only;omega,by dsimp only;omega⟩)
  · refine T.jp (λ_=>True) (λJ2 h2=>T.br (λ_=>h2 _ trivial) λ_=>?_) λb _=>?_
    · refine T.jp (λ_=>True) (λJ3 h3=>T.br (λ_=>T.ck (by omega) (T.cal (zjT s _) λy _ _=>T.eq (zf6 y) (h3 _ trivial))) λ_=>h3 _ trivial) λ_ _=>h2 _ trivial
    refine T.br (λ_=>T.cal (zsx s i h0 h1 hl) λe _ he=>T.br (λ_=>T.some (.inl (by dsimp only;omega))) λhn=>?_) λ_=>?_
    · have hn:=zOF hn
      have he':i < e/\e <= s.b.length/\zpD ((s.b.take e.toNat).drop i.toNat):=by
        rcases he with h | h
        · omega
        · exact h
      exact T.asd (by omega) (h _ (.inr ⟨he'.1,he'.2.1,⟨λ_=>he'.2.2,hsub _ _,by dsimp only;omega⟩,by simp,by simp⟩))
    · refine T.br (λ_=>T.cal (zxV s i h0 h1 hl) λe _ he=>h _ ?_) λ_=>T.br (λ_=>T.cal (zsu s i h0 h1 hl) λe _ he=>h _ ?_) λ_=>?_
      · rcases he with h | h
        · left;rw [h];decide
        · exact .inr ⟨h.1,h.2.1,⟨λh=>by simp at h,h.2.2,by dsimp only;omega⟩,by simp,by simp⟩
      · rcases he with h | h
        · left;rw [h];decide
        · exact .inr ⟨h.1,h.2.1,⟨λh=>by simp at h,h.2.2,by dsimp only;omega⟩,by simp,by simp⟩
      · refine T.cal (zwb s i h0 h1 hl) λe _ he=>T.br (λhp=>?_) λ_=>h _ (.inl (by dsimp only;omega))
        have hp:=zOT hp
        exact T.ck (by omega) (T.asd (by omega) (T.ck (by omega) (h _ (.inr ⟨by dsimp only;omega,by dsimp only;omega,⟨λh=>by simp at h,hsub _ _,by dsimp only;omega⟩,by simp,by simp⟩))))

structure zwx (l:List zS):Prop where
 len:l.length <= 8001
 ok:∀ t ∈ l,zqD 8000 t
 last:∃ m e,l=m ++ [e]/\e.kind=0/\∀ t ∈ m,1 <= t.kind/\t.kind <= 7

theorem zoq (s:Str):T (λr=>r.2.2=0->zwx r.1) (zfb s):=by
 unfold zfb
 refine T.br (λ_=>T.some (λh=>by cases h)) λhl=>?_
 have hl:=zOF hl
 refine T.lp (ι:=List zS × Int) (λ(q:List zS × Int)=>0 <= q.2/\q.2 <= (s.b.length:Int)/\(q.1.length:Int) <= q.2/\(∀ t ∈ q.1,zqD 8000 t/\1 <= t.kind/\t.kind <= 7)) (λ(q:List zS × Int)=>((s.b.length:Int) - q.2).toNat) ⟨zIl _,by dsimp only;omega,by simp,by simp⟩ (by dsimp only;omega) λL q hq hL=>?_
 obtain ⟨l,k⟩:=q
 obtain ⟨h1,h2,h3,h4⟩:=hq
 simp only at h1 h2 h3 h4 ⊢
 refine T.cal (zux s k h1 h2 (by omega)) λe _ he=>T.br (λ_=>?_) λhb=>?_
 ·refine T.abl (by simp only [zLc,zLn];omega) (T.some λ_=>⟨?_,?_,⟨l,_,rfl,rfl,λt ht=>(h4 t ht).2⟩⟩)
  ·simp only [zLa,zLc,zLn];omega
  ·intro t ht
   rcases List.mem_append.1 ht with h | h
   ·exact (h4 t h).1
   ·rw [zMo.1 h];exact ⟨λh=>by simp at h,by simp,by dsimp only;omega⟩
 ·have hb:=zOF hb
  refine T.cal (zwY s e (by omega) (by omega) (by omega)) λr _ hr=>T.br (λ_=>T.some (λh=>by cases h)) λhn=>?_
  have hn:=zOF hn
  rcases hr with h | ⟨r1,r2,r3,r4,r5⟩
  ·exact absurd h hn
  refine T.abl (by simp only [zLc,zLn];omega) (hL _ ⟨by dsimp only;omega,by dsimp only;omega,?_,λt ht=>?_⟩ (by dsimp only;omega))
  ·simp only [zLa,zLc,zLn];omega
  ·rcases List.mem_append.1 ht with h | h
   ·exact h4 t h
   ·rw [zMo.1 h];exact ⟨⟨r3.num,by have:=r3.len;omega,by have:=r3.at0;omega⟩,r4,r5⟩
theorem tx {β:Type} {o:Option β} {x:β} (h:T (λr=>r=x) o):o=some x:=by
 obtain ⟨r,h1,h2⟩:=h;rw [h1,h2]
def hd:List UInt8->UInt8
 | []=>0
 | c :: _=>c
theorem zxq (b:List UInt8) (n:Nat):hd (b.drop n)=(b[n]?).getD 0:=by
 rcases Nat.lt_or_ge n b.length with h | h
 ·rw [List.drop_eq_getElem_cons h,List.getElem?_eq_getElem h];rfl
 ·rw [zDn h,List.getElem?_eq_none h];rfl
theorem zhc {b:List UInt8} {n:Nat} {y:UInt8} (h:b[n]?=some y):b.drop n=y :: b.drop (n + 1):=by
 obtain ⟨h1,h2⟩:=List.getElem?_eq_some_iff.1 h
 rw [List.drop_eq_getElem_cons h1,h2]
theorem zm8 (s:Str) (i:Int) (h:0 <= i):zhi s i=some (hd (s.b.drop i.toNat)):=by
 obtain ⟨r,h1,h2⟩:=zjT s i
 rw [h1,h2,if_pos h,zxq]

/-! ### White -/
inductive Wst where
 | out
 | start
 | ins
 | fin
def zsA (c:UInt8):Bool:=decide (c=32) || decide (c=9) || decide (c=10) || decide (c=13)
def wh:Wst->List UInt8->List UInt8
 | _,[]=>[]
 | .out,c :: r=>bif zsA c then wh .out r else bif decide (c=45) && decide (hd r=45) then wh .start r else c :: r
 | .start,_ :: r=>wh .ins r
 | .ins,c :: r=>bif decide (c=10) then wh .out r else bif decide (c=45) && decide (hd r=45) then wh .fin r else wh .ins r
 | .fin,_ :: r=>wh .out r
theorem zo7 {b:List UInt8} {n:Nat} (h:hd (b.drop n)=45):n < b.length:=by
 rcases Nat.lt_or_ge n b.length with h2 | h2
 ·exact h2
 ·rw [zDn h2] at h;cases h
theorem zi1 {b:List UInt8} {n:Nat} (h:n < b.length):∃ c,b.drop n=c :: b.drop (n + 1):=⟨_,List.drop_eq_getElem_cons h⟩
theorem zvT (s:Str) (i:Int) (h0:0 <= i) (h1:i <= s.b.length) (hl:s.b.length <= 1000000):zht s i=some ((s.b.length:Int) - ((wh .out (s.b.drop i.toNat)).length:Int)):=by
 refine tx ?_
 unfold zht
 refine T.lp (λk=>i <= k/\k <= s.b.length/\wh .out (s.b.drop k.toNat)=wh .out (s.b.drop i.toNat)) (λk=>(s.b.length - k).toNat) ⟨zIl _,h1,rfl⟩ (by omega) λL k ⟨k1,k2,k3⟩ hL=>?_
 rw [<- k3] at hL ⊢
 refine T.br (λhb=>?_) (λhb=>T.some ?_)
 rotate_left
 ·have hb:=zOF hb
  rw [zDn (by omega)]
  simp only [wh,zLn];omega
 have hb:=zOT hb
 refine T.get (by omega) hb λy hy=>?_
 have e:=zhc hy
 have e1:(k + 1).toNat=k.toNat + 1:=by omega
 refine T.jp (λq=>q=(decide (y=32) || decide (y=9))) (λJ h=>T.br (λh2=>h _ (by rw [h2];rfl)) λh2=>T.get (by omega) hb λy' hy'=>h _ (by rw [hy] at hy';cases hy';rw [h2];rfl)) λq hq=>?_
 refine T.jp (λq'=>q'=(q || decide (y=10))) (λJ h=>T.br (λh2=>h _ (by rw [h2];rfl)) λh2=>T.get (by omega) hb λy' hy'=>h _ (by rw [hy] at hy';cases hy';rw [h2];rfl)) λq' hq'=>?_
 refine T.jp (λq2=>q2=(q' || decide (y=13))) (λJ h=>T.br (λh2=>h _ (by rw [h2];rfl)) λh2=>T.get (by omega) hb λy' hy'=>h _ (by rw [hy] at hy';cases hy';rw [h2];rfl)) λq2 hq2=>?_
 have hw:q2=zsA y:=by rw [hq2,hq',hq];rfl
 refine T.br (λh2=>T.ck (by omega) ?_) λh2=>?_
 ·refine hL _ ⟨by omega,by omega,?_⟩ (by omega)
  rw [e1,e];simp only [wh,<- hw,h2,zCt]
 refine T.get (by omega) hb λy' hy'=>?_
 rw [hy] at hy';cases hy'
 refine T.jp (λq=>q=(decide (y=45) && decide (hd (s.b.drop (k.toNat + 1))=45))) (λJ h=>T.br (λh3=>T.ck (by omega) (T.eq (zm8 s _ (by omega)) (h _ (by rw [h3,e1];rfl)))) λh3=>h _ (by rw [h3];rfl)) λq3 hq3=>?_
 refine T.br (λh3=>T.ck (by omega) ?_) (λh3=>T.some ?_)
 rotate_left
 ·rw [e];simp only [wh,<- hw,h2,zCf,<- hq3,h3,zLc,zLd];omega
 have h45:hd (s.b.drop (k.toNat + 1))=45:=by rw [hq3] at h3;simpa using (Bool.and_eq_true_iff.1 h3).2
 have hlt:=zo7 h45
 obtain ⟨c,ec⟩:=zi1 hlt
 have e2:(k + 2).toNat=k.toNat + 1 + 1:=by omega
 have hins:wh .out (s.b.drop k.toNat)=wh .ins (s.b.drop (k + 2).toNat):=by
  rw [e,e2];simp only [wh,<- hw,h2,zCf,<- hq3,h3,zCt];rw [ec];simp only [wh]
 refine T.lp (λj=>k + 2 <= j/\j <= s.b.length/\wh .out (s.b.drop k.toNat)=wh .ins (s.b.drop j.toNat)) (λj=>(s.b.length - j).toNat) ⟨zIl _,by omega,hins⟩ (by omega) λL2 j ⟨j1,j2,j3⟩ hL2=>?_
 refine T.jp (λq=>(q=true->j < s.b.length/\∀ y,s.b[j.toNat]?=some y->y ≠ 10)/\(q=false->wh .out (s.b.drop j.toNat)=wh .ins (s.b.drop j.toNat))) (λJ h=>T.br (λh4=>?_) λh4=>h _ ⟨(λh=>by cases h),λ_=>?_⟩) λq hq=>?_
 ·have h4:=zOT h4
  refine T.get (by omega) h4 λy2 hy2=>h _ ⟨λh5=>⟨h4,λy3 hy3=>?_⟩,λh5=>?_⟩
  ·rw [hy2] at hy3;cases hy3;simpa using h5
  ·have h6:y2=10:=by simpa using h5
   subst h6
   rw [zhc hy2]
   simp [wh,zsA]
 ·have h4:=zOF h4
  rw [zDn (by omega)];simp only [wh]
 refine T.br (λh4=>?_) (λh4=>hL _ ⟨by omega,j2,by rw [hq.2 h4,j3]⟩ (by omega))
 obtain ⟨hj,hne⟩:=hq.1 h4
 refine T.get (by omega) hj λy2 hy2=>?_
 have hy10:=hne y2 hy2
 have f:=zhc hy2
 have f1:(j + 1).toNat=j.toNat + 1:=by omega
 refine T.jp (λq=>q=(decide (y2=45) && decide (hd (s.b.drop (j.toNat + 1))=45))) (λJ h=>T.br (λh3=>T.ck (by omega) (T.eq (zm8 s _ (by omega)) (h _ (by rw [h3,f1];rfl)))) λh3=>h _ (by rw [h3];rfl)) λq4 hq4=>?_
 refine T.br (λh5=>T.ck (by omega) ?_) (λh5=>T.ck (by omega) (hL2 _ ⟨by omega,by omega,?_⟩ (by omega)))
 ·have h46:hd (s.b.drop (j.toNat + 1))=45:=by rw [hq4] at h5;simpa using (Bool.and_eq_true_iff.1 h5).2
  have hlt2:=zo7 h46
  obtain ⟨c2,ec2⟩:=zi1 hlt2
  have f2:(j + 2).toNat=j.toNat + 1 + 1:=by omega
  refine hL _ ⟨by omega,by omega,?_⟩ (by omega)
  rw [j3,f,f2];simp only [wh,zDF hy10,zCf,<- hq4,h5,zCt];rw [ec2];simp only [wh]
 ·rw [j3,f,f1];simp only [wh,zDF hy10,zCf,<- hq4,h5]

/-! ### Names -/
def zc1 (c:UInt8) (r:List UInt8):Bool:=zbv c || za8 c || (decide (c=45) && !decide (hd r=45))
def nm:List UInt8->Nat
 | []=>0
 | c :: r=>bif zc1 c r then nm r + 1 else 0
theorem znl (c:UInt8) (r:List UInt8):nm (c :: r)=bif zc1 c r then nm r + 1 else 0:=rfl
theorem zpf:∀ b:List UInt8,nm b <= b.length
 | []=>zNl _
 | c :: r=>by
  have:=zpf r
  unfold nm
  cases zc1 c r <;> simp <;> omega
def zhI (b:List UInt8):Bool:=decide ((b.take (nm b)).getLast?=some 45) || decide (60 < nm b)
theorem zuY {b:List UInt8} {n:Nat} {y:UInt8} (hn:0 < n) (hy:b[n - 1]?=some y):(b.take n).getLast?=some y:=by
 have hlt:=(List.getElem?_eq_some_iff.1 hy).1
 rw [List.getLast?_eq_getElem?,zLt,List.getElem?_take,Nat.min_eq_left (by omega),if_pos (by omega),hy]
theorem zxo (s:Str) (i:Int) (h0:0 <= i) (h1:i < s.b.length) (hl:s.b.length <= 1000000) (hc:zbv (hd (s.b.drop i.toNat))=true) :
    ziB s i=some (bif zhI (s.b.drop i.toNat) then -1 else i + nm (s.b.drop i.toNat)):=by
  refine tx ?_
  unfold ziB
  have hi0:0 < nm (s.b.drop i.toNat):=by
    obtain ⟨c,ec⟩:=zi1 (b:=s.b) (n:=i.toNat) (by omega)
    rw [ec] at hc ⊢
    unfold nm zc1
    simp only [hd] at hc
    rw [hc];simp
  refine T.lp (λk=>i <= k/\k <= s.b.length/\(nm (s.b.drop i.toNat):Int)=k - i + nm (s.b.drop k.toNat)) (λk=>(s.b.length - k).toNat) ⟨zIl _,by omega,by omega⟩ (by omega) λL k ⟨k1,k2,k3⟩ hL=>?_
  refine T.jp (λq=>(q=true->k < s.b.length/\(nm (s.b.drop i.toNat):Int)=k + 1 - i + nm (s.b.drop (k + 1).toNat))/\(q=false->(nm (s.b.drop i.toNat):Int)=k - i)) (λJ h=>?_) λq hq=>?_
  · refine T.br (λhb=>?_) (λhb=>h _ ⟨(λh=>by cases h),λ_=>by
      have:=zOF hb
      rw [zDn (as:=s.b) (i:=k.toNat) (by omega)] at k3
      simpa [nm] using k3⟩)
    have hb:=zOT hb
    refine T.get (by omega) hb λy hy=>?_
    have e:=zhc hy
    have e1:(k + 1).toNat=k.toNat + 1:=by omega
    refine T.eq (zif y) ?_
    refine T.jp (λq=>q=(zbv y || za8 y)) (λJ2 h2=>T.br (λh3=>h2 _ (by rw [h3];rfl)) λh3=>T.get (by omega) hb λy2 hy2=>T.eq (zf6 y2) (h2 _ (by rw [hy] at hy2;cases hy2;rw [h3];rfl))) λq hq=>?_
    refine T.jp (λq2=>q2=zc1 y (s.b.drop (k.toNat + 1))) (λJ2 h2=>T.br (λh3=>h2 _ (by unfold zc1;rw [<- hq,h3];rfl)) λh3=>T.get (by omega) hb λy2 hy2=>?_) λq2 hq2=>?_
    · rw [hy] at hy2;cases hy2
      refine T.jp (λq3=>q3=(decide (y=45) && !decide (hd (s.b.drop (k.toNat + 1))=45))) (λJ3 h4=>T.br (λh5=>T.ck (by omega) (T.eq (zm8 s _ (by omega)) (h4 _ (by rw [h5,e1];rfl)))) λh5=>h4 _ (by rw [h5];rfl)) λq3 hq3=>h2 _ ?_
      unfold zc1;rw [<- hq,h3,hq3];rfl
    · rw [e,znl] at k3
      refine h _ ⟨λh3=>⟨hb,?_⟩,λh3=>?_⟩
      · rw [<- hq2,h3,zCt] at k3
        rw [e1];omega
      · rw [<- hq2,h3,zCf] at k3
        omega
  refine T.br (λhb=>T.ck (by have:=hq.1 hb;omega) (hL _ ⟨by omega,by have:=hq.1 hb;omega,(hq.1 hb).2⟩ (by have:=hq.1 hb;omega))) λhb=>?_
  have hn:=hq.2 hb
  refine T.ck (by omega) (T.get (by omega) (by omega) λy hy=>?_)
  have hlast:((s.b.drop i.toNat).take (nm (s.b.drop i.toNat))).getLast?=some y:=by
    refine zuY hi0 ?_
    rw [List.getElem?_drop]
    have:i.toNat + (nm (s.b.drop i.toNat) - 1)=(k - 1).toNat:=by omega
    rw [this,hy]
  refine T.jp (λq=>q=zhI (s.b.drop i.toNat)) (λJ h=>T.br (λh3=>h _ ?_) λh3=>T.ck (by omega) (h _ ?_)) λq hq=>?_
  · unfold zhI
    rw [hlast]
    have:=zOT h3
    subst this;rfl
  · unfold zhI
    rw [hlast]
    have:=zOF h3
    have e:decide (some y=some (45:UInt8))=false:=by simpa using this
    rw [e,Bool.false_or,decide_eq_decide]
    omega
  · rw [<- hq]
    exact T.br (λh3=>T.some (by rw [h3];rfl)) λh3=>T.some (by rw [h3,zCf];omega)
theorem zg8 {a b m:UInt64} (h:(a ||| b) &&& m=0):a &&& m=0/\b &&& m=0:=by
 have h1:=congrArg UInt64.toNat h
 rw [UInt64.toNat_and,UInt64.toNat_or] at h1
 have h2:=(Lib.or_mask a.toNat b.toNat m.toNat).1 h1
 refine ⟨UInt64.toNat_inj.1 ?_,UInt64.toNat_inj.1 ?_⟩
 ·rw [UInt64.toNat_and];exact h2.1
 ·rw [UInt64.toNat_and];exact h2.2
theorem byte0:∀ X:Fin 256,((UInt8.ofNat X.val).toUInt64 &&& 9259542123273814144)=0->X.val < 128:=by decide +kernel
theorem byteK:∀ k ∈ [8,16,24,32,40,48,56],∀ X:Fin 256,(zf9 (UInt8.ofNat X.val).toUInt64 k &&& 9259542123273814144)=0->X.val < 128:=by decide +kernel
theorem zzo {y:UInt8} (h:(y.toUInt64 &&& 9259542123273814144)=0):y.toNat < 128:=by
 have:=byte0 ⟨y.toNat,y.toNat_lt⟩
 rw [UInt8.ofNat_toNat] at this
 exact this h
theorem zlT {y:UInt8} {k:Nat} (hk:k ∈ [8,16,24,32,40,48,56]) (h:(zf9 y.toUInt64 k &&& 9259542123273814144)=0):y.toNat < 128:=by
 have:=byteK k hk ⟨y.toNat,y.toNat_lt⟩
 rw [UInt8.ofNat_toNat] at this
 exact this h
def zro (l:List UInt8) (k:Nat):Prop:=∀ b ∈ l.take k,b.toNat < 128
theorem zro.add {l:List UInt8} {a c:Nat} (h1:zro l a) (h2:zro (l.drop a) c):zro l (a + c):=λb hb=>by
 rw [List.take_add] at hb
 rcases List.mem_append.1 hb with hb | hb
 ·exact h1 b hb
 ·exact h2 b hb
theorem zlP (l:List UInt8) (h:8 <= l.length):T (λ(w:UInt64)=>w &&& 9259542123273814144=0->zro l 8) (zbz l):=by
 unfold zbz
 refine T.get (by omega) (by omega) λy1 h1=>T.get (by omega) (by omega) λy2 h2=>T.abl (by decide) (T.get (by omega) (by omega) λy3 h3=>T.abl (by decide) (T.get (by omega) (by omega) λy4 h4=>T.abl (by decide) (T.get (by omega) (by omega) λy5 h5=>T.abl (by decide) (T.get (by omega) (by omega) λy6 h6=>T.abl (by decide) (T.get (by omega) (by omega) λy7 h7=>T.abl (by decide) (T.get (by omega) (by omega) λy8 h8=>T.abl (by decide) (T.some ?_)))))))
 intro hm b hb
 obtain ⟨hm,k8⟩:=zg8 hm
 obtain ⟨hm,k7⟩:=zg8 hm
 obtain ⟨hm,k6⟩:=zg8 hm
 obtain ⟨hm,k5⟩:=zg8 hm
 obtain ⟨hm,k4⟩:=zg8 hm
 obtain ⟨hm,k3⟩:=zg8 hm
 obtain ⟨k1,k2⟩:=zg8 hm
 have z1:=zzo k1
 have z2:=zlT (k:=8) (by decide) k2
 have z3:=zlT (k:=16) (by decide) k3
 have z4:=zlT (k:=24) (by decide) k4
 have z5:=zlT (k:=32) (by decide) k5
 have z6:=zlT (k:=40) (by decide) k6
 have z7:=zlT (k:=48) (by decide) k7
 have z8:=zlT (k:=56) (by decide) k8
 obtain ⟨i,hi⟩:=List.mem_iff_getElem?.1 hb
 rw [List.getElem?_take] at hi
 have g:∀ y:UInt8,l[i]?=some y->y.toNat < 128->i < 8->b.toNat < 128:=λy e h9 hi8=>by
  rw [if_pos hi8,e] at hi;cases hi;exact h9
 match i,hi,g with
 | 0,hi,g=>exact g _ h1 z1 (by omega)
 | 1,hi,g=>exact g _ h2 z2 (by omega)
 | 2,hi,g=>exact g _ h3 z3 (by omega)
 | 3,hi,g=>exact g _ h4 z4 (by omega)
 | 4,hi,g=>exact g _ h5 z5 (by omega)
 | 5,hi,g=>exact g _ h6 z6 (by omega)
 | 6,hi,g=>exact g _ h7 z7 (by omega)
 | 7,hi,g=>exact g _ h8 z8 (by omega)
 | n + 8,hi,g=>rw [if_neg (by omega)] at hi;cases hi

theorem zhW {β:Type} {R':β->Prop} {q:List UInt8} {i:Int} {Pp:Prop} {R:Nat->Prop} {c:Bool} (hc:c=true ↔ Pp) (hi:0 <= i) (hn:¬ Pp->i < q.length) {K:Bool->Option β} {f:UInt8->Bool}
    (hf:∀ y:UInt8,f y=true ↔ R y.toNat) (k:∀ c':Bool,(c'=true ↔ Pp \/ R (q.getD i.toNat 0).toNat)->T R' (K c')):T R' (jp (ι:=Bool) (λJ=>br c (J true) (cal (zq q i) λy=>J (f y))) K):=by
  refine T.jp0 ?_
  refine T.br (λh=>k _ ⟨λ_=>.inl (hc.1 h),λ_=>rfl⟩) λh=>?_
  have hp:¬ Pp:=λe=>by rw [hc.2 e] at h;cases h
  refine T.get hi (hn hp) λy hy=>k _ ?_
  have e:q.getD i.toNat 0=y:=by rw [List.getD_eq_getElem?_getD,hy];rfl
  rw [e,hf]
  exact ⟨.inr,λh=>h.resolve_left hp⟩
theorem zrK (l:List UInt8):l.take ((l.length:Int)).toNat=l:=by rw [Int.toNat_natCast,List.take_length]
theorem f7 (y:UInt8):((zfU y) &&& (7:UInt8)).toNat=Lib.firstT y.toNat % 8:=by
 rw [UInt8.toNat_and,znG];exact Nat.and_two_pow_sub_one_eq_mod _ 3
theorem f16 (y:UInt8):(zf0 (zfU y) (4:UInt64).toNat).toNat=Lib.firstT y.toNat / 16:=by
 have h:∀ X:Fin 256,(zf0 (UInt8.ofNat X.val) (4:UInt64).toNat).toNat=X.val / 16:=by decide +kernel
 have:=h ⟨(zfU y).toNat,(zfU y).toNat_lt⟩
 rw [UInt8.ofNat_toNat] at this
 rw [this];show (zfU y).toNat / 16=_;rw [znG]
theorem zoD:∀ X:Fin 256,Lib.firstT X.val / 16 < 16/\Lib.accLo (Lib.firstT X.val / 16) < 256/\Lib.accHi (Lib.firstT X.val / 16) < 256:=by decide +kernel
theorem zAb (y:UInt8):(zim (zf0 (zfU y) (4:UInt64).toNat)).lo.toNat=Lib.accLo (Lib.firstT y.toNat / 16):=by
 unfold zim
 rw [f16]
 have:=(zoD ⟨y.toNat,y.toNat_lt⟩).2.1
 rw [UInt8.toNat_ofNat'];exact Nat.mod_eq_of_lt this
theorem zz9 (y:UInt8):(zim (zf0 (zfU y) (4:UInt64).toNat)).hi.toNat=Lib.accHi (Lib.firstT y.toNat / 16):=by
 unfold zim
 rw [f16]
 have:=(zoD ⟨y.toNat,y.toNat_lt⟩).2.2
 rw [UInt8.toNat_ofNat'];exact Nat.mod_eq_of_lt this

theorem zoX (b : List UInt8) (hl : b.length <= 1000000) : zcy b=some (Lib.validD b):=by
  refine tx ?_
  unfold zcy
  refine T.asd ⟨by omega,by omega⟩ (T.lp (λ(q:List UInt8)=>q.length <= 1000000/\Lib.validD q=Lib.validD b) (λq=>q.length) ⟨by rw [zrK];exact hl,by rw [zrK]⟩ (by rw [zrK];omega) λL q ⟨q1,q2⟩ hL=>?_)
  simp only [zrK]
  refine T.br (λh0=>?_) λh0=>T.some ?_
  rotate_left
  · have h0:=zOF h0
    have:q=[]:=List.length_eq_zero_iff.1 (by omega)
    rw [<- q2,this];rfl
  have h0:=zOT h0
  refine T.get (by omega) h0 λy hy=>T.br (λha=>?_) λha=>?_
  · have ha : y.toNat < 128 := UInt8.lt_iff_toNat_lt.1 (zOT ha)
    have hq:q=y :: q.drop 1:=zhc (b:=q) (n:=0) hy
    have v1 : Lib.validD (q.drop 1) = Lib.validD b := by rw [<- q2];conv=>rhs;rw [hq]
                                                         rw [Lib.validD_cons _ _ ha]
    have l1:(q.drop 1).length=q.length - 1:=zLd
    refine T.asd ⟨by omega,by omega,by omega⟩ ?_
    show T _ (Sy.jp (λJ102=>br (decide ((8:Int) < ((q.drop 1).length:Int))) _ _) _)
    generalize hP:q.drop 1=P at *
    have hP':q.drop (1:Int).toNat=P:=hP
    simp only [hP']
    refine T.jp (λc=>c=true->8 < P.length/\zro P 8) (λJ k=>T.br (λh8=>?_) λ_=>k _ (λe=>by cases e)) λc hc=>?_
    · have h8:=zOT h8
      exact T.cal (zlP P (by omega)) λw _ hw=>k _ λe=>⟨by omega,hw (zOT e)⟩
    refine T.jp (λ(r:List UInt8)=>r.length < q.length/\Lib.validD r=Lib.validD b) (λJ k=>T.br (λh=>?_) λh=>k _ ⟨by omega,v1⟩) λr hr=>hL r ⟨by omega,hr.2⟩ hr.1
    obtain ⟨h8,a8⟩:=hc h
    refine T.asd ⟨by omega,by omega,by omega⟩ ?_
    have v9:Lib.validD (P.drop 8)=Lib.validD b:=by rw [<- v1];exact (Lib.validD_ascii 8 P a8).symm
    have l9:(P.drop 8).length=P.length - 8:=zLd
    generalize hM:P.drop 8=M at *
    have hM':P.drop (8:Int).toNat=M:=hM
    simp only [hM']
    refine T.jp (λc=>c=true->16 < M.length/\zro M 16) (λJ k=>T.br (λh8=>?_) λ_=>k _ (λe=>by cases e)) λc hc=>?_
    · have h8:=zOT h8
      refine T.asd ⟨by omega,by omega,by omega⟩ (T.cal (zlP M (by omega)) λw1 _ hw1=>T.cal (zlP (M.drop (8:Int).toNat) (by rw [zLd];simp only [Int.reduceToNat];omega)) λw2 _ hw2=>k _ λe=>⟨by omega,?_⟩)
      obtain ⟨e1,e2⟩:=zg8 (zOT e)
      exact (hw1 e1).add (c:=8) (hw2 e2)
    refine T.br (λh=>?_) λh=>k _ ⟨by omega,v9⟩
    obtain ⟨h16,a16⟩:=hc h
    have v25:Lib.validD (M.drop 16)=Lib.validD b:=by rw [<- v9];exact (Lib.validD_ascii 16 M a16).symm
    have l25:(M.drop 16).length=M.length - 16:=zLd
    refine T.asd ⟨by omega,by omega,by omega⟩ (T.lp (λ(u:List UInt8)=>u.length < M.length/\Lib.validD u=Lib.validD b) (λu=>u.length) ⟨by show (M.drop 16).length < _;omega,v25⟩ (by show (M.drop 16).length < _;omega) λL2 u ⟨u1,u2⟩ hL2=>?_)
    refine T.jp (λc=>c=true->32 < u.length/\zro u 32) (λJ k=>T.br (λh8=>?_) λ_=>k _ (λe=>by cases e)) λc hc=>?_
    · have h8:=zOT h8
      refine T.asd ⟨by omega,by omega,by omega⟩ (T.asd ⟨by omega,by omega,by omega⟩ (T.asd ⟨by omega,by omega,by omega⟩ ?_))
      refine T.cal (zlP u (by omega)) λw1 _ hw1=>T.cal (zlP (u.drop (8:Int).toNat) (by rw [zLd];simp only [Int.reduceToNat];omega)) λw2 _ hw2=>T.cal (zlP (u.drop (16:Int).toNat) (by rw [zLd];simp only [Int.reduceToNat];omega)) λw3 _ hw3=>T.cal (zlP (u.drop (24:Int).toNat) (by rw [zLd];simp only [Int.reduceToNat];omega)) λw4 _ hw4=>k _ λe=>⟨by omega,?_⟩
      obtain ⟨e12,e34⟩:=zg8 (zOT e)
      obtain ⟨e1,e2⟩:=zg8 e12
      obtain ⟨e3,e4⟩:=zg8 e34
      exact (((hw1 e1).add (c:=8) (hw2 e2)).add (c:=8) (hw3 e3)).add (c:=8) (hw4 e4)
    refine T.br (λh=>?_) λh=>k _ ⟨by omega,u2⟩
    obtain ⟨h32,a32⟩:=hc h
    have v57:Lib.validD (u.drop 32)=Lib.validD b:=by rw [<- u2];exact (Lib.validD_ascii 32 u a32).symm
    have l57:(u.drop 32).length=u.length - 32:=zLd
    exact T.asd ⟨by omega,by omega,by omega⟩ (hL2 _ ⟨by show (u.drop 32).length < _;omega,v57⟩ (by show (u.drop 32).length < _;omega))
  · have hge:128 <= y.toNat:=by
      have:=zOF ha
      rw [UInt8.lt_iff_toNat_lt] at this
      have e:(128:UInt8).toNat=128:=rfl
      omega
    have hy0:q.getD 0 0=y:=by rw [List.getD_eq_getElem?_getD,show q[0]?=some y from hy];rfl
    have hlead:=Lib.validD_lead q (λe=>by subst e;simp at h0) (by rw [hy0];exact hge)
    rw [hy0,q2] at hlead
    have e16:=f16 y
    have l16:=(zoD ⟨y.toNat,y.toNat_lt⟩).1
    have eL:=zAb y
    have eH:=zz9 y
    rw [f7]
    generalize hA:zim (zf0 (zfU y) (4:UInt64).toNat)=A at *
    rw [<- eL,<- eH] at hlead
    have hlo:∀ z:UInt8,decide (z < A.lo)=true ↔ z.toNat < A.lo.toNat:=λz=>by rw [decide_eq_true_eq,UInt8.lt_iff_toNat_lt]
    have hhi:∀ z:UInt8,decide (A.hi < z)=true ↔ A.hi.toNat < z.toNat:=λz=>by rw [decide_eq_true_eq,UInt8.lt_iff_toNat_lt]
    have h128:∀ z:UInt8,decide (z < (128:UInt8))=true ↔ z.toNat < 128:=λz=>by rw [decide_eq_true_eq,UInt8.lt_iff_toNat_lt];rfl
    have h191:∀ z:UInt8,decide ((191:UInt8) < z)=true ↔ 191 < z.toNat:=λz=>by rw [decide_eq_true_eq,UInt8.lt_iff_toNat_lt];rfl
    refine T.abl (by decide) (T.asr (by rw [e16,Nat.blt_eq];omega) ?_)
    refine T.br (λs2=>?_) λs2=>T.br (λs3=>?_) λs3=>T.br (λs4=>?_) λs4=>T.some ?_
    · have s2:Lib.firstT y.toNat % 8=2:=by have:=zOT s2;omega
      rw [s2] at hlead
      refine zhW (Pp:=q.length < 2) (R:=λn=>n < A.lo.toNat) (by rw [decide_eq_true_eq];omega) (by omega) (λh=>by omega) hlo λc1 h1=>?_
      refine zhW (R:=λn=>A.hi.toNat < n) h1 (by omega) (λh=>by omega) hhi λc2 h2=>?_
      refine T.br (λh=>T.some ?_) λh=>?_
      · have:=h2.1 h
        rw [hlead]
        unfold Lib.checkN
        rw [if_pos rfl,if_pos (by simpa [or_assoc] using this)]
      · have:¬ _:=λe=>by rw [h2.2 e] at h;cases h
        have h3:¬ (q.length < 2 \/ (q.getD 1 0).toNat < A.lo.toNat \/ A.hi.toNat < (q.getD 1 0).toNat):=λe=>this (by simpa [or_assoc] using e)
        unfold Lib.checkN at hlead
        rw [if_pos rfl,if_neg h3] at hlead
        have hd:(q.drop 2).length=q.length - 2:=zLd
        exact T.asd ⟨by omega,by omega,by omega⟩ (hL _ ⟨by show (q.drop 2).length <= _;omega,hlead.symm⟩ (by show (q.drop 2).length < _;omega))
    · have s3:Lib.firstT y.toNat % 8=3:=by have:=zOT s3;omega
      rw [s3] at hlead
      refine zhW (Pp:=q.length < 3) (R:=λn=>n < A.lo.toNat) (by rw [decide_eq_true_eq];omega) (by omega) (λh=>by omega) hlo λc1 h1=>?_
      refine zhW (R:=λn=>A.hi.toNat < n) h1 (by omega) (λh=>by omega) hhi λc2 h2=>?_
      refine zhW (R:=λn=>n < 128) h2 (by omega) (λh=>by omega) h128 λc3 h3=>?_
      refine zhW (R:=λn=>191 < n) h3 (by omega) (λh=>by omega) h191 λc4 h4=>?_
      refine T.br (λh=>T.some ?_) λh=>?_
      · have:=h4.1 h
        rw [hlead]
        unfold Lib.checkN
        rw [if_neg (by decide),if_pos rfl,if_pos (by simpa [or_assoc] using this)]
      · have:¬ _:=λe=>by rw [h4.2 e] at h;cases h
        have h5:¬ (q.length < 3 \/ (q.getD 1 0).toNat < A.lo.toNat \/ A.hi.toNat < (q.getD 1 0).toNat \/ (q.getD 2 0).toNat < 128 \/ 191 < (q.getD 2 0).toNat):=λe=>this (by simpa [or_assoc] using e)
        unfold Lib.checkN at hlead
        rw [if_neg (by decide),if_pos rfl,if_neg h5] at hlead
        have hd:(q.drop 3).length=q.length - 3:=zLd
        exact T.asd ⟨by omega,by omega,by omega⟩ (hL _ ⟨by show (q.drop 3).length <= _;omega,hlead.symm⟩ (by show (q.drop 3).length < _;omega))
    · have s4:Lib.firstT y.toNat % 8=4:=by have:=zOT s4;omega
      rw [s4] at hlead
      refine zhW (Pp:=q.length < 4) (R:=λn=>n < A.lo.toNat) (by rw [decide_eq_true_eq];omega) (by omega) (λh=>by omega) hlo λc1 h1=>?_
      refine zhW (R:=λn=>A.hi.toNat < n) h1 (by omega) (λh=>by omega) hhi λc2 h2=>?_
      refine zhW (R:=λn=>n < 128) h2 (by omega) (λh=>by omega) h128 λc3 h3=>?_
      refine zhW (R:=λn=>191 < n) h3 (by omega) (λh=>by omega) h191 λc4 h4=>?_
      refine zhW (R:=λn=>n < 128) h4 (by omega) (λh=>by omega) h128 λc5 h5=>?_
      refine zhW (R:=λn=>191 < n) h5 (by omega) (λh=>by omega) h191 λc6 h6=>?_
      refine T.br (λh=>T.some ?_) λh=>?_
      · have:=h6.1 h
        rw [hlead]
        unfold Lib.checkN
        rw [if_neg (by decide),if_neg (by decide),if_pos rfl,if_pos (by simpa [or_assoc] using this)]
      · have:¬ _:=λe=>by rw [h6.2 e] at h;cases h
        have h7:¬ (q.length < 4 \/ (q.getD 1 0).toNat < A.lo.toNat \/ A.hi.toNat < (q.getD 1 0).toNat \/ (q.getD 2 0).toNat < 128 \/ 191 < (q.getD 2 0).toNat \/ (q.getD 3 0).toNat < 128 \/ 191 < (q.getD 3 0).toNat):=λe=>this (by simpa [or_assoc] using e)
        unfold Lib.checkN at hlead
        rw [if_neg (by decide),if_neg (by decide),if_pos rfl,if_neg h7] at hlead
        have hd:(q.drop 4).length=q.length - 4:=zLd
        exact T.asd ⟨by omega,by omega,by omega⟩ (hL _ ⟨by show (q.drop 4).length <= _;omega,hlead.symm⟩ (by show (q.drop 4).length < _;omega))
    · rw [hlead]
      unfold Lib.checkN
      have s2:=zOF s2
      have s3:=zOF s3
      have s4:=zOF s4
      rw [if_neg (by omega),if_neg (by omega),if_neg (by omega)]
theorem seg {b:List UInt8} {i k:Nat}:(b.take k).drop i=(b.drop i).take (k - i):=by rw [List.drop_take]
theorem zws {b:List UInt8} {i n:Nat} {y:UInt8} (h:b[i + n]?=some y):(b.drop i)[n]?=some y:=by rw [List.getElem?_drop,h]
theorem zuq {b:List UInt8} {n:Nat} {y:UInt8} (h:b[n]?=some y):b.take (n + 1)=b.take n ++ [y]:=by rw [List.take_add_one,h];rfl

/-! ### Numbers -/
def dg:List UInt8->Nat
 | []=>0
 | c :: r=>bif za8 c then dg r + 1 else 0
theorem zpP (c:UInt8) (r:List UInt8):dg (c :: r)=bif za8 c then dg r + 1 else 0:=rfl
theorem ztm:∀ b:List UInt8,dg b <= b.length
 | []=>zNl _
 | c :: r=>by
  have:=ztm r
  rw [zpP]
  cases za8 c <;> simp <;> omega
def zhj (m:Bool) (d:List UInt8):Bool :=
 decide (dg d < 1) || decide (19 < dg d) || (decide (1 < dg d) && decide (hd d=48)) || (m && decide (hd d=48)) || zbv (hd (d.drop (dg d))) ||
  decide (9223372036854775808 < zku (d.take (dg d))) || (!m && decide (zku (d.take (dg d))=9223372036854775808))
def ze9 (b:List UInt8):Option Nat :=
 bif decide (hd b=45) then bif zhj true (b.drop 1) then none else some (dg (b.drop 1) + 1)
 else bif zhj false b then none else some (dg b)
theorem zul (s:Str) (i:Int) (h0:0 <= i) (h1:i < s.b.length) (hl:s.b.length <= 1000000) :
    zgq s i=some (match ze9 (s.b.drop i.toNat) with
      | none=>-1
      | some n=>i + (n:Int)):=by
  refine tx ?_
  unfold zgq
  refine T.get h0 h1 λy1 hy1=>?_
  have hd1:hd (s.b.drop i.toNat)=y1:=by rw [zhc hy1];rfl
  refine T.jp (λf=>i <= f/\f <= i + 1/\ze9 (s.b.drop i.toNat)=(bif zhj (decide (y1=45)) (s.b.drop f.toNat) then none else some (dg (s.b.drop f.toNat) + (f - i).toNat))) (λJ h=>T.br (λhb=>T.ck (by omega) (h _ ⟨by omega,by omega,?_⟩)) λhb=>h _ ⟨by omega,by omega,?_⟩) λf ⟨f1,f2,f3⟩=>?_
  · have e1:(i + 1).toNat=i.toNat + 1:=by omega
    have e2:(i + 1 - i).toNat=1:=by omega
    unfold ze9
    rw [hd1,hb,zCt,e1,e2,List.drop_drop]
  · have e2:(i - i).toNat=0:=by omega
    unfold ze9
    rw [hd1,hb,zCf,e2,Nat.add_zero]
  have hfl:f <= s.b.length:=by omega
  have hgoal:∀ k:Int,(dg (s.b.drop f.toNat):Int)=k - f->(match ze9 (s.b.drop i.toNat) with
      | none=>-1
      | some n=>i + (n:Int))=bif zhj (decide (y1=45)) (s.b.drop f.toNat) then -1 else k:=by
    intro k hk
    rw [f3]
    cases zhj (decide (y1=45)) (s.b.drop f.toNat) with
    | true=>rfl
    | false =>
      show i + ((dg (s.b.drop f.toNat) + (f - i).toNat:Nat):Int)=k
      omega
  refine T.lp (ι:=Int × UInt64) (λq=>f <= q.1/\q.1 <= s.b.length/\(dg (s.b.drop f.toNat):Int)=q.1 - f + dg (s.b.drop q.1.toNat)/\(q.1 - f <= 19->q.2=zku ((s.b.drop f.toNat).take (q.1.toNat - f.toNat)))) (λq=>(s.b.length - q.1).toNat)
    ⟨zIl _,hfl,by dsimp only;omega,λ_=>by rw [Nat.sub_self];rfl⟩ (by simp only;omega) λL q hq hL=>?_
  obtain ⟨k,v⟩:=q
  obtain ⟨hq1,hq2,hq3,hq4⟩:=hq
  simp only at hq1 hq2 hq3 hq4 ⊢
  refine T.jp (λb=>(b=true->k < s.b.length/\(dg (s.b.drop f.toNat):Int)=k + 1 - f + dg (s.b.drop (k + 1).toNat))/\(b=false->(dg (s.b.drop f.toNat):Int)=k - f)) (λJ h=>?_) λb hb=>?_
  · refine T.br (λh2=>?_) λh2=>h _ ⟨(λh=>by cases h),λ_=>?_⟩
    · have h2:=zOT h2
      have ek:(k + 1).toNat=k.toNat + 1:=by omega
      refine T.get (by omega) h2 λy hy=>T.eq (zf6 y) (h _ ?_)
      rw [zhc hy,zpP] at hq3
      rw [ek]
      refine ⟨λhd=>⟨h2,?_⟩,λhd=>?_⟩
      · rw [hd,zCt] at hq3;omega
      · rw [hd,zCf] at hq3;omega
    · have h2:=zOF h2
      rw [zDn (as:=s.b) (i:=k.toNat) (by omega)] at hq3
      simpa [dg] using hq3
  refine T.br (λh2=>?_) λh2=>?_
  · obtain ⟨hk,hd⟩:=hb.1 h2
    obtain ⟨y,hy⟩:∃ y,s.b[k.toNat]?=some y:=⟨_,List.getElem?_eq_getElem (by omega)⟩
    have hsn:=zuq (b:=s.b.drop f.toNat) (n:=k.toNat - f.toNat) (y:=y) (zws (by rw [show f.toNat + (k.toNat - f.toNat)=k.toNat by omega,hy]))
    have hk1:(k + 1).toNat - f.toNat=k.toNat - f.toNat + 1:=by omega
    refine T.ck (by omega) (T.jp (λu=>k - f < 19->u=10 * v + (y - 48).toUInt64) (λJ h=>T.br (λ_=>?_) λh3=>h _ λh4=>by have:=zOF h3;omega) λu hu=>T.ck (by omega) (hL _ ?_ (by simp only;omega)))
    · exact T.get (by omega) hk λy' hy'=>h _ λ_=>by rw [hy] at hy';cases hy';rfl
    · refine ⟨by simp only;omega,by simp only;omega,hd,λh19=>?_⟩
      simp only at h19 ⊢
      rw [hk1,hsn,zjE,hu (by omega),hq4 (by omega)]
  have hn:=hb.2 h2
  rw [hgoal k hn]
  refine T.ck (by omega) ?_
  have hdn:dg (s.b.drop f.toNat)=k.toNat - f.toNat:=by omega
  have hyf:1 <= k - f->∀ y,s.b[f.toNat]?=some y->hd (s.b.drop f.toNat)=y:=λ_ y hy=>by rw [zhc hy];rfl
  refine T.jp (λb=>b=(decide (dg (s.b.drop f.toNat) < 1) || decide (19 < dg (s.b.drop f.toNat)))) (λJ h=>T.br (λh3=>h _ ?_) λh3=>h _ ?_) λb1 hb1=>?_
  · have:=zOT h3;rw [zDT (by omega)];rfl
  · have:=zOF h3;rw [zDF (show ¬ dg (s.b.drop f.toNat) < 1 by omega),Bool.false_or,decide_eq_decide];omega
  refine T.jp (λb=>b=(b1 || (decide (1 < dg (s.b.drop f.toNat)) && decide (hd (s.b.drop f.toNat)=48)))) (λJ h=>T.br (λh3=>h _ (by rw [h3];rfl)) λh3=>?_) λb2 hb2=>?_
  · refine T.jp (λb=>b=(decide (1 < dg (s.b.drop f.toNat)) && decide (hd (s.b.drop f.toNat)=48))) (λJ3 h4=>T.br (λh5=>?_) λh5=>h4 _ ?_) λb hb=>h _ (by rw [h3,hb];rfl)
    · have h5:=zOT h5
      exact T.get (by omega) (by omega) λy hy=>h4 _ (by rw [zDT (show 1 < dg (s.b.drop f.toNat) by omega),hyf (by omega) y hy];rfl)
    · have h5:=zOF h5
      rw [zDF (show ¬ 1 < dg (s.b.drop f.toNat) by omega)];rfl
  refine T.jp (λb=>b=(b2 || (decide (y1=45) && decide (hd (s.b.drop f.toNat)=48)))) (λJ h=>T.br (λh3=>h _ (by rw [h3];rfl)) λh3=>?_) λb3 hb3=>?_
  · have hge:1 <= k - f:=by
      have e1:=(Bool.or_eq_false_iff.1 (hb2.symm.trans h3)).1
      have:=zOF (Bool.or_eq_false_iff.1 (hb1.symm.trans e1)).1
      omega
    refine T.jp (λb=>b=(decide (y1=45) && decide (hd (s.b.drop f.toNat)=48))) (λJ3 h4=>T.br (λh5=>?_) λh5=>h4 _ (by rw [h5];rfl)) λb hb=>h _ (by rw [h3,hb];rfl)
    exact T.get (by omega) (by omega) λy hy=>h4 _ (by rw [h5,hyf hge y hy];rfl)
  have hat:zhi s k=some (hd ((s.b.drop f.toNat).drop (dg (s.b.drop f.toNat)))):=by
    rw [zm8 s k (by omega),List.drop_drop,hdn]
    congr 3;omega
  refine T.jp (λb=>b=(b3 || zbv (hd ((s.b.drop f.toNat).drop (dg (s.b.drop f.toNat)))))) (λJ h=>T.br (λh3=>h _ (by rw [h3];rfl)) λh3=>T.eq hat (T.eq (zif _) (h _ (by rw [h3];rfl)))) λb4 hb4=>?_
  have hv:b4=false->v=zku ((s.b.drop f.toNat).take (dg (s.b.drop f.toNat))):=λh=>by
    have e3:=(Bool.or_eq_false_iff.1 (hb4.symm.trans h)).1
    have e2:=(Bool.or_eq_false_iff.1 (hb3.symm.trans e3)).1
    have e1:=(Bool.or_eq_false_iff.1 (hb2.symm.trans e2)).1
    have:=zOF (Bool.or_eq_false_iff.1 (hb1.symm.trans e1)).2
    rw [hdn];exact hq4 (by omega)
  refine T.jp (λb=>b=(b4 || decide (9223372036854775808 < zku ((s.b.drop f.toNat).take (dg (s.b.drop f.toNat)))))) (λJ h=>T.br (λh3=>h _ (by rw [h3];rfl)) λh3=>h _ (by rw [h3,hv h3];rfl)) λb5 hb5=>?_
  refine T.jp (λb=>b=(b5 || (!decide (y1=45) && decide (zku ((s.b.drop f.toNat).take (dg (s.b.drop f.toNat)))=9223372036854775808)))) (λJ h=>T.br (λh3=>h _ (by rw [h3];rfl)) λh3=>?_) λb6 hb6=>?_
  · have e4:=(Bool.or_eq_false_iff.1 (hb5.symm.trans h3)).1
    refine T.jp (λb=>b=(!decide (y1=45) && decide (zku ((s.b.drop f.toNat).take (dg (s.b.drop f.toNat)))=9223372036854775808))) (λJ3 h4=>T.br (λh5=>h4 _ (by rw [h5,hv e4];rfl)) λh5=>h4 _ (by rw [h5];rfl)) λb hb=>h _ (by rw [h3,hb];rfl)
  have hall:b6=zhj (decide (y1=45)) (s.b.drop f.toNat):=by
    rw [hb6,hb5,hb4,hb3,hb2,hb1];rfl
  rw [<- hall]
  exact T.br (λh3=>T.some (by rw [h3];rfl)) λh3=>T.some (by rw [h3];rfl)

/-! ### Hexes -/
def zfW (c:UInt8):Bool:=za8 c || (decide (65 <= c) && decide (c <= 70))
def hx:List UInt8->Nat
 | []=>0
 | c :: r=>bif zfW c then hx r + 1 else 0
theorem zpW (c:UInt8) (r:List UInt8):hx (c :: r)=bif zfW c then hx r + 1 else 0:=rfl
theorem zyn:∀ b:List UInt8,hx b <= b.length
 | []=>zNl _
 | c :: r=>by
  have:=zyn r
  rw [zpW]
  cases zfW c <;> simp <;> omega
def zeE (r:List UInt8):Bool:=!decide (hx r % 2=0) || !decide (hd (r.drop (hx r))=39) || !decide (hd (r.drop (hx r + 1))=72)
theorem zqL {b:List UInt8} {n:Nat} (h:hd (b.drop n) ≠ 0):n < b.length:=by
 rcases Nat.lt_or_ge n b.length with h2 | h2
 ·exact h2
 ·rw [zDn h2] at h;exact absurd rfl h
theorem zy7 (s:Str) (i:Int) (h0:0 <= i) (h1:i < s.b.length) (hl:s.b.length <= 1000000) :
    zj1 s i=some (bif zeE (s.b.drop (i.toNat + 1)) then (-1,⟨[]⟩) else (i + 1 + (hx (s.b.drop (i.toNat + 1)):Int) + 2,⟨(s.b.drop (i.toNat + 1)).take (hx (s.b.drop (i.toNat + 1)))⟩)):=by
  refine tx ?_
  unfold zj1
  have e0:(i + 1).toNat=i.toNat + 1:=by omega
  refine T.ck (by omega) (T.lp (λ(k:Int)=>i + 1 <= k/\k <= (s.b.length:Int)/\(hx (s.b.drop (i.toNat + 1)):Int)=k - (i + 1) + hx (s.b.drop k.toNat)) (λ(k:Int)=>((s.b.length:Int) - k).toNat) ⟨zIl _,by omega,by rw [e0];omega⟩ (by omega) λL k ⟨k1,k2,k3⟩ hL=>?_)
  refine T.jp (λb=>(b=true->k < s.b.length/\(hx (s.b.drop (i.toNat + 1)):Int)=k + 1 - (i + 1) + hx (s.b.drop (k + 1).toNat))/\(b=false->(hx (s.b.drop (i.toNat + 1)):Int)=k - (i + 1))) (λJ h=>T.br (λh2=>?_) λh2=>h _ ⟨(λh=>by cases h),λ_=>?_⟩) λb hb=>?_
  · have h2:=zOT h2
    refine T.get (by omega) h2 λy hy=>T.eq (zf6 y) ?_
    have ek:(k + 1).toNat=k.toNat + 1:=by omega
    refine T.jp (λq=>q=zfW y) (λJ2 h3=>T.br (λh4=>h3 _ (by unfold zfW;rw [h4];rfl)) λh4=>T.get (by omega) h2 λy' hy'=>?_) λq hq=>h _ ?_
    · rw [hy] at hy';cases hy'
      refine T.jp (λq=>q=(decide (65 <= y) && decide (y <= 70))) (λJ4 h5=>T.br (λh6=>T.get (by omega) h2 λy' hy'=>h5 _ (by rw [hy] at hy';cases hy';rw [h6];rfl)) λh6=>h5 _ (by rw [h6];rfl)) λq hq=>h3 _ (by unfold zfW;rw [h4,hq];rfl)
    · subst hq
      rw [zhc hy,zpW] at k3
      rw [ek]
      refine ⟨λhd=>⟨h2,?_⟩,λhd=>?_⟩
      · rw [hd,zCt] at k3;omega
      · rw [hd,zCf] at k3;omega
  · have h2:=zOF h2
    rw [zDn (as:=s.b) (i:=k.toNat) (by omega)] at k3
    simpa [hx] using k3
  refine T.br (λh2=>T.ck (by have:=hb.1 h2;omega) (hL _ ⟨by have:=hb.1 h2;omega,by have:=hb.1 h2;omega,(hb.1 h2).2⟩ (by have:=hb.1 h2;omega))) λh2=>?_
  have hn:=hb.2 h2
  have hdk:(s.b.drop (i.toNat + 1)).drop (hx (s.b.drop (i.toNat + 1)))=s.b.drop k.toNat:=by rw [List.drop_drop];congr 1;omega
  have hdk1:(s.b.drop (i.toNat + 1)).drop (hx (s.b.drop (i.toNat + 1)) + 1)=s.b.drop (k + 1).toNat:=by rw [List.drop_drop];congr 1;omega
  refine T.ck (by omega) (T.asr rfl ?_)
  have hmod:decide ((k - (i + 1)).tmod 2=0)=decide (hx (s.b.drop (i.toNat + 1)) % 2=0):=by
    rw [decide_eq_decide,Int.tmod_eq_emod_of_nonneg (by omega)]
    omega
  refine T.jp (λb=>b=(!decide (hx (s.b.drop (i.toNat + 1)) % 2=0) || !decide (hd (s.b.drop k.toNat)=39))) (λJ h=>T.br (λh3=>h _ (by rw [<- hmod,h3];rfl)) λh3=>T.eq (zm8 s k (by omega)) (h _ (by rw [<- hmod,h3];rfl))) λb1 hb1=>?_
  refine T.jp (λb=>b=zeE (s.b.drop (i.toNat + 1))) (λJ h=>T.br (λh3=>h _ ?_) λh3=>T.ck (by omega) (T.eq (zm8 s (k + 1) (by omega)) (h _ ?_))) λb2 hb2=>?_
  · unfold zeE;rw [hdk,<- hb1,h3];rfl
  · unfold zeE;rw [hdk,hdk1,<- hb1,h3];rfl
  rw [<- hb2]
  refine T.br (λh3=>T.some (by rw [h3];rfl)) λh3=>?_
  have hlt:k + 1 < s.b.length:=by
    rw [h3] at hb2
    unfold zeE at hb2
    have:=(Bool.or_eq_false_iff.1 hb2.symm).2
    have h72:hd (s.b.drop (k + 1).toNat)=72:=by rw [hdk1] at this;simpa using this
    have:=zqL (b:=s.b) (n:=(k + 1).toNat) (by rw [h72];decide)
    omega
  refine T.ck (by omega) (T.asd (by omega) (T.some ?_))
  rw [h3,zCf,seg,e0]
  have e5:k.toNat - (i.toNat + 1)=hx (s.b.drop (i.toNat + 1)):=by omega
  rw [e5,hn]
  have e6:i + 1 + (k - (i + 1)) + 2=k + 2:=by omega
  rw [e6]

/-! ### Strings -/
def qd:Bool->List UInt8->List UInt8->Option (List UInt8 × List UInt8)
 | _,[],_=>none
 | true,_ :: r,acc=>qd false r (acc ++ [34])
 | false,c :: r,acc=>bif decide (c=34) then bif decide (hd r=34) then qd true r acc else bif Lib.validD acc then some (acc,r) else none else qd false r (acc ++ [c])
theorem zuV (s:Str) (i:Int) (h0:0 <= i) (h1:i < s.b.length) (hl:s.b.length <= 1000000) :
    zgu s i=some (match qd false (s.b.drop (i.toNat + 1)) [] with
      | none=>(-1,⟨[]⟩)
      | some (t,r)=>((s.b.length:Int) - (r.length:Int),⟨t⟩)):=by
  refine tx ?_
  unfold zgu
  have e0:(i + 1).toNat=i.toNat + 1:=by omega
  refine T.ck (by omega) (T.lp (ι:=Int × Str) (λq=>i + 1 <= q.1/\q.1 <= s.b.length + 1/\(q.2.b.length:Int) < q.1/\qd false (s.b.drop (i.toNat + 1)) []=qd false (s.b.drop q.1.toNat) q.2.b) (λq=>(s.b.length + 1 - q.1).toNat) ⟨zIl _,by dsimp only;omega,by dsimp only;simp only [zLn];omega,by dsimp only;rw [e0]⟩ (by dsimp only;omega) λL q hq hL=>?_)
  obtain ⟨k,o⟩:=q
  obtain ⟨hq1,hq2,hq3,hq4⟩:=hq
  simp only at hq1 hq2 hq3 hq4 ⊢
  rw [hq4] at hL ⊢
  refine T.br (λh2=>?_) λh2=>T.some ?_
  rotate_left
  · have h2:=zOF h2
    rw [zDn (by omega)];simp only [qd]
  have h2:=zOT h2
  have ek:(k + 1).toNat=k.toNat + 1:=by omega
  refine T.jp (λ(q:Int × Str)=>k <= q.1/\q.1 < (s.b.length:Int)/\(q.2.b.length:Int) < q.1 + 1/\qd false (s.b.drop k.toNat) o.b=qd false (s.b.drop (q.1 + 1).toNat) q.2.b) (λJ h=>?_) λq hq=>?_
  · refine T.get (by omega) h2 λy hy=>T.br (λh3=>?_) λh3=>?_
    · have h34:decide (y=34)=false:=by simpa using h3
      have ey:(s.b.take (k + 1).toNat).drop k.toNat=[y]:=by
        rw [seg,ek,zhc hy,show k.toNat + 1 - k.toNat=1 by omega];rfl
      refine T.ck (by omega) (T.asd (by omega) (T.abl ?_ (h _ ⟨zIl _,h2,?_,?_⟩)))
      · simp only [zLd,zLt];omega
      · simp only [zLa,zLd,zLt];omega
      · dsimp only
        rw [ey,ek]
        conv=>lhs;rw [zhc hy]
        simp only [qd,h34,zCf]
    · have h34:decide (y=34)=true:=by simpa using h3
      refine T.ck (by omega) (T.eq (zm8 s (k + 1) (by omega)) (T.br (λh4=>?_) λh4=>?_))
      · have hn:decide (hd (s.b.drop (k.toNat + 1))=34)=false:=by rw [ek] at h4;simpa using h4
        refine T.eq rfl (T.br (λh5=>T.some ?_) λh5=>T.ck (by omega) (T.some ?_))
        · have h5:Lib.validD o.b=false:=by simpa using h5
          conv=>rhs;rw [zhc hy]
          simp only [qd,h34,zCt,hn,zCf,h5]
        · have h5:Lib.validD o.b=true:=by simpa using h5
          conv=>rhs;rw [zhc hy]
          simp only [qd,h34,zCt,hn,zCf,h5,zLd]
          congr 1;omega
      · have hn:hd (s.b.drop (k.toNat + 1))=34:=by rw [ek] at h4;simpa using h4
        have hlt:=zqL (b:=s.b) (n:=k.toNat + 1) (by rw [hn];decide)
        obtain ⟨c,ec⟩:=zi1 hlt
        refine T.abl ?_ (T.ck (by omega) (h _ ⟨by dsimp only;omega,by dsimp only;omega,?_,?_⟩))
        · simp only [zLc,zLn];omega
        · simp only [zLa,zLc,zLn];omega
        · dsimp only
          rw [show (k + 1 + 1).toNat=k.toNat + 1 + 1 by omega]
          conv=>lhs;rw [zhc hy]
          simp only [qd,h34,zCt,zDT hn]
          rw [ec];simp only [qd]
  · exact T.ck (by omega) (hL _ ⟨by dsimp only;omega,by dsimp only;omega,hq.2.2.1,hq.2.2.2⟩ (by dsimp only;omega))
/-! ### Signs -/
def zhO:List UInt8->List UInt8->Bool
 | [],_=>true
 | _ :: _,[]=>false
 | p :: ps,c :: r=>bif decide (p=c) then zhO ps r else false
def sgF:List (List UInt8)->List UInt8->Nat
 | [],_=>0
 | p :: ps,b=>bif zhO p b then p.length else sgF ps b
def sgs:List (List UInt8):=[[58,58,61],[46,46,46],[46,46],[91,91],[93,93],[123],[125],[91],[93],[40],[41],[44],[58]]
def sg (b:List UInt8):Nat:=sgF sgs b
theorem zhy:∀ (p b:List UInt8),zhO p b=true ↔ p.length <= b.length/\b.take p.length=p
 | [],b=>by simp [zhO]
 | _ :: _,[]=>by simp [zhO]
 | p :: ps,c :: r=>by
  have ih:=zhy ps r
  unfold zhO
  by_cases h:p=c
  ·subst h;simp [ih]
  ·simp only [zDF h,zCf,zLc,List.take_succ_cons,List.cons.injEq]
   exact ⟨(λh=>by cases h),λh2=>absurd h2.2.1.symm h⟩
theorem zs5 {k:Nat} {y:Str} (h:([(Str.mk [58,58,61]),(Str.mk [46,46,46]),(Str.mk [46,46]),(Str.mk [91,91]),(Str.mk [93,93]),(Str.mk [123]),(Str.mk [125]),(Str.mk [91]),(Str.mk [93]),(Str.mk [40]),(Str.mk [41]),(Str.mk [44]),(Str.mk [58])]:List Str)[k]?=some y):sgs.drop k=y.b :: sgs.drop (k + 1):=by
 have e:([(Str.mk [58,58,61]),(Str.mk [46,46,46]),(Str.mk [46,46]),(Str.mk [91,91]),(Str.mk [93,93]),(Str.mk [123]),(Str.mk [125]),(Str.mk [91]),(Str.mk [93]),(Str.mk [40]),(Str.mk [41]),(Str.mk [44]),(Str.mk [58])]:List Str)=sgs.map Str.mk:=rfl
 rw [e,List.getElem?_map] at h
 obtain ⟨z,h1,h2⟩:=Option.map_eq_some_iff.1 h
 subst h2
 obtain ⟨h3,h4⟩:=List.getElem?_eq_some_iff.1 h1
 rw [List.drop_eq_getElem_cons h3,h4]
theorem zxU (s:Str) (i:Int) (h0:0 <= i) (h1:i < s.b.length) (hl:s.b.length <= 1000000):ziN s i=some ((sg (s.b.drop i.toNat):Nat):Int):=by
 refine tx ?_
 unfold ziN
 refine T.asd (by omega) (T.lp (λ(k:Int)=>0 <= k/\k <= 13/\sgF (sgs.drop k.toNat) (s.b.drop i.toNat)=sg (s.b.drop i.toNat)) (λ(k:Int)=>(13 - k).toNat) ⟨zIl _,by omega,rfl⟩ (by omega) λL k ⟨k1,k2,k3⟩ hL=>?_)
 have er:(s.b.take ((s.b.length:Int)).toNat).drop i.toNat=s.b.drop i.toNat:=by rw [zTl (by omega)]
 refine T.br (λh2=>?_) λh2=>T.some ?_
 rotate_left
 ·have h2:¬ k < 13:=zOF h2
  have:k=13:=by omega
  subst this
  rw [<- k3];rfl
 have h2:=zOT h2
 refine T.get k1 h2 λy hy=>?_
 have hs:=zs5 hy
 rw [hs] at k3
 unfold sgF at k3
 rw [er]
 refine T.jp (λb=>b=zhO y.b (s.b.drop i.toNat)) (λJ h=>T.br (λh3=>?_) λh3=>h _ ?_) λb hb=>?_
 ·have h3:=zOT h3
  refine T.asd ⟨zIl _,by omega,h3⟩ (T.get k1 h2 λy2 hy2=>h _ ?_)
  rw [hy] at hy2;cases hy2
  have h4:y.b.length <= (s.b.drop i.toNat).length:=by simp only [zLd] at h3 ⊢;omega
  rw [Bool.eq_iff_iff,decide_eq_true_eq,zhy]
  constructor
  ·intro h5
   refine ⟨h4,?_⟩
   have:=congrArg Str.b h5
   simpa using this
  ·intro h5
   obtain ⟨yb⟩:=y
   simp only [Str.mk.injEq]
   simpa using h5.2
 ·have h3:=zOF h3
  symm
  rw [Bool.eq_false_iff]
  intro h5
  have:=(zhy _ _).1 h5
  simp only [zLd] at h3 this
  omega
 ·rw [hb]
  refine T.br (λh3=>T.some ?_) λh3=>T.ck (by have h2:k < 13:=h2;omega) (hL _ ⟨by omega,by have h2:k < 13:=h2;omega,?_⟩ (by have h2:k < 13:=h2;omega))
  ·rw [h3,zCt] at k3;rw [<- k3]
  ·rw [h3,zCf] at k3
   have e:(k + 1).toNat=k.toNat + 1:=by omega
   rw [e,k3]

/-! ### Words -/
def zqr:List Str:=[(Str.mk [68,69,70,73,78,73,84,73,79,78,83]),(Str.mk [69,88,80,76,73,67,73,84]),(Str.mk [73,77,80,76,73,67,73,84]),(Str.mk [65,85,84,79,77,65,84,73,67]),(Str.mk [84,65,71,83]),(Str.mk [66,69,71,73,78]),(Str.mk [69,78,68]),(Str.mk [66,79,79,76,69,65,78]),(Str.mk [73,78,84,69,71,69,82]),(Str.mk [69,78,85,77,69,82,65,84,69,68]),(Str.mk [78,85,76,76]),(Str.mk [79,67,84,69,84]),(Str.mk [83,84,82,73,78,71]),(Str.mk [85,84,70,56,83,116,114,105,110,103]),(Str.mk [83,69,81,85,69,78,67,69]),(Str.mk [83,69,84]),(Str.mk [67,72,79,73,67,69]),(Str.mk [79,70]),(Str.mk [79,80,84,73,79,78,65,76]),(Str.mk [68,69,70,65,85,76,84]),(Str.mk [83,73,90,69]),(Str.mk [77,73,78]),(Str.mk [77,65,88]),(Str.mk [84,82,85,69]),(Str.mk [70,65,76,83,69])]
def zlx:List UInt8->List UInt8->Bool
 | [],[]=>true
 | a :: r,b :: t=>bif decide (a=b) then zlx r t else false
 | _,_=>false
theorem zk9:∀ a b:List UInt8,zlx a b=true ↔ a=b
 | [],[]=>by simp [zlx]
 | [],_ :: _=>by simp [zlx]
 | _ :: _,[]=>by simp [zlx]
 | a :: r,b :: t=>by
  have ih:=zk9 r t
  unfold zlx
  by_cases h:a=b
  ·subst h;simp [ih]
  ·simp [h]
def zi8 (t:List UInt8):Bool:=zqr.any λw=>zlx w.b t
theorem zxB (s:Str):zil s=some (zi8 s.b):=by
 refine tx ?_
 unfold zil
 refine T.eq (y:=zqr) rfl (T.cal (zi9 zqr s (by decide)) λy _ hy=>T.some ?_)
 rw [hy,Bool.eq_iff_iff,decide_eq_true_eq]
 unfold zi8
 rw [List.any_eq_true]
 constructor
 ·intro h;exact ⟨s,h,(zk9 _ _).2 rfl⟩
 ·rintro ⟨w,h1,h2⟩
  have:=(zk9 _ _).1 h2
  obtain ⟨wb⟩:=w;obtain ⟨sb⟩:=s
  simp only at this;subst this;exact h1

/-! ### One sign, all signs -/
/-- The kind and the text of what comes first, and what is left behind it. -/
def ziO (b:List UInt8):Option (Int × List UInt8 × List UInt8) :=
 let c:=hd b
 bif zbv c then bif zhI b then none else some (bif zi8 (b.take (nm b)) then 5 else bif decide (c <= 90) then 1 else 2,b.take (nm b),b.drop (nm b))
 else bif za8 c || (decide (c=45) && za8 (hd (b.drop 1))) then match ze9 b with
  | none=>none
  | some n=>some (3,b.take n,b.drop n)
 else bif decide (c=39) then bif zeE (b.drop 1) then none else some (4,(b.drop 1).take (hx (b.drop 1)),(b.drop 1).drop (hx (b.drop 1) + 2))
 else bif decide (c=34) then match qd false (b.drop 1) [] with
  | none=>none
  | some (t,r)=>some (7,t,r)
 else bif decide (0 < sg b) then some (6,b.take (sg b),b.drop (sg b)) else none
theorem zqo:∀ (b:List UInt8) (f:Bool) (acc t r:List UInt8),qd f b acc=some (t,r)->r.length < b.length
 | [],f,acc,t,r,h=>by cases f <;> simp [qd] at h
 | c :: b,true,acc,t,r,h=>by
  simp only [qd] at h
  have:=zqo b _ _ _ _ h
  simp;omega
 | c :: b,false,acc,t,r,h=>by
  simp only [qd] at h
  by_cases h1:c=34
  ·simp only [zDT h1,zCt] at h
   by_cases h2:hd b=34
   ·simp only [zDT h2,zCt] at h
    have:=zqo b _ _ _ _ h
    simp;omega
   ·simp only [zDF h2,zCf] at h
    cases hv:Lib.validD acc with
    | true=>rw [hv] at h;simp at h;rw [<- h.2];simp
    | false=>rw [hv] at h;cases h
  ·simp only [zDF h1,zCf] at h
   have:=zqo b _ _ _ _ h
   simp;omega
theorem zmI {b:List UInt8} {n:Nat} (h:ze9 b=some n):0 < n/\n <= b.length:=by
 unfold ze9 at h
 by_cases h1:hd b=45
 ·simp only [zDT h1,zCt] at h
  cases hb:zhj true (b.drop 1) with
  | true=>rw [hb] at h;cases h
  | false =>
   rw [hb] at h;simp only [zCf,Option.some.injEq] at h
   have:=ztm (b.drop 1)
   rw [zLd] at this
   have:b ≠ []:=λe=>by rw [e] at h1;cases h1
   have:=List.length_pos_iff.2 this
   omega
 ·simp only [zDF h1,zCf] at h
  cases hb:zhj false b with
  | true=>rw [hb] at h;cases h
  | false =>
   rw [hb] at h;simp at h
   have:=ztm b
   have:decide (dg b < 1)=false:=by
    unfold zhj at hb
    simp only [Bool.or_eq_false_iff] at hb
    exact hb.1.1.1.1.1.1
   have:=zOF this
   omega
theorem zvr {b:List UInt8} (h:zbv (hd b)=true):0 < nm b:=by
 cases b with
 | nil=>simp [hd,zbv] at h
 | cons c r =>
  rw [znl]
  simp only [hd] at h
  unfold zc1
  rw [h];simp
theorem ztu:∀ (l:List (List UInt8)) (b:List UInt8),sgF l b <= b.length
 | [],b=>zNz _
 | p :: ps,b=>by
  unfold sgF
  cases h:zhO p b with
  | true=>exact ((zhy _ _).1 h).1
  | false=>exact ztu ps b
theorem zmx {b t r:List UInt8} {k:Int} (h:ziO b=some (k,t,r)):r.length < b.length:=by
 unfold ziO at h
 simp only at h
 cases h1:zbv (hd b) with
 | true =>
  rw [h1,zCt] at h
  cases h2:zhI b with
  | true=>rw [h2] at h;cases h
  | false =>
   rw [h2] at h
   simp only [zCf,Option.some.injEq,Prod.mk.injEq] at h
   rw [<- h.2.2,zLd]
   have:=zvr h1
   have:=zpf b
   omega
 | false =>
  rw [h1,zCf] at h
  cases h2:za8 (hd b) || (decide (hd b=45) && za8 (hd (b.drop 1))) with
  | true =>
   rw [h2,zCt] at h
   cases h3:ze9 b with
   | none=>rw [h3] at h;cases h
   | some n =>
    rw [h3] at h
    simp only [Option.some.injEq,Prod.mk.injEq] at h
    have:=zmI h3
    rw [<- h.2.2,zLd];omega
  | false =>
   rw [h2,zCf] at h
   by_cases h3:hd b=39
   ·rw [zDT h3,zCt] at h
    cases h4:zeE (b.drop 1) with
    | true=>rw [h4] at h;cases h
    | false =>
     rw [h4] at h
     simp only [zCf,Option.some.injEq,Prod.mk.injEq] at h
     have:b ≠ []:=λe=>by rw [e] at h3;cases h3
     have:=List.length_pos_iff.2 this
     rw [<- h.2.2,zLd,zLd];omega
   ·rw [zDF h3,zCf] at h
    by_cases h4:hd b=34
    ·rw [zDT h4,zCt] at h
     cases h5:qd false (b.drop 1) [] with
     | none=>rw [h5] at h;cases h
     | some q =>
      rw [h5] at h
      obtain ⟨t',r'⟩:=q
      simp only [Option.some.injEq,Prod.mk.injEq] at h
      have:=zqo _ _ _ _ _ h5
      rw [zLd] at this
      rw [<- h.2.2];omega
    ·rw [zDF h4,zCf] at h
     by_cases h5:0 < sg b
     ·rw [zDT h5,zCt] at h
      simp only [Option.some.injEq,Prod.mk.injEq] at h
      have:=ztu sgs b
      have e:sgF sgs b=sg b:=rfl
      rw [<- h.2.2,zLd];omega
     ·rw [zDF h5] at h;cases h
theorem zzf (s:Str) (i:Int) (h0:0 <= i) (h1:i < s.b.length) (hl:s.b.length <= 1000000) :
    T (λ(q:zS × Int)=>match ziO (s.b.drop i.toNat) with
      | none=>q.2 < 0
      | some (k,t,r)=>q=(⟨k,⟨t⟩,i⟩,(s.b.length:Int) - (r.length:Int))) (zkk s i):=by
  unfold zkk
  refine T.get h0 h1 λy hy=>?_
  have ed:=zhc hy
  have hy0:hd (s.b.drop i.toNat)=y:=by rw [ed];rfl
  have ed1:(s.b.drop i.toNat).drop 1=s.b.drop (i.toNat + 1):=by rw [List.drop_drop]
  have elen:(s.b.drop i.toNat).length=s.b.length - i.toNat:=zLd
  have etake:∀ (n:Nat),(s.b.take (i + (n:Int)).toNat).drop i.toNat=(s.b.drop i.toNat).take n:=λn=>by
    rw [seg];congr 1;omega
  have erest:∀ (n:Nat),n <= (s.b.drop i.toNat).length->i + (n:Int)=(s.b.length:Int) - (((s.b.drop i.toNat).drop n).length:Int):=λn hn=>by
    rw [zLd,elen];rw [elen] at hn;omega
  refine T.jp (ι:=Int × zS) (λ(q:Int × zS)=>match ziO (s.b.drop i.toNat) with
      | none=>q.1 < 0
      | some (k,t,r)=>(q.2,q.1)=(⟨k,⟨t⟩,i⟩,(s.b.length:Int) - (r.length:Int))) (λJ h=>?_) λq hq=>T.some hq
  unfold ziO at h ⊢
  simp only [hy0] at h ⊢
  refine T.eq (zif y) (T.br (λhle=>?_) λhle=>T.eq (zf6 y) ?_)
  · rw [hle,zCt] at h ⊢
    have hcl:zbv (hd (s.b.drop i.toNat))=true:=by rw [hy0];exact hle
    refine T.eq (zxo s i h0 h1 hl hcl) ?_
    cases hb:zhI (s.b.drop i.toNat) with
    | true =>
      rw [hb,zCt] at h
      simp only [zCt] at h ⊢
      exact T.br (λ_=>T.some (by dsimp only;omega)) λhn=>by have:=zOF hn;omega
    | false =>
      rw [hb,zCf] at h
      simp only [zCf] at h ⊢
      have hnl:=zpf (s.b.drop i.toNat)
      rw [elen] at hnl
      refine T.br (λhn=>by have:=zOT hn;omega) λ_=>T.asd (by omega) ?_
      rw [etake]
      refine T.jp (ι:=zS) (λt=>t=⟨bif decide (y <= 90) then 1 else 2,⟨(s.b.drop i.toNat).take (nm (s.b.drop i.toNat))⟩,i⟩) (λJ2 h2=>T.br (λh3=>h2 _ (by rw [h3];rfl)) λh3=>h2 _ (by rw [h3];rfl)) λt ht=>?_
      subst ht
      refine T.eq (zxB _) (T.br (λh3=>h _ ?_) λh3=>h _ ?_)
      · dsimp only at h3 ⊢;rw [h3,<- erest _ (zpf _)];rfl
      · dsimp only at h3 ⊢;rw [h3,<- erest _ (zpf _)];rfl
  · rw [hle, zCf] at h ⊢
    refine T.jp (λb=>b=(za8 y || (decide (y=45) && za8 (hd ((s.b.drop i.toNat).drop 1))))) (λJ2 h2=>T.br (λh3=>h2 _ (by rw [h3];rfl)) λh3=>?_) λb hb=>?_
    · refine T.jp (λb=>b=(decide (y=45) && za8 (hd ((s.b.drop i.toNat).drop 1)))) (λJ3 h4=>T.br (λh5=>T.ck (by omega) (T.eq (zm8 s (i + 1) (by omega)) (T.eq (zf6 _) (h4 _ ?_)))) λh5=>h4 _ (by rw [h5];rfl)) λb hb=>h2 _ (by rw [h3,hb];rfl)
      rw [h5,ed1,show (i + 1).toNat=i.toNat + 1 by omega];rfl
    rw [<- hb] at h ⊢
    refine T.br (λh3=>T.eq (zul s i h0 h1 hl) ?_) λh3=>?_
    · rw [h3,zCt] at h ⊢
      cases hn:ze9 (s.b.drop i.toNat) with
      | none =>
        simp only [hn] at h ⊢
        exact T.br (λ_=>T.some (by dsimp only;omega)) λhn=>by have:=zOF hn;omega
      | some n =>
        simp only [hn] at h ⊢
        have hbd:=zmI hn
        have hbd2:=hbd.2
        rw [elen] at hbd2
        refine T.br (λhn=>by have:=zOT hn;omega) λ_=>T.asd (by omega) (h _ ?_)
        rw [etake,<- erest n hbd.2]
    · rw [h3,zCf] at h ⊢
      refine T.br (λh4=>T.eq (zy7 s i h0 h1 hl) (h _ ?_)) λh4=>?_
      · rw [h4,zCt,ed1]
        cases hb:zeE (s.b.drop (i.toNat + 1)) with
        | true=>simp only [zCt];omega
        | false =>
          simp only [zCf]
          have h5:hx (s.b.drop (i.toNat + 1)) + 1 < (s.b.drop (i.toNat + 1)).length:=by
            unfold zeE at hb
            have:=(Bool.or_eq_false_iff.1 hb).2
            have h72:hd ((s.b.drop (i.toNat + 1)).drop (hx (s.b.drop (i.toNat + 1)) + 1))=72:=by simpa using this
            exact zqL (by rw [h72];decide)
          rw [zLd] at h5
          rw [zLd,zLd]
          have e:i + 1 + (hx (s.b.drop (i.toNat + 1)):Int) + 2=(s.b.length:Int) - ((s.b.length - (i.toNat + 1) - (hx (s.b.drop (i.toNat + 1)) + 2):Nat):Int):=by omega
          rw [e]
      · rw [h4,zCf] at h ⊢
        refine T.br (λh5=>T.eq (zuV s i h0 h1 hl) (h _ ?_)) λh5=>?_
        · rw [h5,zCt,ed1]
          cases hq:qd false (s.b.drop (i.toNat + 1)) [] with
          | none=>simp only;omega
          | some q=>rfl
        · rw [h5,zCf] at h ⊢
          refine T.eq (zxU s i h0 h1 hl) (T.br (λh6=>?_) λh6=>h _ ?_)
          · have h6:=zOT h6
            have hsl:=ztu sgs (s.b.drop i.toNat)
            have esg:sgF sgs (s.b.drop i.toNat)=sg (s.b.drop i.toNat):=rfl
            have hpos:0 < sg (s.b.drop i.toNat):=by omega
            have hsl2:=hsl
            rw [elen] at hsl2
            refine T.ck (by omega) (T.asd (by omega) (T.ck (by omega) (h _ ?_)))
            rw [zDT hpos,zCt]
            dsimp only
            rw [etake,<- erest (sg (s.b.drop i.toNat)) hsl]
          · have h6:=zOF h6
            rw [zDF (show ¬ 0 < sg (s.b.drop i.toNat) by omega)]
            simp only [zCf];omega

def zjP (n:Nat):Nat->List UInt8->List zS->List zS × Int × Int
 | 0,_,_=>([],0,0)
 | f + 1,b,acc=>match wh .out b with
  | []=>(acc ++ [⟨0,⟨[]⟩,(n:Int)⟩],0,0)
  | c :: r=>match ziO (c :: r) with
   | none=>([],(n:Int) - ((c :: r).length:Int),6)
   | some (k,t,r')=>zjP n f r' (acc ++ [⟨k,⟨t⟩,(n:Int) - ((c :: r).length:Int)⟩])
theorem ziI (n f:Nat) (b:List UInt8) (acc:List zS):zjP n (f + 1) b acc=match wh .out b with
    | []=>(acc ++ [⟨0,⟨[]⟩,(n:Int)⟩],0,0)
    | c :: r=>match ziO (c :: r) with
      | none=>([],(n:Int) - ((c :: r).length:Int),6)
      | some (k,t,r')=>zjP n f r' (acc ++ [⟨k,⟨t⟩,(n:Int) - ((c :: r).length:Int)⟩]):=rfl
def toks (b:List UInt8):List zS × Int × Int:=bif decide (8000 < b.length) then ([],0,5) else zjP b.length (b.length + 1) b []
theorem zfX:∀ (b:List UInt8) (st:Wst),(wh st b).length <= b.length
 | [],st=>by cases st <;> simp [wh]
 | c :: r,.out=>by
  have h1:=zfX r .out
  have h2:=zfX r .start
  simp only [wh]
  cases zsA c <;> simp only [zCt,zCf]
  ·cases decide (c=45) && decide (hd r=45) <;> simp only [zCt,zCf,zLc] <;> omega
  ·simp only [zLc];omega
 | c :: r,.start=>by have:=zfX r .ins;simp only [wh,zLc];omega
 | c :: r,.ins=>by
  have h1:=zfX r .out
  have h2:=zfX r .fin
  have h3:=zfX r .ins
  simp only [wh,zLc]
  cases decide (c=10) <;> simp only [zCt,zCf]
  ·cases decide (c=45) && decide (hd r=45) <;> simp only [zCt,zCf] <;> omega
  ·omega
 | c :: r,.fin=>by have:=zfX r .out;simp only [wh,zLc];omega
theorem zjh:∀ (b:List UInt8) (st:Wst),∃ n,wh st b=b.drop n
 | [],st=>⟨0,by cases st <;> simp [wh]⟩
 | c :: r,.out=>by
  obtain ⟨n1,h1⟩:=zjh r .out
  obtain ⟨n2,h2⟩:=zjh r .start
  simp only [wh]
  cases zsA c <;> simp only [zCt,zCf]
  ·cases decide (c=45) && decide (hd r=45) <;> simp only [zCt,zCf]
   ·exact ⟨0,rfl⟩
   ·exact ⟨n2 + 1,h2⟩
  ·exact ⟨n1 + 1,h1⟩
 | c :: r,.start=>by obtain ⟨n,h⟩:=zjh r .ins;exact ⟨n + 1,h⟩
 | c :: r,.ins=>by
  obtain ⟨n1,h1⟩:=zjh r .out
  obtain ⟨n2,h2⟩:=zjh r .fin
  obtain ⟨n3,h3⟩:=zjh r .ins
  simp only [wh]
  cases decide (c=10) <;> simp only [zCt,zCf]
  ·cases decide (c=45) && decide (hd r=45) <;> simp only [zCt,zCf]
   ·exact ⟨n3 + 1,h3⟩
   ·exact ⟨n2 + 1,h2⟩
  ·exact ⟨n1 + 1,h1⟩
 | c :: r,.fin=>by obtain ⟨n,h⟩:=zjh r .out;exact ⟨n + 1,h⟩
theorem zpQ:∀ (b:List UInt8) (f:Bool) (acc t r:List UInt8),qd f b acc=some (t,r)->∃ n,r=b.drop n
 | [],f,acc,t,r,h=>by cases f <;> simp [qd] at h
 | c :: b,true,acc,t,r,h=>by
  simp only [qd] at h
  obtain ⟨n,e⟩:=zpQ b _ _ _ _ h
  exact ⟨n + 1,e⟩
 | c :: b,false,acc,t,r,h=>by
  simp only [qd] at h
  by_cases h1:c=34
  ·simp only [zDT h1,zCt] at h
   by_cases h2:hd b=34
   ·simp only [zDT h2,zCt] at h
    obtain ⟨n,e⟩:=zpQ b _ _ _ _ h
    exact ⟨n + 1,e⟩
   ·simp only [zDF h2,zCf] at h
    cases hv:Lib.validD acc with
    | true=>rw [hv] at h;simp at h;exact ⟨1,h.2.symm⟩
    | false=>rw [hv] at h;cases h
  ·simp only [zDF h1,zCf] at h
   obtain ⟨n,e⟩:=zpQ b _ _ _ _ h
   exact ⟨n + 1,e⟩
theorem zrn {b t r:List UInt8} {k:Int} (h:ziO b=some (k,t,r)):∃ n,r=b.drop n:=by
 unfold ziO at h
 simp only at h
 cases h1:zbv (hd b) with
 | true =>
  rw [h1,zCt] at h
  cases h2:zhI b with
  | true=>rw [h2] at h;cases h
  | false =>
   rw [h2] at h
   simp only [zCf,Option.some.injEq,Prod.mk.injEq] at h
   exact ⟨_,h.2.2.symm⟩
 | false =>
  rw [h1,zCf] at h
  cases h2:za8 (hd b) || (decide (hd b=45) && za8 (hd (b.drop 1))) with
  | true =>
   rw [h2,zCt] at h
   cases h3:ze9 b with
   | none=>rw [h3] at h;cases h
   | some n =>
    rw [h3] at h
    simp only [Option.some.injEq,Prod.mk.injEq] at h
    exact ⟨_,h.2.2.symm⟩
  | false =>
   rw [h2,zCf] at h
   by_cases h3:hd b=39
   ·rw [zDT h3,zCt] at h
    cases h4:zeE (b.drop 1) with
    | true=>rw [h4] at h;cases h
    | false =>
     rw [h4] at h
     simp only [zCf,Option.some.injEq,Prod.mk.injEq,List.drop_drop] at h
     exact ⟨_,h.2.2.symm⟩
   ·rw [zDF h3,zCf] at h
    by_cases h4:hd b=34
    ·rw [zDT h4,zCt] at h
     cases h5:qd false (b.drop 1) [] with
     | none=>rw [h5] at h;cases h
     | some q =>
      rw [h5] at h
      obtain ⟨t',r'⟩:=q
      simp only [Option.some.injEq,Prod.mk.injEq] at h
      obtain ⟨n,e⟩:=zpQ _ _ _ _ _ h5
      rw [List.drop_drop] at e
      exact ⟨_,h.2.2.symm.trans e⟩
    ·rw [zDF h4,zCf] at h
     by_cases h5:0 < sg b
     ·rw [zDT h5,zCt] at h
      simp only [Option.some.injEq,Prod.mk.injEq] at h
      exact ⟨_,h.2.2.symm⟩
     ·rw [zDF h5] at h;cases h
theorem zkD {b r:List UInt8} {n:Nat} (h:r=b.drop n):b.drop (b.length - r.length)=r:=by
 subst h
 rw [zLd]
 rcases Nat.lt_or_ge b.length n with h2 | h2
 ·rw [zDn (show b.length <= n by omega),zDn (by omega)]
 ·congr 1;omega

theorem zla (s:Str):zfb s=some (toks s.b):=by
 refine tx ?_
 unfold zfb toks
 refine T.br (λh=>T.some ?_) λh=>?_
 ·have h:=zOT h
  rw [zDT (show 8000 < s.b.length by omega)];rfl
 have hl:=zOF h
 rw [zDF (show ¬ 8000 < s.b.length by omega),zCf]
 refine T.lp (ι:=List zS × Int) (λ(q:List zS × Int)=>0 <= q.2/\q.2 <= (s.b.length:Int)/\(q.1.length:Int) <= q.2/\∃ f,(s.b.drop q.2.toNat).length < f/\zjP s.b.length (s.b.length + 1) s.b []=zjP s.b.length f (s.b.drop q.2.toNat) q.1) (λ(q:List zS × Int)=>((s.b.length:Int) - q.2).toNat) ⟨zIl _,by dsimp only;omega,by simp,s.b.length + 1,by simp,rfl⟩ (by dsimp only;omega) λL q hq hL=>?_
 obtain ⟨l,k⟩:=q
 obtain ⟨h1,h2,h3,f,h4,h5⟩:=hq
 simp only at h1 h2 h3 h4 h5 ⊢
 rw [h5] at hL ⊢
 cases f with
 | zero=>omega
 | succ f =>
  have hwl:=zfX (s.b.drop k.toNat) .out
  rw [zLd] at hwl h4
  obtain ⟨nw,hw⟩:=zjh (s.b.drop k.toNat) .out
  rw [List.drop_drop] at hw
  have hsw:=zkD hw
  refine T.eq (zvT s k h1 h2 (by omega)) ?_
  rw [ziI] at hL ⊢
  cases hwh:wh .out (s.b.drop k.toNat) with
  | nil =>
   simp only [hwh] at hL ⊢
   refine T.br (λ_=>T.abl (by simp only [zLc,zLn];omega) (T.some rfl)) λh6=>?_
   have:=zOF h6
   simp at this
  | cons c r =>
   simp only [hwh] at hL ⊢ 
   rw [hwh] at hwl hsw
   have hcl:0 < (c :: r).length:=by simp
   refine T.br (λh6=>by have:=zOT h6;omega) λ_=>?_
   have hi:((s.b.length:Int) - ((c :: r).length:Int)).toNat=s.b.length - (c :: r).length:=by omega
   refine T.cal (zzf s ((s.b.length:Int) - ((c :: r).length:Int)) (by omega) (by omega) (by omega)) λq _ hq=>?_
   rw [hi,hsw] at hq
   cases ho:ziO (c :: r) with
   | none =>
    rw [ho] at hq
    simp only [ho] at hL ⊢
    simp only at hq
    exact T.br (λ_=>T.some rfl) λh7=>by have:=zOF h7;omega
   | some p =>
    obtain ⟨kd,t,r'⟩:=p
    rw [ho] at hq
    simp only [ho] at hL ⊢
    simp only at hq
    subst hq
    have hol:=zmx ho
    obtain ⟨no,hso⟩:=zrn ho
    have hso2:r'=s.b.drop (s.b.length - (c :: r).length + no):=by rw [hso,<- List.drop_drop,hsw]
    have hsd:=zkD hso2
    refine T.br (λh7=>by have:=zOT h7;dsimp only at this;omega) λ_=>T.abl (by simp only [zLc,zLn];omega) (hL _ ⟨by dsimp only;omega,by dsimp only;omega,?_,f,?_,?_⟩ (by dsimp only;omega))
    ·dsimp only;rw [zLa,zLs];omega
    ·dsimp only
     rw [show ((s.b.length:Int) - (r'.length:Int)).toNat=s.b.length - r'.length by omega,hsd]
     omega
    ·dsimp only
     rw [show ((s.b.length:Int) - (r'.length:Int)).toNat=s.b.length - r'.length by omega,hsd]
theorem zj8 (q:zab) (k:Int) (h0:0 <= q.reader.at_ + k) (h1:q.reader.at_ + k <= 2000000) (hl:q.reader.s.b.length <= 1000000):zaj q k=some (hd (q.reader.s.b.drop (q.reader.at_ + k).toNat),q):=by
 refine tx ?_
 unfold zaj
 refine T.ck ⟨by omega,by omega⟩ (T.br (λh=>T.some ?_) λh=>T.ck ⟨by omega,by omega⟩ (T.get h0 (by have:=zOF h;omega) λy hy=>T.some ?_))
 ·have:=zOT h
  rw [zDn (by omega)];rfl
 ·rw [zhc hy];rfl
theorem zyJ (a p:Str):zbT a p=some (zhO p.b a.b):=by
 refine tx ?_
 unfold zbT
 refine T.jp (λb=>b=zhO p.b a.b) (λJ h=>T.br (λh3=>?_) λh3=>h _ ?_) λb hb=>T.some hb
 ·have h3:=zOT h3
  refine T.asd ⟨zIl _,by omega,h3⟩ (h _ ?_)
  rw [Bool.eq_iff_iff,decide_eq_true_eq,zhy]
  constructor
  ·intro h5
   refine ⟨by omega,?_⟩
   have:=congrArg Str.b h5
   simpa using this
  ·intro h5
   obtain ⟨yb⟩:=p
   simp only [Str.mk.injEq]
   simpa using h5.2
 ·have h3:=zOF h3
  symm
  rw [Bool.eq_false_iff]
  intro h5
  have:=(zhy _ _).1 h5
  omega
theorem znY (q:zab) (t:Str) (h0:0 <= q.reader.at_) (h1:q.reader.at_ <= q.reader.s.b.length):zcn q t=some (zhO t.b (q.reader.s.b.drop q.reader.at_.toNat),q):=by
 refine tx ?_
 unfold zcn zft
 refine T.asd ⟨h0,h1,zIl _⟩ (T.cal (Q:=λb=>b=zhO t.b (q.reader.s.b.drop q.reader.at_.toNat)) (T.eq (zyJ _ _) (T.some ?_)) λb _ hb=>T.some (by rw [hb]))
 rw [zrK]
theorem zvR (a c:UInt8) (d:List UInt8) (ha:a ≠ 0) (hc:c ≠ 0):zhO [a,c] d=(decide (hd d=a) && decide (hd (d.drop 1)=c)):=by
 match d with
 | []=>simp [zhO,hd,ha.symm]
 | [x]=>simp [zhO,hd,hc.symm]
 | x :: y :: r =>
  have e1:decide (x=a)=decide (a=x):=decide_eq_decide.2 eq_comm
  have e2:decide (y=c)=decide (c=y):=decide_eq_decide.2 eq_comm
  show (bif decide (a=x) then (bif decide (c=y) then true else false) else false)=(decide (x=a) && decide (y=c))
  rw [e1,e2]
  cases decide (a=x) <;> cases decide (c=y) <;> rfl
theorem clet (c:UInt8):zgv c=some (zbv c):=by
 refine tx ?_
 unfold zgv zbv
 refine T.jp (λq=>q=(decide (97 <= c) && decide (c <= 122))) (λJ h=>T.br (λh2=>h _ (by rw [h2];rfl)) λh2=>h _ (by rw [h2];rfl)) λq hq=>?_
 refine T.jp (λq'=>q'=(q || (decide (65 <= c) && decide (c <= 90)))) (λJ h=>T.br (λh2=>h _ (by rw [h2];rfl)) λh2=>?_) λq' hq'=>T.some (by rw [hq',hq])
 refine T.jp (λq'=>q'=(decide (65 <= c) && decide (c <= 90))) (λJ2 h3=>T.br (λh4=>h3 _ (by rw [h4];rfl)) λh4=>h3 _ (by rw [h4];rfl)) λq' hq'=>h _ (by rw [h2,hq'];rfl)
theorem zvc (c:UInt8):zfP c=some (za8 c):=by
 refine tx ?_
 unfold zfP za8
 refine T.jp (λq=>q=(decide (48 <= c) && decide (c <= 57))) (λJ h=>T.br (λh2=>h _ (by rw [h2];rfl)) λh2=>h _ (by rw [h2];rfl)) λq hq=>T.some hq

/-! ### White -/
theorem zsq (c:UInt8) (r:List UInt8) (h:c=10):wh .ins (c :: r)=wh .out (c :: r):=by
 subst h;simp [wh,zsA]
theorem zyc (x:zab) (h0:0 <= x.reader.at_) (h1:x.reader.at_ <= x.reader.s.b.length) (hl:x.reader.s.b.length <= 1000000) :
    T (λr=>r.reader.s=x.reader.s/\r.reader.at_=(x.reader.s.b.length:Int) - ((wh .out (x.reader.s.b.drop x.reader.at_.toNat)).length:Int)) (zdT x):=by
  obtain ⟨⟨s,i⟩⟩:=x
  simp only at h0 h1 hl ⊢
  unfold zdT
  refine T.lp (ι:=zab) (λq=>q.reader.s=s/\0 <= q.reader.at_/\q.reader.at_ <= s.b.length/\wh .out (s.b.drop q.reader.at_.toNat)=wh .out (s.b.drop i.toNat)) (λq=>(s.b.length - q.reader.at_).toNat) ⟨rfl,h0,h1,rfl⟩ (by dsimp only;omega) λL q hq hL=>?_
  obtain ⟨⟨s',k⟩⟩:=q
  obtain ⟨es,k1,k2,k3⟩:=hq
  simp only at es k1 k2 k3
  subst es
  rw [<- k3] at hL ⊢
  simp only at hL ⊢
  refine T.br (λhb=>?_) (λhb=>T.some ⟨rfl,?_⟩)
  rotate_left
  · have hb:=zOF hb
    show k=_
    rw [zDn (by omega)]
    simp only [wh,zLn];omega
  have hb:=zOT hb
  obtain ⟨y,hy⟩:∃ y,s'.b[k.toNat]?=some y:=⟨_,List.getElem?_eq_getElem (by omega)⟩
  have e:=zhc hy
  have e1:(k + 1).toNat=k.toNat + 1:=by omega
  have hpk:zaj (zab.mk (zcl.mk s' k)) 0=some (y,zab.mk (zcl.mk s' k)):=by
    rw [zj8 _ _ (by show 0 <= k + 0;omega) (by show k + 0 <= _;omega) hl]
    show some (hd (s'.b.drop (k + 0).toNat),_)=_
    rw [Int.add_zero,e];rfl
  refine T.eq hpk ?_
  simp only
  refine T.jp (λq=>q=(decide (y=32) || decide (y=9))) (λJ h=>T.br (λh2=>h _ (by rw [h2];rfl)) λh2=>h _ (by rw [h2];rfl)) λq hq=>?_
  refine T.jp (λq'=>q'=(q || decide (y=10))) (λJ h=>T.br (λh2=>h _ (by rw [h2];rfl)) λh2=>h _ (by rw [h2];rfl)) λq' hq'=>?_
  refine T.jp (λq2=>q2=(q' || decide (y=13))) (λJ h=>T.br (λh2=>h _ (by rw [h2];rfl)) λh2=>h _ (by rw [h2];rfl)) λq2 hq2=>?_
  have hw:q2=zsA y:=by rw [hq2,hq',hq];rfl
  refine T.br (λh2=>T.ck (by omega) (hL _ ⟨rfl,by dsimp only;omega,by dsimp only;omega,?_⟩ (by dsimp only;omega))) λh2=>?_
  · dsimp only
    rw [e1,e];simp only [wh,<- hw,h2,zCt]
  have had:∀ j:Int,0 <= j->j <= s'.b.length->zcn (zab.mk (zcl.mk s' j)) (Str.mk [45,45])=some (decide (hd (s'.b.drop j.toNat)=45) && decide (hd (s'.b.drop (j.toNat + 1))=45),zab.mk (zcl.mk s' j)):=λj j0 j1=>by
    rw [znY _ _ j0 j1]
    show some (zhO [45,45] (s'.b.drop j.toNat),_)=_
    rw [zvR 45 45 _ (by decide) (by decide),List.drop_drop]
  refine T.eq (had k k1 k2) ?_
  have hdy:hd (s'.b.drop k.toNat)=y:=by rw [e];rfl
  simp only [hdy]
  generalize hq3:(decide (y=45) && decide (hd (s'.b.drop (k.toNat + 1))=45))=q3
  refine T.br (λh3=>T.ck (by omega) ?_) (λh3=>T.some ⟨rfl,?_⟩)
  rotate_left
  · show k=_
    rw [e];simp only [wh,<- hw,h2,zCf,hq3,h3,zLc,zLd];omega
  have h45:hd (s'.b.drop (k.toNat + 1))=45:=by rw [<- hq3] at h3;simpa using (Bool.and_eq_true_iff.1 h3).2
  have hlt:=zo7 h45
  obtain ⟨c,ec⟩:=zi1 hlt
  have e2:(k + 2).toNat=k.toNat + 1 + 1:=by omega
  have hins:wh .out (s'.b.drop k.toNat)=wh .ins (s'.b.drop (k + 2).toNat):=by
    rw [e,e2];simp only [wh,<- hw,h2,zCf,hq3,h3,zCt];rw [ec];simp only [wh]
  refine T.lp (ι:=zab) (λq=>q.reader.s=s'/\k + 2 <= q.reader.at_/\q.reader.at_ <= s'.b.length/\wh .out (s'.b.drop k.toNat)=wh .ins (s'.b.drop q.reader.at_.toNat)) (λq=>(s'.b.length - q.reader.at_).toNat) ⟨rfl,zIl _,by dsimp only;omega,hins⟩ (by dsimp only;omega) λL2 q hq hL2=>?_
  obtain ⟨⟨s2,j⟩⟩:=q
  obtain ⟨es,j1,j2,j3⟩:=hq
  simp only at es j1 j2 j3 hL2
  subst es
  have hpj:zaj (zab.mk (zcl.mk s2 j)) 0=some (hd (s2.b.drop j.toNat),zab.mk (zcl.mk s2 j)):=by
    rw [zj8 _ _ (by show 0 <= j + 0;omega) (by show j + 0 <= _;omega) hl]
    show some (hd (s2.b.drop (j + 0).toNat),_)=_
    rw [Int.add_zero]
  refine T.jp (ι:=Bool × zab) (λp=>p.2=zab.mk (zcl.mk s2 j)/\(p.1=true->j < s2.b.length/\hd (s2.b.drop j.toNat) ≠ 10/\(decide (hd (s2.b.drop j.toNat)=45) && decide (hd (s2.b.drop (j.toNat + 1))=45))=false)/\(p.1=false->s2.b.length <= j \/ hd (s2.b.drop j.toNat)=10 \/ (decide (hd (s2.b.drop j.toNat)=45) && decide (hd (s2.b.drop (j.toNat + 1))=45))=true)) (λJ h=>?_) λp hp=>?_
  · refine T.jp (ι:=Bool × zab) (λp=>p.2=zab.mk (zcl.mk s2 j)/\(p.1=true->j < s2.b.length/\hd (s2.b.drop j.toNat) ≠ 10)/\(p.1=false->s2.b.length <= j \/ hd (s2.b.drop j.toNat)=10)) (λJ2 g=>T.br (λh4=>T.eq hpj (g _ ⟨rfl,λh5=>⟨zOT h4,by simpa using h5⟩,λh5=>.inr (by simpa using h5)⟩)) λh4=>g _ ⟨rfl,(λh5=>by cases h5),λ_=>.inl (by have:=zOF h4;dsimp only at this;omega)⟩) λp hp=>?_
    obtain ⟨pb,pl⟩:=p
    obtain ⟨p1,p2,p3⟩:=hp
    simp only at p1 p2 p3
    subst p1
    refine T.jp (ι:=Bool × zab) (λp=>p.2=zab.mk (zcl.mk s2 j)/\(p.1=true->j < s2.b.length/\hd (s2.b.drop j.toNat) ≠ 10/\(decide (hd (s2.b.drop j.toNat)=45) && decide (hd (s2.b.drop (j.toNat + 1))=45))=false)/\(p.1=false->s2.b.length <= j \/ hd (s2.b.drop j.toNat)=10 \/ (decide (hd (s2.b.drop j.toNat)=45) && decide (hd (s2.b.drop (j.toNat + 1))=45))=true)) (λJ3 g=>T.br (λh4=>T.eq (had j (by omega) j2) (g _ ⟨rfl,λh5=>⟨(p2 h4).1,(p2 h4).2,(Bool.not_eq_true' _).mp h5⟩,λh5=>.inr (.inr ((Bool.not_eq_false' _).mp h5))⟩)) λh4=>g _ ⟨rfl,(λh5=>by cases h5),λ_=>(p3 h4).elim .inl λz=>.inr (.inl z)⟩) λp hp=>h _ hp
  obtain ⟨pb,pl⟩:=p
  obtain ⟨p1,p2,p3⟩:=hp
  simp only at p1 p2 p3
  subst p1
  have f1:(j + 1).toNat=j.toNat + 1:=by omega
  have f2:(j + 2).toNat=j.toNat + 1 + 1:=by omega
  refine T.br (λh5=>T.ck (by dsimp only;have:=p2 h5;omega) (hL2 _ ⟨rfl,by dsimp only;omega,by dsimp only;have:=p2 h5;omega,?_⟩ (by dsimp only;have:=p2 h5;omega))) λh5=>T.eq (had j (by omega) j2) ?_
  · obtain ⟨z1,z2,z3⟩:=p2 h5
    obtain ⟨y2,hy2⟩:∃ y,s2.b[j.toNat]?=some y:=⟨_,List.getElem?_eq_getElem (by omega)⟩
    have f:=zhc hy2
    have hdy2:hd (s2.b.drop j.toNat)=y2:=by rw [f];rfl
    rw [hdy2] at z2 z3
    dsimp only
    rw [j3,f,f1];simp only [wh,zDF z2,zCf,z3]
  refine T.br (λh6=>T.ck (by dsimp only;omega) (hL _ ⟨rfl,by dsimp only;omega,?_,?_⟩ ?_)) λh6=>hL _ ⟨rfl,by dsimp only;omega,j2,?_⟩ (by dsimp only;omega)
  · simp only at h6 ⊢
    have:=zo7 (by simpa using (Bool.and_eq_true_iff.1 h6).2)
    omega
  · simp only at h6 ⊢
    have h46:hd (s2.b.drop (j.toNat + 1))=45:=by simpa using (Bool.and_eq_true_iff.1 h6).2
    have h40:hd (s2.b.drop j.toNat)=45:=by simpa using (Bool.and_eq_true_iff.1 h6).1
    have hlt2:=zo7 h46
    obtain ⟨c2,ec2⟩:=zi1 hlt2
    obtain ⟨c3,ec3⟩:=zi1 (b:=s2.b) (n:=j.toNat) (by omega)
    have hc3:c3=45:=by rw [ec3] at h40;exact h40
    rw [j3,f2,ec3];subst hc3
    simp only [wh,h46,decide_true,Bool.and_self,zCt]
    rw [ec2];rfl
  · simp only at h6 ⊢
    have:=zo7 (by simpa using (Bool.and_eq_true_iff.1 h6).2)
    omega
  · simp only at h6 ⊢
    rw [j3]
    rcases p3 h5 with z | z | z
    · rw [zDn (by omega)];rfl
    · rcases Nat.lt_or_ge j.toNat s2.b.length with z2 | z2
      · obtain ⟨c3,ec3⟩:=zi1 z2
        have hc3:c3=10:=by rw [ec3] at z;exact z
        rw [ec3,zsq _ _ hc3]
      · rw [zDn z2];rfl
    · rw [h6] at z;cases z

/-! ### Words -/
def znU {β:Type} (s:Str) (J:Bool->Option β):List Str->Option β
 | []=>J false
 | [w]=>J (decide (s=w))
 | w :: r=>br (decide (s=w)) (J (decide (s=w))) (znU s J r)
theorem zrA (s w:Str):decide (s=w)=zlx w.b s.b:=by
 rw [Bool.eq_iff_iff,decide_eq_true_eq,zk9]
 constructor
 ·intro h;rw [h]
 ·intro h;cases s;cases w;simp only at h;rw [h]
theorem zpC {β:Type} (s:Str) (J:Bool->Option β):∀ l,znU s J l=J (l.any λw=>zlx w.b s.b)
 | []=>rfl
 | [w]=>by simp only [znU,List.any_cons,List.any_nil,Bool.or_false,zrA]
 | w :: v :: r=>by
  have:=zpC s J (v :: r)
  simp only [znU,zrA] at this ⊢
  rw [List.any_cons]
  cases h:zlx w.b s.b with
  | true=>rfl
  | false=>simp only [Bool.false_or];exact this
theorem cword (s:Str):zk5 s=some (zi8 s.b):=by
 have h:zk5 s=jp (ι:=Bool) (λJ2=>znU s J2 zqr) (λq1=>br q1 (some (true)) (some (false))):=rfl
 rw [h]
 refine tx (T.jp (λq=>q=zi8 s.b) (λJ k=>?_) λq hq=>?_)
 ·rw [zpC];exact k _ rfl
 ·rw [<- hq];cases q <;> exact T.some rfl

/-! ### Names -/
theorem zxL (b:List UInt8) (k:Nat):nm (b.drop k)=bif zc1 (hd (b.drop k)) (b.drop (k + 1)) then nm (b.drop (k + 1)) + 1 else 0:=by
 rcases Nat.lt_or_ge k b.length with h | h
 ·obtain ⟨c,e⟩:=zi1 h
  rw [e];rfl
 ·rw [zDn h]
  simp [hd,zc1,zbv,za8,nm]
theorem ztK {b:List UInt8} {k:Nat} {r:List UInt8} (h:zc1 (hd (b.drop k)) r=true):k < b.length:=by
 rcases Nat.lt_or_ge k b.length with h2 | h2
 ·exact h2
 ·rw [zDn h2] at h
  simp [hd,zc1,zbv,za8] at h
theorem cname (x:zab) (h0:0 <= x.reader.at_) (h1:x.reader.at_ < x.reader.s.b.length) (hl:x.reader.s.b.length <= 1000000) (hc:zbv (hd (x.reader.s.b.drop x.reader.at_.toNat))=true) :
    T (λr=>bif zhI (x.reader.s.b.drop x.reader.at_.toNat) then r.1=0 else r=((bif zi8 ((x.reader.s.b.drop x.reader.at_.toNat).take (nm (x.reader.s.b.drop x.reader.at_.toNat))) then 5 else bif decide (hd (x.reader.s.b.drop x.reader.at_.toNat) <= 90) then 1 else 2:Int),Str.mk ((x.reader.s.b.drop x.reader.at_.toNat).take (nm (x.reader.s.b.drop x.reader.at_.toNat))),zab.mk (zcl.mk x.reader.s (x.reader.at_ + nm (x.reader.s.b.drop x.reader.at_.toNat))))) (zfA x):=by
  obtain ⟨⟨s,i⟩⟩:=x
  simp only at h0 h1 hl hc ⊢
  unfold zfA
  generalize hd0:s.b.drop i.toNat=d at hc ⊢
  have hi0:0 < nm d:=zvr hc
  have hpk:∀ k:Int,0 <= k->k <= s.b.length->zaj (zab.mk (zcl.mk s k)) 0=some (hd (s.b.drop k.toNat),zab.mk (zcl.mk s k)):=λk k0 k1=>by
    rw [zj8 _ _ (by show 0 <= k + 0;omega) (by show k + 0 <= _;omega) hl]
    show some (hd (s.b.drop (k + 0).toNat),_)=_
    rw [Int.add_zero]
  have hpk1:∀ k:Int,0 <= k->k <= s.b.length->zaj (zab.mk (zcl.mk s k)) 1=some (hd (s.b.drop (k.toNat + 1)),zab.mk (zcl.mk s k)):=λk k0 k1=>by
    rw [zj8 _ _ (by show 0 <= k + 1;omega) (by show k + 1 <= _;omega) hl]
    show some (hd (s.b.drop (k + 1).toNat),_)=_
    rw [show (k + 1).toNat=k.toNat + 1 by omega]
  refine T.eq (hpk i h0 (by omega)) ?_
  refine T.lp (ι:=UInt8 × zab) (λq=>∃ k:Int,q=(hd (s.b.drop k.toNat),zab.mk (zcl.mk s k))/\i <= k/\k <= s.b.length/\(nm d:Int)=k - i + nm (s.b.drop k.toNat)) (λq=>(s.b.length - q.2.reader.at_).toNat) ⟨i,rfl,zIl _,by omega,by rw [hd0];omega⟩ (by dsimp only;omega) λL q hq hL=>?_
  obtain ⟨k,rfl,k1,k2,k3⟩:=hq
  simp only at hL ⊢
  have ek:(k + 1).toNat=k.toNat + 1:=by omega
  rw [zxL] at k3
  refine T.eq (clet _) (T.jp (λq=>q=(zbv (hd (s.b.drop k.toNat)) || za8 (hd (s.b.drop k.toNat)))) (λJ2 h2=>T.br (λh3=>h2 _ (by rw [h3];rfl)) λh3=>T.eq (zvc _) (h2 _ (by rw [h3];rfl))) λq hq=>?_)
  refine T.jp (ι:=Bool × zab) (λp=>p=(zc1 (hd (s.b.drop k.toNat)) (s.b.drop (k.toNat + 1)),zab.mk (zcl.mk s k))) (λJ2 h2=>T.br (λh3=>h2 _ (by unfold zc1;rw [<- hq,h3];rfl)) λh3=>?_) λp hp=>?_
  · refine T.jp (ι:=Bool × zab) (λp=>p=(decide (hd (s.b.drop k.toNat)=45) && !decide (hd (s.b.drop (k.toNat + 1))=45),zab.mk (zcl.mk s k))) (λJ3 h4=>T.br (λh5=>T.eq (hpk1 k (by omega) k2) (h4 _ (by rw [h5];rfl))) λh5=>h4 _ (by rw [h5];rfl)) λp hp=>h2 _ ?_
    subst hp
    unfold zc1;rw [<- hq,h3];rfl
  subst hp
  simp only
  refine T.br (λh3=>?_) λh3=>?_
  · have hlt:=ztK h3
    rw [h3,zCt] at k3
    refine T.ck (by omega) (T.eq (hpk (k + 1) (by omega) (by omega)) (hL _ ⟨k + 1,rfl,by omega,by omega,by rw [ek];omega⟩ (by dsimp only;omega)))
  rw [h3,zCf] at k3
  have hn:nm d=k.toNat - i.toNat:=by omega
  have hseg:(s.b.take k.toNat).drop i.toNat=d.take (nm d):=by rw [seg,hd0,hn]
  have hdl:d.length=s.b.length - i.toNat:=by rw [<- hd0,zLd]
  have hlen:(d.take (nm d)).length=nm d:=by rw [zLt];omega
  refine T.asd ⟨h0,k1,k2⟩ ?_
  rw [hseg]
  refine T.jp (λb=>b=zhI d) (λJ h=>T.br (λh4=>h _ ?_) λh4=>T.ck (by simp only [hlen];omega) (T.get (by simp only [hlen];omega) (by simp only [hlen];omega) λy hy=>h _ ?_)) λb hb=>?_
  · have:=zOT h4
    simp only [hlen] at this
    unfold zhI
    rw [zDT (show 60 < nm d by omega),Bool.or_true]
  · have:=zOF h4
    simp only [hlen] at this hy
    unfold zhI
    rw [zDF (show ¬ 60 < nm d by omega),Bool.or_false,List.getLast?_eq_getElem?,hlen,show nm d - 1=((nm d:Int) - 1).toNat by omega,hy]
    rw [decide_eq_decide];simp
  rw [<- hb]
  refine T.br (λh4=>T.some (by rw [h4];rfl)) λh4=>?_
  rw [h4]
  simp only [zCf]
  have hat:(zab.mk (zcl.mk s k))=zab.mk (zcl.mk s (i + nm d)):=by rw [show i + (nm d:Int)=k by omega]
  refine T.eq (cword _) (T.br (λh5=>T.some ?_) λh5=>T.get (zIl _) (by simp only [hlen];omega) λy hy=>?_)
  · simp only at h5;rw [h5,hat];rfl
  · simp only at h5 hy
    have hyd:hd d=y:=by
      rw [List.getElem?_take] at hy
      rw [if_pos (by omega)] at hy
      cases d with
      | nil=>cases hy
      | cons c r=>simpa [hd] using hy
    rw [h5,hyd,hat]
    exact T.br (λh6=>T.some (by rw [h6];rfl)) λh6=>T.some (by rw [h6];rfl)
def zne (acc:Nat) (l:List UInt8):Nat:=l.foldl (λv d=>10 * v + (d.toNat - 48)) acc
theorem znQ:∀ (l:List UInt8) (acc:Nat),acc * 10 ^ l.length <= zne acc l
 | [],acc=>by simp [zne]
 | d :: l,acc=>by
  have h:=znQ l (10 * acc + (d.toNat - 48))
  refine Nat.le_trans ?_ h
  rw [zLc,Nat.pow_succ,Nat.mul_comm (10 ^ l.length) 10,<- Nat.mul_assoc,Nat.mul_comm acc 10]
  exact Nat.mul_le_mul_right _ (Nat.le_add_right _ _)
theorem zsR (l:List UInt8) (acc:Nat):acc <= zne acc l :=
 Nat.le_trans (Nat.le_mul_of_pos_right acc (Nat.pow_pos (by omega))) (znQ l acc)
theorem zv6:∀ (l:List UInt8) (acc:Nat),zlq l->acc <= 18446744073709551615->Lib.parseUintM 18446744073709551615 acc l=if zne acc l <= 18446744073709551615 then .ok (zne acc l) else .range
 | [],acc,_,h=>by
  rw [Lib.parseUintM,if_pos (show zne acc [] <= _ from h)];rfl
 | d :: l,acc,hd,h=>by
  have hr:=zd0 (hd d (zMs ..))
  have hm:=zsR l (10 * acc + (d.toNat - 48))
  have e:zne acc (d :: l)=zne (10 * acc + (d.toNat - 48)) l:=rfl
  rw [Lib.parseUintM,if_pos hr,e]
  by_cases h1:1844674407370955162 <= acc
  ·rw [if_pos h1,if_neg (by omega)]
  ·rw [if_neg h1]
   by_cases h2:18446744073709551615 < acc * 10 + (d.toNat - 48)
   ·rw [if_pos h2,if_neg (by omega)]
   ·rw [if_neg h2,zv6 l _ (λx hx=>hd x (zMm _ hx)) (by omega),Nat.mul_comm acc 10]
theorem zvE (D:List UInt8) (hD:zlq D) (hne:D ≠ []):Lib.parseUintB 64 D=if zdH D <= 18446744073709551615 then .ok (zdH D) else .range:=by
 unfold Lib.parseUintB
 rw [if_neg hne]
 exact zv6 D 0 hD (by omega)
def znj (m:Bool) (v:Nat):Bool:=!(decide (v < 9223372036854775808) || (m && decide (v=9223372036854775808)))
theorem zyK (m:Bool) (D:List UInt8) (hD:zlq D) (hne:D ≠ []) (hl:D.length <= 1000000):T (λr=>r.2.bad=znj m (zdH D)) (zba (Str.mk (bif m then 45 :: D else D)) 10 64):=by
 obtain ⟨c,r,rfl⟩:=List.exists_cons_of_ne_nil hne
 have hr:=zd0 (hD c (zMs ..))
 have hu:=zvE _ hD hne
 have hlen:Nat.ble (bif m then 45 :: c :: r else c :: r).length 281474976710656=true:=Nat.ble_eq_true_of_le (by cases m <;> simp only [zCt,zCf,zLc] at hl ⊢ <;> omega)
 unfold zba
 rw [show (decide ((10:Int)=10) && decide ((64:Int)=64) && Nat.ble (Str.mk (bif m then 45 :: c :: r else c :: r)).b.length 281474976710656)=true by rw [hlen];rfl,zCt]
 cases m with
 | true =>
  simp only [zCt]
  unfold Lib.parseIntB
  simp only [show (45:UInt8).toNat=45 from rfl,or_true,if_true,hu]
  by_cases h1:zdH (c :: r) <= 18446744073709551615
  ·simp only [if_pos h1]
   by_cases h2:9223372036854775808 < zdH (c :: r)
   ·simp only [not_true,false_and,if_false,true_and,if_pos (show 2 ^ (64 - 1) < zdH (c :: r) from h2)]
    refine T.some ?_
    show true=_
    unfold znj;simp;omega
   ·simp only [not_true,false_and,if_false,true_and,if_neg (show ¬ 2 ^ (64 - 1) < zdH (c :: r) from h2)]
    refine T.some ?_
    show false=_
    unfold znj;simp;omega
  ·simp only [if_neg h1]
   refine T.some ?_
   show true=_
   unfold znj;simp;omega
 | false =>
  simp only [zCf]
  unfold Lib.parseIntB
  have n45:¬ c.toNat=45:=by omega
  have n43:¬ (c.toNat=43 \/ c.toNat=45):=by omega
  simp only [if_neg n43,hu]
  by_cases h1:zdH (c :: r) <= 18446744073709551615
  ·simp only [if_pos h1]
   by_cases h2:9223372036854775808 <= zdH (c :: r)
   ·simp only [n45,not_false_eq_true,true_and,if_pos (show 2 ^ (64 - 1) <= zdH (c :: r) from h2)]
    refine T.some ?_
    show true=_
    unfold znj;simp;omega
   ·simp only [n45,not_false_eq_true,true_and,false_and,if_false,if_neg (show ¬ 2 ^ (64 - 1) <= zdH (c :: r) from h2)]
    refine T.some ?_
    show false=_
    unfold znj;simp;omega
  ·simp only [if_neg h1]
   refine T.some ?_
   show true=_
   unfold znj;simp;omega
theorem zqi:∀ d:List UInt8,zlq (d.take (dg d))
 | []=>λx hx=>by simp at hx
 | c :: r=>λx hx=>by
  have ih:=zqi r
  rw [zpP] at hx
  cases h:za8 c with
  | false=>rw [h] at hx;simp at hx
  | true =>
   rw [h] at hx
   simp only [zCt,List.take_succ_cons,List.mem_cons] at hx
   rcases hx with rfl | hx
   ·exact h
   ·exact ih x hx
theorem zxl {d:UInt8} {l:List UInt8} (h:zlq (d :: l)) (hd:d ≠ 48):10 ^ l.length <= zdH (d :: l):=by
 have h1:=zd0 (h d (zMs ..))
 have h2:d.toNat ≠ 48:=λe=>hd (UInt8.toNat_inj.1 e)
 have h3:=znQ l (10 * 0 + (d.toNat - 48))
 refine Nat.le_trans ?_ h3
 exact Nat.le_mul_of_pos_left _ (by omega)
theorem zzd {n:Nat} (h:19 <= n):10000000000000000000 <= 10 ^ n:=by
 have:=Nat.pow_le_pow_right (show 0 < 10 by omega) h
 simpa using this
theorem zrB {m:Bool} {d:List UInt8} (hn:1 <= dg d):(znj m (zdH (d.take (dg d))) || (decide (hd d=48) && (decide (1 < dg d) || m)) || zbv (hd (d.drop (dg d))))=zhj m d:=by
 have hD:=zqi d
 have hlen:(d.take (dg d)).length=dg d:=by rw [zLt];have:=ztm d;omega
 unfold zhj
 rw [zDF (show ¬ dg d < 1 by omega),Bool.false_or]
 by_cases h19:dg d <= 19
 ·have hu:=zlg _ hD (by rw [hlen];exact h19)
  rw [zDF (show ¬ 19 < dg d by omega),Bool.false_or]
  have e1:decide (9223372036854775808 < zku (d.take (dg d)))=decide (9223372036854775808 < zdH (d.take (dg d))):=decide_eq_decide.2 (by rw [UInt64.lt_iff_toNat_lt,hu];rfl)
  have e2:decide (zku (d.take (dg d))=9223372036854775808)=decide (zdH (d.take (dg d))=9223372036854775808):=decide_eq_decide.2 (by rw [<- UInt64.toNat_inj,hu];rfl)
  rw [e1,e2]
  unfold znj
  generalize decide (hd d=48)=A
  generalize decide (1 < dg d)=B
  generalize zbv (hd (d.drop (dg d)))=C
  rcases Nat.lt_trichotomy (zdH (d.take (dg d))) 9223372036854775808 with h | h | h
  ·rw [zDT h,zDF (show ¬ 9223372036854775808 < zdH (d.take (dg d)) by omega),zDF (show ¬ zdH (d.take (dg d))=9223372036854775808 by omega)]
   cases m <;> cases A <;> cases B <;> cases C <;> rfl
  ·rw [zDT h,zDF (show ¬ 9223372036854775808 < zdH (d.take (dg d)) by omega),zDF (show ¬ zdH (d.take (dg d)) < 9223372036854775808 by omega)]
   cases m <;> cases A <;> cases B <;> cases C <;> rfl
  ·rw [zDT h,zDF (show ¬ zdH (d.take (dg d)) < 9223372036854775808 by omega),zDF (show ¬ zdH (d.take (dg d))=9223372036854775808 by omega)]
   cases m <;> cases A <;> cases B <;> cases C <;> rfl
 ·rw [zDT (show 19 < dg d by omega),zDT (show 1 < dg d by omega)]
  simp only [Bool.true_or,Bool.and_true]
  by_cases h48:hd d=48
  ·rw [zDT h48];simp
  ·have hb:znj m (zdH (d.take (dg d)))=true:=by
    have hne:d.take (dg d) ≠ []:=λe=>by rw [e] at hlen;simp at hlen;omega
    obtain ⟨c,r,e⟩:=List.exists_cons_of_ne_nil hne
    have hc:c ≠ 48:=by
     intro e48
     apply h48
     cases d with
     | nil=>simp at e
     | cons x y =>
      have:dg (x :: y)=(dg (x :: y) - 1) + 1:=by omega
      rw [this,List.take_succ_cons] at e
      injection e with e1 e2
      show x=48
      rw [e1,e48]
    rw [e] at hD hlen ⊢
    have:=zxl hD hc
    have h2:=zzd (n:=r.length) (by rw [zLc] at hlen;omega)
    unfold znj;simp;omega
   rw [hb];rfl
theorem ztk (b:List UInt8) (k:Nat):dg (b.drop k)=bif za8 (hd (b.drop k)) then dg (b.drop (k + 1)) + 1 else 0:=by
 rcases Nat.lt_or_ge k b.length with h | h
 ·obtain ⟨c,e⟩:=zi1 h
  rw [e];rfl
 ·rw [zDn h];rfl
theorem zvk {b:List UInt8} {k:Nat} (h:za8 (hd (b.drop k))=true):k < b.length:=by
 rcases Nat.lt_or_ge k b.length with h2 | h2
 ·exact h2
 ·rw [zDn h2] at h;cases h
theorem zym (s:Str) (i:Int) (h0:0 <= i) (h1:i < s.b.length) (hl:s.b.length <= 1000000) (hp:za8 (hd (s.b.drop i.toNat))=true \/ (hd (s.b.drop i.toNat)=45/\za8 (hd (s.b.drop (i.toNat + 1)))=true)) :
    T (λr=>match ze9 (s.b.drop i.toNat) with
      | none=>r.1=0
      | some n=>r=((3:Int),Str.mk ((s.b.drop i.toNat).take n),zab.mk (zcl.mk s (i + n)))) (zeM (zab.mk (zcl.mk s i))):=by
  unfold zeM
  have hpk:∀ k:Int,0 <= k->k <= s.b.length->zaj (zab.mk (zcl.mk s k)) 0=some (hd (s.b.drop k.toNat),zab.mk (zcl.mk s k)):=λk k0 k1=>by
    rw [zj8 _ _ (by show 0 <= k + 0;omega) (by show k + 0 <= _;omega) hl]
    show some (hd (s.b.drop (k + 0).toNat),_)=_
    rw [Int.add_zero]
  refine T.eq (hpk i h0 (by omega)) ?_
  simp only
  refine T.jp (ι:=zab) (λq=>∃ f:Int,q=zab.mk (zcl.mk s f)/\i <= f/\f <= i + 1/\za8 (hd (s.b.drop f.toNat))=true/\decide (i < f)=decide (hd (s.b.drop i.toNat)=45) /\
      ze9 (s.b.drop i.toNat)=(bif zhj (decide (i < f)) (s.b.drop f.toNat) then none else some (dg (s.b.drop f.toNat) + (f - i).toNat))) (λJ h=>T.br (λhb=>T.ck (by omega) (h _ ⟨i + 1,rfl,by omega,by omega,?_,?_,?_⟩)) λhb=>h _ ⟨i,rfl,zIl _,by omega,?_,?_,?_⟩) λq hq=>?_
  · have e1:(i + 1).toNat=i.toNat + 1:=by omega
    rw [e1]
    rcases hp with hp | hp
    · have:=zOT hb
      rw [this] at hp;cases hp
    · exact hp.2
  · rw [hb,zDT (show i < i + 1 by omega)]
  · have e1:(i + 1).toNat=i.toNat + 1:=by omega
    have e2:(i + 1 - i).toNat=1:=by omega
    unfold ze9
    rw [hb,zCt,e1,e2,List.drop_drop,zDT (show i < i + 1 by omega)]
  · rcases hp with hp | hp
    · exact hp
    · exact absurd hp.1 (zOF hb)
  · rw [hb,zDF (show ¬ i < i by omega)]
  · have e2:(i - i).toNat=0:=by omega
    unfold ze9
    rw [hb,zCf,e2,Nat.add_zero,zDF (show ¬ i < i by omega)]
  obtain ⟨f,rfl,f1,f2,f3,f4,f5⟩:=hq
  have hflt:=zvk f3
  generalize hm:decide (i < f)=m at f4 f5
  generalize hdd:s.b.drop f.toNat=dd at f3 f5
  have hn1:1 <= dg dd:=by
    have:=ztk s.b f.toNat
    rw [hdd,f3,zCt] at this
    omega
  refine T.lp (ι:=zab) (λq=>∃ k:Int,q=zab.mk (zcl.mk s k)/\f <= k/\k <= s.b.length/\(dg dd:Int)=k - f + dg (s.b.drop k.toNat)) (λq=>(s.b.length - q.reader.at_).toNat) ⟨f,rfl,zIl _,by omega,by rw [hdd];omega⟩ (by dsimp only;omega) λL q hq hL=>?_
  obtain ⟨k,rfl,k1,k2,k3⟩:=hq
  have ek:(k + 1).toNat=k.toNat + 1:=by omega
  rw [ztk] at k3
  refine T.eq (hpk k (by omega) k2) (T.eq (zvc _) (T.br (λh3=>?_) λh3=>?_))
  · simp only at h3
    have:=zvk h3
    rw [h3,zCt] at k3
    exact T.ck (by dsimp only;omega) (hL _ ⟨k + 1,rfl,by omega,by omega,by rw [ek];omega⟩ (by dsimp only;omega))
  simp only at h3
  rw [h3,zCf] at k3
  have hdn:dg dd=k.toNat - f.toNat:=by omega
  have hD:=zqi dd
  have hdl:dd.length=s.b.length - f.toNat:=by rw [<- hdd,zLd]
  have hlen:(dd.take (dg dd)).length=dg dd:=by rw [zLt];omega
  have hseg:(s.b.take k.toNat).drop f.toNat=dd.take (dg dd):=by rw [seg,hdd,hdn]
  have htext:(s.b.take k.toNat).drop i.toNat=bif m then 45 :: dd.take (dg dd) else dd.take (dg dd):=by
    cases m with
    | true =>
      have hif:=zOT hm
      have h45:hd (s.b.drop i.toNat)=45:=zOT f4.symm
      obtain ⟨c,ec⟩:=zi1 (b:=s.b) (n:=i.toNat) (by omega)
      have hc:c=45:=by rw [ec] at h45;exact h45
      have hg:s.b[i.toNat]?=some c:=by
        have:=congrArg (λl=>l[0]?) ec
        simpa using this
      rw [znN (by omega) (by omega) hg,hc,show i.toNat + 1=f.toNat by omega,hseg];rfl
    | false =>
      have hif:=zOF hm
      rw [show i.toNat=f.toNat by omega,hseg];rfl
  refine T.asd ⟨h0,by dsimp only;omega,k2⟩ ?_
  simp only
  rw [htext]
  refine T.get (by omega) (by omega) λy36 hy36=>?_
  have hy:hd dd=y36:=by rw [<- hdd,zhc hy36];rfl
  refine T.cal (zyK m _ hD (λe=>by rw [e] at hlen;simp at hlen;omega) (by omega)) λy37 _ hy37=>?_
  refine T.jp (λb=>b=(znj m (zdH (dd.take (dg dd))) || (decide (hd dd=48) && (decide (1 < dg dd) || m)))) (λJ h=>T.br (λh4=>h _ (by rw [<- hy37,h4];rfl)) λh4=>?_) λb38 hb38=>?_
  · refine T.jp (λb=>b=(decide (hd dd=48) && (decide (1 < dg dd) || m))) (λJ2 h5=>T.br (λh6=>T.ck (by omega) ?_) λh6=>h5 _ (by rw [hy,h6];rfl)) λb hb=>h _ (by rw [<- hy37,h4,hb];rfl)
    have e1:decide ((1:Int) < k - f)=decide (1 < dg dd):=decide_eq_decide.2 (by omega)
    refine T.jp (λb=>b=(decide (1 < dg dd) || m)) (λJ3 h7=>T.br (λh8=>h7 _ (by rw [<- e1,h8];rfl)) λh8=>h7 _ (by rw [<- e1,h8];rfl)) λb hb=>h5 _ (by rw [hy,h6,hb];rfl)
  have hdk:dd.drop (dg dd)=s.b.drop k.toNat:=by rw [<- hdd,List.drop_drop,hdd];congr 1;omega
  refine T.jp (ι:=Bool × zab) (λp=>p=(zhj m dd,zab.mk (zcl.mk s k))) (λJ h=>T.br (λh4=>h _ ?_) λh4=>T.eq (hpk k (by omega) k2) (T.eq (clet _) (h _ ?_))) λp hp=>?_
  · rw [<- zrB hn1,<- hb38,h4];rfl
  · rw [<- zrB hn1,<- hb38,h4,hdk];rfl
  subst hp
  rw [f5]
  cases hbad:zhj m dd with
  | true=>exact T.br (λ_=>T.some rfl) λh=>by cases h
  | false =>
    refine T.br (λh=>by cases h) λ_=>T.some ?_
    simp only [zCf]
    have e1:(i:Int) + ((dg dd + (f - i).toNat:Nat):Int)=k:=by omega
    have e2:(s.b.drop i.toNat).take (dg dd + (f - i).toNat)=bif m then 45 :: dd.take (dg dd) else dd.take (dg dd):=by
      rw [<- htext,seg];congr 1;omega
    rw [e1,e2]
theorem zpk (s:Str) (hl:s.b.length <= 1000000) (k:Int) (k0:0 <= k) (k1:k <= s.b.length):zaj (zab.mk (zcl.mk s k)) 0=some (hd (s.b.drop k.toNat),zab.mk (zcl.mk s k)):=by
 rw [zj8 _ _ (by show 0 <= k + 0;omega) (by show k + 0 <= _;omega) hl]
 show some (hd (s.b.drop (k + 0).toNat),_)=_
 rw [Int.add_zero]
theorem peek1 (s:Str) (hl:s.b.length <= 1000000) (k:Int) (k0:0 <= k) (k1:k <= s.b.length):zaj (zab.mk (zcl.mk s k)) 1=some (hd (s.b.drop (k.toNat + 1)),zab.mk (zcl.mk s k)):=by
 rw [zj8 _ _ (by show 0 <= k + 1;omega) (by show k + 1 <= _;omega) hl]
 show some (hd (s.b.drop (k + 1).toNat),_)=_
 rw [show (k + 1).toNat=k.toNat + 1 by omega]

/-! ### Hexes -/
theorem zwW (b:List UInt8) (k:Nat):hx (b.drop k)=bif zfW (hd (b.drop k)) then hx (b.drop (k + 1)) + 1 else 0:=by
 rcases Nat.lt_or_ge k b.length with h | h
 ·obtain ⟨c,e⟩:=zi1 h
  rw [e];rfl
 ·rw [zDn h];rfl
theorem zyZ {b:List UInt8} {k:Nat} (h:zfW (hd (b.drop k))=true):k < b.length:=by
 rcases Nat.lt_or_ge k b.length with h2 | h2
 ·exact h2
 ·rw [zDn h2] at h;cases h
theorem chex (s:Str) (i:Int) (h0:0 <= i) (h1:i < s.b.length) (hl:s.b.length <= 1000000) :
    T (λr=>bif zeE (s.b.drop (i.toNat + 1)) then r.1=0 else r=((4:Int),Str.mk ((s.b.drop (i.toNat + 1)).take (hx (s.b.drop (i.toNat + 1)))),zab.mk (zcl.mk s (i + 1 + hx (s.b.drop (i.toNat + 1)) + 2)))) (zgg (zab.mk (zcl.mk s i))):=by
  unfold zgg
  have e0:(i + 1).toNat=i.toNat + 1:=by omega
  generalize hdd:s.b.drop (i.toNat + 1)=dd
  simp only
  refine T.ck (by omega) (T.eq (zpk s hl (i + 1) (by omega) (by omega)) ?_)
  refine T.lp (ι:=UInt8 × zab) (λq=>∃ k:Int,q=(hd (s.b.drop k.toNat),zab.mk (zcl.mk s k))/\i + 1 <= k/\k <= s.b.length/\(hx dd:Int)=k - (i + 1) + hx (s.b.drop k.toNat)) (λq=>(s.b.length - q.2.reader.at_).toNat) ⟨i + 1,rfl,zIl _,by omega,by rw [e0,hdd];omega⟩ (by dsimp only;omega) λL q hq hL=>?_
  obtain ⟨k,rfl,k1,k2,k3⟩:=hq
  simp only at hL ⊢
  have ek:(k + 1).toNat=k.toNat + 1:=by omega
  rw [zwW] at k3
  generalize hc:hd (s.b.drop k.toNat)=c at *
  refine T.eq (zvc c) (T.jp (λq=>q=zfW c) (λJ2 h3=>T.br (λh4=>h3 _ (by unfold zfW;rw [h4];rfl)) λh4=>?_) λq hq=>?_)
  · exact T.jp (λq=>q=(decide (65 <= c) && decide (c <= 70))) (λJ4 h5=>T.br (λh6=>h5 _ (by rw [h6];rfl)) λh6=>h5 _ (by rw [h6];rfl)) λq hq=>h3 _ (by unfold zfW;rw [h4,hq];rfl)
  subst hq
  refine T.br (λh3=>?_) λh3=>?_
  · have hlt:=zyZ (b:=s.b) (k:=k.toNat) (by rw [hc];exact h3)
    rw [h3,zCt] at k3
    exact T.ck (by omega) (T.eq (zpk s hl (k + 1) (by omega) (by omega)) (hL _ ⟨k + 1,rfl,by omega,by omega,by rw [ek];omega⟩ (by dsimp only;omega)))
  rw [h3,zCf] at k3
  have hn:hx dd=k.toNat - (i.toNat + 1):=by omega
  have hdl:dd.length=s.b.length - (i.toNat + 1):=by rw [<- hdd,zLd]
  have hlen:(dd.take (hx dd)).length=hx dd:=by rw [zLt];omega
  have hseg:(s.b.take k.toNat).drop (i + 1).toNat=dd.take (hx dd):=by rw [seg,e0,hdd,hn]
  have hdk:dd.drop (hx dd)=s.b.drop k.toNat:=by rw [<- hdd,List.drop_drop,hdd];congr 1;omega
  have hdk1:dd.drop (hx dd + 1)=s.b.drop (k.toNat + 1):=by rw [<- hdd,List.drop_drop,hdd];congr 1;omega
  refine T.asd ⟨by omega,k1,k2⟩ (T.asr rfl ?_)
  rw [hseg]
  simp only [hlen]
  have hmod:decide (((hx dd:Nat):Int).tmod 2=0)=decide (hx dd % 2=0):=by
    rw [decide_eq_decide,Int.tmod_eq_emod_of_nonneg (by omega)]
    omega
  refine T.jp (ι:=Bool × zab) (λp=>p=(zeE dd,zab.mk (zcl.mk s k))) (λJ h=>T.br (λh4=>h _ ?_) λh4=>T.eq (znY _ _ (by show 0 <= k;omega) k2) (h _ ?_)) λp hp=>?_
  · rw [hmod] at h4
    unfold zeE;rw [h4];rfl
  · rw [hmod] at h4
    unfold zeE
    rw [h4,hdk,hdk1]
    show (!zhO [39,72] (s.b.drop k.toNat),_)=_
    rw [zvR 39 72 _ (by decide) (by decide),List.drop_drop]
    cases decide (hd (s.b.drop k.toNat)=39) <;> cases decide (hd (s.b.drop (k.toNat + 1))=72) <;> rfl
  subst hp
  cases hb:zeE dd with
  | true=>exact T.br (λ_=>T.some rfl) λh=>by cases h
  | false =>
    refine T.br (λh=>by cases h) λ_=>T.ck (by dsimp only;omega) (T.some ?_)
    simp only [zCf]
    rw [show i + 1 + (hx dd:Int) + 2=k + 2 by omega]

/-! ### Strings -/
theorem ctext (s:Str) (i:Int) (h0:0 <= i) (h1:i < s.b.length) (hl:s.b.length <= 1000000) :
    T (λr=>match qd false (s.b.drop (i.toNat + 1)) [] with
      | none=>r.1=0
      | some (t,rest)=>r=((7:Int),Str.mk t,zab.mk (zcl.mk s ((s.b.length:Int) - (rest.length:Int))))) (zfC (zab.mk (zcl.mk s i))):=by
  unfold zfC
  have e0:(i + 1).toNat=i.toNat + 1:=by omega
  simp only
  refine T.ck (by omega) (T.lp (ι:=List UInt8 × zab) (λq=>∃ k:Int,q.2=zab.mk (zcl.mk s k)/\i + 1 <= k/\k <= s.b.length/\(q.1.length:Int) <= k/\qd false (s.b.drop (i.toNat + 1)) []=qd false (s.b.drop k.toNat) q.1) (λq=>(s.b.length - q.2.reader.at_).toNat) ⟨i + 1,rfl,zIl _,by omega,by simp only [zLn];omega,by rw [e0]⟩ (by dsimp only;omega) λL q hq hL=>?_)
  obtain ⟨o,g⟩:=q
  obtain ⟨k,rfl,k1,k2,k3,k4⟩:=hq
  simp only at k3 k4 hL ⊢
  rw [k4] at hL ⊢
  refine T.br (λh2=>?_) λh2=>T.some ?_
  rotate_left
  · have h2:=zOF h2
    rw [zDn (by omega)];rfl
  have h2:=zOT h2
  have ek:(k + 1).toNat=k.toNat + 1:=by omega
  obtain ⟨y,ey⟩:=zi1 (b:=s.b) (n:=k.toNat) (by omega)
  have hy:hd (s.b.drop k.toNat)=y:=by rw [ey];rfl
  refine T.eq (zpk s hl k (by omega) k2) ?_
  simp only [hy]
  refine T.jp (ι:=zab) (λg=>∃ j:Int,g=zab.mk (zcl.mk s j)/\k <= j/\j < s.b.length/\qd false (s.b.drop k.toNat) o=qd false (s.b.drop (j.toNat + 1)) (o ++ [hd (s.b.drop j.toNat)])) (λJ h=>?_) λg hg=>?_
  · refine T.br (λh3=>T.ck (by omega) (T.eq (zpk s hl (k + 1) (by omega) (by omega)) (T.br (λh4=>?_) λh4=>?_))) λh3=>h _ ⟨k,rfl,zIl _,h2,?_⟩
    · have hn:decide (hd (s.b.drop (k.toNat + 1))=34)=false:=by rw [<- ek];simpa using h4
      refine T.eq (zoX o (by omega)) (T.br (λh5=>T.some ?_) λh5=>T.some ?_)
      · have h5:Lib.validD o=false:=by simpa using h5
        rw [ey]
        simp only [qd,h3,zCt,hn,zCf,h5]
      · have h5:Lib.validD o=true:=by simpa using h5
        rw [ey]
        simp only [qd,h3,zCt,hn,zCf,h5,zLd]
        rw [show (s.b.length:Int) - ((s.b.length - (k.toNat + 1):Nat):Int)=k + 1 by omega]
    · have hn:hd (s.b.drop (k.toNat + 1))=34:=by rw [<- ek];simpa using h4
      have hlt:=zqL (b:=s.b) (n:=k.toNat + 1) (by rw [hn];decide)
      obtain ⟨c,ec⟩:=zi1 hlt
      refine h _ ⟨k + 1,rfl,by omega,by omega,?_⟩
      rw [ek,hn,ey]
      simp only [qd,h3,zCt,zDT hn]
      rw [ec];simp only [qd]
    · rw [hy,ey]
      simp only [qd,h3,zCf]
  obtain ⟨j,rfl,j1,j2,j3⟩:=hg
  have ej:(j + 1).toNat=j.toNat + 1:=by omega
  refine T.eq (zpk s hl j (by omega) (by omega)) ?_
  refine T.abl (by simp only [zLs];omega) (T.ck (by dsimp only;omega) (hL _ ⟨j + 1,rfl,by omega,by omega,by dsimp only;rw [zLa,zLs];omega,?_⟩ (by dsimp only;omega)))
  rw [ej,j3]

/-! ### Signs -/
theorem zxQ:∀ w ∈ sgs,0 < w.length:=by decide
theorem csign (s:Str) (i:Int) (h0:0 <= i) (h1:i < s.b.length) (hl:s.b.length <= 1000000) :
    T (λr=>bif decide (0 < sg (s.b.drop i.toNat)) then r=((6:Int),Str.mk ((s.b.drop i.toNat).take (sg (s.b.drop i.toNat))),zab.mk (zcl.mk s (i + sg (s.b.drop i.toNat)))) else r.1=0) (zfJ (zab.mk (zcl.mk s i))):=by
  unfold zfJ
  have hdl:(s.b.drop i.toNat).length=s.b.length - i.toNat:=zLd
  generalize hdd:s.b.drop i.toNat=d at hdl ⊢
  refine T.lp (ι:=Int × zab) (λq=>q.2=zab.mk (zcl.mk s i)/\0 <= q.1/\q.1 <= 13/\sgF (sgs.drop q.1.toNat) d=sg d) (λq=>(13 - q.1).toNat) ⟨rfl,zIl _,by dsimp only;omega,rfl⟩ (by dsimp only;omega) λL q hq hL=>?_
  obtain ⟨k,g⟩:=q
  obtain ⟨rfl,k1,k2,k3⟩:=hq
  simp only at k1 k2 k3 hL ⊢
  refine T.br (λh2=>?_) λh2=>T.some ?_
  rotate_left
  · have h2:¬ k < 13:=zOF h2
    have:k=13:=by omega
    subst this
    have e:sg d=0:=by rw [<- k3];rfl
    rw [e];rfl
  have h2:k < 13:=zOT h2
  refine T.get k1 h2 λy hy=>?_
  have hs:=zs5 hy
  have hpos:0 < y.b.length:=zxQ y.b (by
    have:y.b ∈ sgs.drop k.toNat:=by rw [hs];exact zMs ..
    exact List.mem_of_mem_drop this)
  rw [hs] at k3
  unfold sgF at k3
  refine T.eq (znY _ y h0 (by show i <= (s.b.length:Int);omega)) ?_
  simp only [hdd]
  have e:(k + 1).toNat=k.toNat + 1:=by omega
  refine T.br (λh3=>?_) λh3=>T.ck (by omega) (hL _ ⟨rfl,by dsimp only;omega,by dsimp only;omega,?_⟩ (by dsimp only;omega))
  · obtain ⟨p1,p2⟩:=(zhy _ _).1 h3
    rw [h3,zCt] at k3
    refine T.ck (by omega) (T.some ?_)
    rw [<- k3,zDT hpos,zCt,p2]
  · rw [h3,zCf] at k3
    rw [e,k3]

/-! ### One -/
theorem zt5 {b t r:List UInt8} {k:Int} (h:ziO b=some (k,t,r)):k ≠ 0:=by
 unfold ziO at h
 simp only at h
 cases h1:zbv (hd b) with
 | true =>
  rw [h1,zCt] at h
  cases h2:zhI b with
  | true=>rw [h2] at h;cases h
  | false =>
   rw [h2] at h
   simp only [zCf,Option.some.injEq,Prod.mk.injEq] at h
   rw [<- h.1]
   cases zi8 (b.take (nm b)) <;> cases decide (hd b <= 90) <;> decide
 | false =>
  rw [h1,zCf] at h
  cases h2:za8 (hd b) || (decide (hd b=45) && za8 (hd (b.drop 1))) with
  | true =>
   rw [h2,zCt] at h
   cases h3:ze9 b with
   | none=>rw [h3] at h;cases h
   | some n =>
    rw [h3] at h
    simp only [Option.some.injEq,Prod.mk.injEq] at h
    rw [<- h.1];decide
  | false =>
   rw [h2,zCf] at h
   by_cases h3:hd b=39
   ·rw [zDT h3,zCt] at h
    cases h4:zeE (b.drop 1) with
    | true=>rw [h4] at h;cases h
    | false =>
     rw [h4] at h
     simp only [zCf,Option.some.injEq,Prod.mk.injEq] at h
     rw [<- h.1];decide
   ·rw [zDF h3,zCf] at h
    by_cases h4:hd b=34
    ·rw [zDT h4,zCt] at h
     cases h5:qd false (b.drop 1) [] with
     | none=>rw [h5] at h;cases h
     | some q =>
      rw [h5] at h
      simp only [Option.some.injEq,Prod.mk.injEq] at h
      rw [<- h.1];decide
    ·rw [zDF h4,zCf] at h
     by_cases h5:0 < sg b
     ·rw [zDT h5,zCt] at h
      simp only [Option.some.injEq,Prod.mk.injEq] at h
      rw [<- h.1];decide
     ·rw [zDF h5] at h;cases h
theorem zzt (s:Str) (i:Int) (h0:0 <= i) (h1:i < s.b.length) (hl:s.b.length <= 1000000) :
    T (λr=>match ziO (s.b.drop i.toNat) with
      | none=>r.1=0
      | some (k,t,rest)=>r=(k,Str.mk t,zab.mk (zcl.mk s ((s.b.length:Int) - (rest.length:Int))))) (zfg (zab.mk (zcl.mk s i))):=by
  unfold zfg
  have ed1:(s.b.drop i.toNat).drop 1=s.b.drop (i.toNat + 1):=by rw [List.drop_drop]
  have elen:(s.b.drop i.toNat).length=s.b.length - i.toNat:=zLd
  have erest:∀ (n:Nat),n <= (s.b.drop i.toNat).length->i + (n:Int)=(s.b.length:Int) - (((s.b.drop i.toNat).drop n).length:Int):=λn hn=>by
    rw [zLd,elen];rw [elen] at hn;omega
  refine T.eq (zpk s hl i h0 (by omega)) (T.eq (clet _) ?_)
  unfold ziO
  simp only
  refine T.br (λhle=>?_) λhle=>T.eq (zvc _) ?_
  · rw [hle,zCt]
    refine T.cal (cname (zab.mk (zcl.mk s i)) h0 h1 hl hle) λr _ hr=>T.some ?_
    simp only at hr
    cases hb:zhI (s.b.drop i.toNat) with
    | true=>rw [hb,zCt] at hr;exact hr
    | false =>
      rw [hb,zCf] at hr
      simp only [zCf]
      rw [hr,<- erest _ (zpf _)]
  · rw [hle, zCf]
    refine T.jp (ι:=Bool × zab) (λp=>p=(za8 (hd (s.b.drop i.toNat)) || (decide (hd (s.b.drop i.toNat)=45) && za8 (hd ((s.b.drop i.toNat).drop 1))),zab.mk (zcl.mk s i))) (λJ2 h2=>T.br (λh3=>h2 _ (by rw [h3];rfl)) λh3=>?_) λp hp=>?_
    · refine T.jp (ι:=Bool × zab) (λp=>p=(decide (hd (s.b.drop i.toNat)=45) && za8 (hd ((s.b.drop i.toNat).drop 1)),zab.mk (zcl.mk s i))) (λJ3 h4=>T.br (λh5=>T.eq (peek1 s hl i h0 (by omega)) (T.eq (zvc _) (h4 _ (by rw [h5,ed1];rfl)))) λh5=>h4 _ (by rw [h5];rfl)) λp hp=>h2 _ (by rw [h3,hp];rfl)
    subst hp
    simp only
    refine T.br (λh3=>?_) λh3=>?_
    · rw [h3,zCt]
      have hp:za8 (hd (s.b.drop i.toNat))=true \/ (hd (s.b.drop i.toNat)=45/\za8 (hd (s.b.drop (i.toNat + 1)))=true):=by
        rw [ed1] at h3
        rcases Bool.or_eq_true_iff.1 h3 with h | h
        · exact .inl h
        · exact .inr ⟨zOT (Bool.and_eq_true_iff.1 h).1,(Bool.and_eq_true_iff.1 h).2⟩
      refine T.cal (zym s i h0 h1 hl hp) λr _ hr=>T.some ?_
      cases hn:ze9 (s.b.drop i.toNat) with
      | none=>rw [hn] at hr;exact hr
      | some n =>
        rw [hn] at hr
        simp only at hr ⊢
        rw [hr,<- erest n (zmI hn).2]
    · rw [h3,zCf]
      refine T.br (λh4=>?_) λh4=>?_
      · rw [h4,zCt,ed1]
        refine T.cal (chex s i h0 h1 hl) λr _ hr=>T.some ?_
        cases hb:zeE (s.b.drop (i.toNat + 1)) with
        | true=>rw [hb,zCt] at hr;exact hr
        | false =>
          rw [hb,zCf] at hr
          simp only [zCf]
          have h5:hx (s.b.drop (i.toNat + 1)) + 1 < (s.b.drop (i.toNat + 1)).length:=by
            unfold zeE at hb
            have:=(Bool.or_eq_false_iff.1 hb).2
            have h72:hd ((s.b.drop (i.toNat + 1)).drop (hx (s.b.drop (i.toNat + 1)) + 1))=72:=by simpa using this
            exact zqL (by rw [h72];decide)
          rw [zLd] at h5
          rw [hr,zLd,zLd]
          have e:i + 1 + (hx (s.b.drop (i.toNat + 1)):Int) + 2=(s.b.length:Int) - ((s.b.length - (i.toNat + 1) - (hx (s.b.drop (i.toNat + 1)) + 2):Nat):Int):=by omega
          rw [e]
      · rw [h4,zCf]
        refine T.br (λh5=>?_) λh5=>?_
        · rw [h5,zCt,ed1]
          refine T.cal (ctext s i h0 h1 hl) λr _ hr=>T.some ?_
          cases hq:qd false (s.b.drop (i.toNat + 1)) [] with
          | none=>rw [hq] at hr;exact hr
          | some q =>
            obtain ⟨t,rest⟩:=q
            rw [hq] at hr
            simp only at hr ⊢
            rw [hr]
        · rw [h5,zCf]
          refine T.cal (csign s i h0 h1 hl) λr _ hr=>T.some ?_
          cases hb:decide (0 < sg (s.b.drop i.toNat)) with
          | false=>rw [hb,zCf] at hr;exact hr
          | true =>
            rw [hb,zCt] at hr
            simp only [zCt]
            rw [hr,<- erest (sg (s.b.drop i.toNat)) (ztu sgs _)]

/-! ### All -/
theorem zxb (s:Str):ziK s=some (toks s.b):=by
 refine tx ?_
 unfold ziK toks
 refine T.br (λh=>T.some ?_) λh=>?_
 ·have h:=zOT h
  rw [zDT (show 8000 < s.b.length by omega)];rfl
 have hl:=zOF h
 rw [zDF (show ¬ 8000 < s.b.length by omega),zCf]
 have hskip:∀ k:Int,0 <= k->k <= s.b.length->T (λr=>r=zab.mk (zcl.mk s ((s.b.length:Int) - ((wh .out (s.b.drop k.toNat)).length:Int)))) (zdT (zab.mk (zcl.mk s k))):=λk k0 k1=>by
  refine (zyc (zab.mk (zcl.mk s k)) k0 k1 (by show s.b.length <= _;omega)).mono λr hr=>?_
  obtain ⟨⟨s',j⟩⟩:=r
  obtain ⟨r1,r2⟩:=hr
  simp only at r1 r2
  rw [r1,r2]
 refine T.cal (hskip 0 (by omega) (by omega)) λy2 _ hy2=>?_
 subst hy2
 refine T.lp (ι:=List zS × zab) (λq=>∃ (k:Int) (f:Nat) (b:List UInt8),q.2=zab.mk (zcl.mk s k)/\(q.1.length:Int) <= k/\k=(s.b.length:Int) - ((wh .out b).length:Int)/\wh .out b=s.b.drop k.toNat/\0 <= k/\b.length < f/\zjP s.b.length (s.b.length + 1) s.b []=zjP s.b.length f b q.1) (λq=>(s.b.length - q.2.reader.at_).toNat)
  ⟨_,s.b.length + 1,s.b,rfl,?_,rfl,?_,?_,by omega,rfl⟩ (by have:=zfX s.b .out;simp only [Int.toNat_zero,List.drop_zero];omega) λL q hq hL=>?_
 ·have:=zfX s.b .out
  simp only [zLn,Int.toNat_zero,List.drop_zero];omega
 ·obtain ⟨n,hn⟩:=zjh s.b .out
  have:=zkD hn
  have hwl:=zfX s.b .out
  simp only [Int.toNat_zero,List.drop_zero]
  rw [show ((s.b.length:Int) - ((wh .out s.b).length:Int)).toNat=s.b.length - (wh .out s.b).length by omega,this]
 ·have:=zfX s.b .out
  simp only [Int.toNat_zero,List.drop_zero];omega
 obtain ⟨l,g⟩:=q
 obtain ⟨k,f,b,rfl,h3,hk,hsw,k0,h4,h5⟩:=hq
 simp only at h3 h5 hL ⊢
 rw [h5] at hL ⊢
 cases f with
 | zero=>omega
 | succ f =>
  rw [ziI] at hL ⊢
  cases hwh:wh .out b with
  | nil =>
   rw [hwh] at hk
   simp only [hwh] at hL ⊢
   have hk:k=(s.b.length:Int):=by simpa using hk
   refine T.br (λh6=>by have:=zOT h6;omega) λ_=>T.abl (by simp only [zLc,zLn];omega) (T.some rfl)
  | cons c r =>
   rw [hwh] at hk hsw
   simp only [hwh] at hL ⊢ 
   have hcl:0 < (c :: r).length:=by simp
   have hwl:=zfX b .out
   rw [hwh] at hwl
   refine T.br (λ_=>?_) λh6=>by have:=zOF h6;omega
   refine T.cal (zzt s k k0 (by omega) (by omega)) λq _ hq=>?_
   rw [<- hsw] at hq
   cases ho:ziO (c :: r) with
   | none =>
    rw [ho] at hq
    simp only [ho] at hL ⊢
    simp only at hq
    rw [hq]
    exact T.br (λ_=>T.some (by rw [hk])) λh7=>by have:=zOF h7;omega
   | some p =>
    obtain ⟨kd,t,r'⟩:=p
    rw [ho] at hq
    simp only [ho] at hL ⊢
    simp only at hq
    subst hq
    have hol:=zmx ho
    obtain ⟨no,hso⟩:=zrn ho
    have hso2:r'=s.b.drop (k.toNat + no):=by rw [hso,<- List.drop_drop,<- hsw]
    have hsd:=zkD hso2
    have hrl:r'.length <= s.b.length:=by rw [hso2,zLd];omega
    refine T.br (λh7=>absurd (zOT h7) (zt5 ho)) λ_=>T.abl (by simp only [zLc,zLn];omega) (T.cal (hskip _ (by omega) (by omega)) λy _ hy=>?_)
    subst hy
    have e1:((s.b.length:Int) - (r'.length:Int)).toNat=s.b.length - r'.length:=by omega
    rw [e1,hsd]
    have hw2:=zfX r' .out
    obtain ⟨n2,hn2⟩:=zjh r' .out
    rw [hso2,List.drop_drop,<- hso2] at hn2
    have hs2:=zkD hn2
    refine hL _ ⟨_,f,r',rfl,?_,rfl,?_,by omega,by omega,?_⟩ (by dsimp only;omega)
    ·dsimp only;rw [zLa,zLs];omega
    ·rw [show ((s.b.length:Int) - ((wh .out r').length:Int)).toNat=s.b.length - (wh .out r').length by omega,hs2]
    ·dsimp only;rw [hk]
def kt (t:zS):Int × List UInt8:=(t.kind,t.text.b)
theorem zzg {w x:List UInt8}:hd (w ++ x)=hd (w ++ [hd x]):=by
 cases w with
 | nil=>rfl
 | cons c w=>rfl

/-! ### Names -/
def znc:List UInt8->UInt8->Bool
 | [],_=>true
 | c :: w,d=>zc1 c (w ++ [d]) && znc w d
theorem zps {c:UInt8} {r s:List UInt8} (h:hd r=hd s):zc1 c r=zc1 c s:=by unfold zc1;rw [h]
def zyC (w:List UInt8):Int:=bif zi8 w then 5 else bif decide (hd w <= 90) then 1 else 2
def esc:List UInt8->List UInt8
 | []=>[]
 | c :: s=>if c=34 then 34 :: 34 :: esc s else c :: esc s
structure Ok (l:List zS) (m:zaA) (a:Int) (P:Prop) (y:zA):Prop where
 toks:zwx l
 yl:y.l=l
 ym:y.m=m
 a0:0 <= y.at_
 a1:y.at_ < l.length
 ok:y.e=0->P/\a <= y.at_
theorem Ok.to {l m a P y} {a':Int} {P':Prop} (h:Ok l m a P y) (k:y.e=0->P->a <= y.at_->P'/\a' <= y.at_):Ok l m a' P' y:=⟨h.toks,h.yl,h.ym,h.a0,h.a1,λe=>k e (h.ok e).1 (h.ok e).2⟩
theorem Ok.err {l m a P y} {a':Int} {P':Prop} (h:Ok l m a P y) (k:¬ y.e=0):Ok l m a' P' y:=h.to λe=>absurd e k

def Tk (x:zA) (t:zS):Prop:=x.l[x.at_.toNat]?=some t
theorem Tk.ok {l m a P x t} (h:Ok l m a P x) (ht:Tk x t):zqD 8000 t:=by
 unfold Tk at ht
 rw [h.yl] at ht
 exact h.toks.ok t (List.mem_of_getElem? ht)
theorem Tk.last {l m a P x t} (h:Ok l m a P x) (ht:Tk x t) (hk:t.kind ≠ 0):x.at_ + 1 < l.length:=by
 unfold Tk at ht
 rw [h.yl] at ht
 obtain ⟨m',e,h1,h2,h3⟩:=h.toks.last
 rcases Nat.lt_or_ge (x.at_.toNat + 1) l.length with h4 | h4
 ·have:=h.a0;omega
 ·exfalso
  have h5:=h.a1
  have h6:=h.a0
  have h7:x.at_.toNat=m'.length:=by rw [h1] at h4 h5;simp only [zLa,zLs] at h4 h5;omega
  rw [h1,h7,List.getElem?_append_right (zNl _)] at ht
  simp at ht
  subst ht
  exact hk h2

theorem zgn {l m a P x} (h:Ok l m a P x):T (λr=>Tk x r.1/\r.2=x) (zaD x):=by
 unfold zaD
 refine T.get h.a0 (by rw [h.yl];exact h.a1) λy hy=>T.some ⟨hy,rfl⟩
theorem zhb {l m a P x} (e:Int) (t:zS) (h:Ok l m a P x) (he:e ≠ 0):T (λr=>Ok l m a P r/\r.e ≠ 0) (za4 x e t):=by
 unfold za4
 refine T.br (λh1=>T.some ⟨⟨h.toks,h.yl,h.ym,h.a0,h.a1,λh2=>absurd h2 he⟩,he⟩) λh1=>T.some ⟨h,zOF h1⟩
theorem zmC {l m a P x} (h:Ok l m a P x):T (λr=>Tk x r.1/\Ok l m a P r.2/\(r.1.kind ≠ 0->r.2.at_=x.at_ + 1)/\r.2.e=x.e) (zbA x):=by
 unfold zbA
 have hl:=h.toks.len
 have h1:=h.a0
 have h2:=h.a1
 refine T.get h.a0 (by rw [h.yl];exact h.a1) λy hy=>T.ck (by omega) (T.jp (λr=>Ok l m a P r/\(y.kind ≠ 0->r.at_=x.at_ + 1)/\r.e=x.e) (λJ k=>T.br (λh3=>?_) λh3=>k _ ?_) λq hq=>T.some ⟨hy,hq⟩)
 ·have h3:=zOT h3
  rw [h.yl] at h3
  refine T.ck (by omega) (k _ ⟨⟨h.toks,h.yl,h.ym,by dsimp only;omega,h3,λe=>?_⟩,λ_=>rfl,rfl⟩)
  have:=h.ok e
  exact ⟨this.1,by dsimp only;omega⟩
 ·have h3:=zOF h3
  rw [h.yl] at h3
  exact ⟨h,λhk=>absurd (Tk.last h hy hk) h3,rfl⟩
theorem zkN {l m a P x} (k:Int) (hk:1 <= k) (h:Ok l m a P x):T (λr=>Ok l m a P r.2/\(r.2.e=0->x.e=0/\r.2.at_=x.at_ + 1/\∃ t,Tk x t/\t.kind=k/\r.1=t.text)/\(r.2.e ≠ 0->r.1=⟨[]⟩)) (zbB x k):=by
 unfold zbB
 refine T.cal (zgn h) λ⟨t,x'⟩ _ ⟨ht,hx⟩=>?_
 subst hx
 dsimp only at ht ⊢
 refine T.jp (λb=>b=false->x'.e=0/\t.kind=k) (λJ h1=>T.br (λ_=>h1 _ λh=>by cases h) λh2=>h1 _ λh3=>⟨by simpa using h2,by simpa using h3⟩) λb hb=>T.br (λ_=>?_) λh2=>?_
 ·exact T.cal (zhb _ _ h (by decide)) λy _ hy=>T.some ⟨hy.1,λe=>absurd e hy.2,λ_=>rfl⟩
 ·obtain ⟨h3,h4⟩:=hb h2
  refine T.cal (zmC h) λy _ hy=>T.some ⟨hy.2.1,λe=>⟨h3,?_,t,ht,h4,?_⟩,λe=>absurd (hy.2.2.2.trans h3) e⟩
  ·have:y.1=t:=by have:=hy.1;unfold Tk at this ht;rw [ht] at this;cases this;rfl
   exact hy.2.2.1 (by rw [this];omega)
  ·have:y.1=t:=by have:=hy.1;unfold Tk at this ht;rw [ht] at this;cases this;rfl
   rw [this]
theorem zcr {l m a P x} (s:Str) (h:Ok l m a P x):T (λr=>Ok l m a P r.2/\r.2.e=x.e/\(r.1=true->x.e=0/\r.2.at_=x.at_ + 1)/\(r.1=false->r.2=x)) (zE x s):=by
 unfold zE
 refine T.cal (zgn h) λ⟨t,x'⟩ _ ⟨ht,hx⟩=>?_
 subst hx
 dsimp only at ht ⊢
 refine T.jp (λb=>b=true->x'.e=0/\t.kind ≠ 0) (λJ h1=>T.br (λh2=>?_) λ_=>h1 _ λh=>by cases h) λb hb=>?_
 ·have h2:=zOT h2
  refine T.jp (λb=>b=true->t.kind ≠ 0) (λJ h3=>T.br (λh4=>h3 _ λ_=>by have:=zOT h4;omega) λ_=>h3 _ λh=>by have:=zOT h;omega) λb hb=>h1 _ λh=>⟨h2,hb h⟩
 ·refine T.jp (λb=>b=true->x'.e=0/\t.kind ≠ 0) (λJ h1=>T.br (λh2=>h1 _ λ_=>hb h2) λ_=>h1 _ λh=>by cases h) λb2 hb2=>T.br (λh2=>?_) λ_=>T.some ⟨h,rfl,(λh=>by cases h),λ_=>rfl⟩
  obtain ⟨h3,h4⟩:=hb2 h2
  refine T.cal (zmC h) λy _ hy=>T.some ⟨hy.2.1,hy.2.2.2,λ_=>⟨h3,?_⟩,λh=>by cases h⟩
  have:y.1=t:=by have:=hy.1;unfold Tk at this ht;rw [ht] at this;cases this;rfl
  exact hy.2.2.1 (by rw [this];exact h4)
theorem zcB {l m a P x} (s:Str) (h:Ok l m a P x):T (λr=>Ok l m a P r/\(r.e=0->x.e=0/\r.at_=x.at_ + 1)) (zP x s):=by
 unfold zP
 refine T.jp (λq=>Ok l m a P q.2/\(q.2.e=0->x.e=0)/\(q.1=false->q.2.e=0->q.2.at_=x.at_ + 1)) (λJ h1=>T.br (λh2=>T.cal (zcr s h) λy _ hy=>h1 _ ⟨hy.1,λ_=>zOT h2,λh3 _=>(hy.2.2.1 (by simpa using h3)).2⟩) λh2=>h1 _ ⟨h,λh=>h,λ_ h3=>absurd h3 (zOF h2)⟩) λq hq=>T.br (λh2=>?_) λh2=>T.some ⟨hq.1,λh3=>⟨hq.2.1 h3,hq.2.2 h2 h3⟩⟩
 refine T.cal (zgn hq.1) λ⟨t,x'⟩ _ ⟨ht,hx⟩=>?_
 subst hx
 exact T.cal (zhb _ _ hq.1 (by decide)) λy _ hy=>T.some ⟨hy.1,λe=>absurd e hy.2⟩
theorem zsK (t:zS):T (λ_=>True) (zio t):=by
 unfold zio
 refine T.lp (λ(k:Int)=>0 <= k) (λ(k:Int)=>(10 - k).toNat) (zIl _) (by omega) λL k hk hL=>?_
 refine T.br (λh2=>?_) λ_=>T.some trivial
 have h2:k < 10:=zOT h2
 refine T.get hk h2 λy _=>T.jp (λ_=>True) (λJ h3=>T.br (λ_=>T.jp (λ_=>True) (λJ4 h4=>T.br (λ_=>h4 _ trivial) λ_=>h4 _ trivial) λ_ _=>h3 _ trivial) λ_=>h3 _ trivial) λq _=>T.br (λ_=>T.some trivial) λ_=>T.ck (by omega) (hL _ (by omega) (by omega))
theorem zpx (s:Str) (h:zpD s.b):T (λr=>-9223372036854775808 <= r/\r <= 9223372036854775807) (zfj s):=by
 obtain ⟨ds,hd,hne,hlen,hv⟩:=h
 unfold zfj
 have hlb:s.b.length <= 20/\0 < s.b.length:=by
  have:0 < ds.length:=List.length_pos_iff.2 hne
  rcases hv with ⟨h1,_⟩ | ⟨h1,_⟩
  ·rw [h1];omega
  ·rw [h1];simp only [zLc];omega
 refine T.get (zIl _) (by omega) λy1 hy1=>?_
 refine T.jp (λq=>q.b=ds/\(y1=45->1 <= zdH ds/\zdH ds <= 9223372036854775808)/\(y1 ≠ 45->zdH ds < 9223372036854775808)) (λJ k=>T.br (λh1=>?_) λh1=>k _ ?_) λq hq=>?_
 ·have h1:=zOT h1
  refine T.asd (by omega) (k _ ?_)
  rcases hv with ⟨h2,h3⟩ | ⟨h2,h3⟩
  ·exfalso
   rw [h2] at hy1
   have:=zd0 (hd y1 (List.mem_of_getElem? hy1))
   rw [h1] at this
   have e:(45:UInt8).toNat=45:=rfl
   omega
  ·refine ⟨?_,λ_=>h3,λh=>absurd h1 h⟩
   dsimp only
   rw [h2]
   simp
 ·have h1:=zOF h1
  rcases hv with ⟨h2,h3⟩ | ⟨h2,h3⟩
  ·exact ⟨h2,λh=>absurd h h1,λ_=>h3⟩
  ·rw [h2] at hy1
   simp at hy1
   exact absurd hy1.symm h1
 ·obtain ⟨q1,q2,q3⟩:=hq
  refine T.lp (λ(p:UInt64 × Int)=>0 <= p.2/\p.2 <= (ds.length:Int)/\p.1=zku (ds.take p.2.toNat)) (λ(p:UInt64 × Int)=>((ds.length:Int) - p.2).toNat) ⟨zIl _,by dsimp only;omega,rfl⟩ (by dsimp only;omega) λL p hp hL=>?_
  obtain ⟨v,k⟩:=p
  obtain ⟨p1,p2,p3⟩:=hp
  dsimp only at p1 p2 p3 ⊢
  rw [q1]
  refine T.br (λh1=>?_) λh1=>?_
  ·have h1:=zOT h1
   refine T.get p1 h1 λy hy=>T.ck (by omega) (hL _ ⟨by dsimp only;omega,by dsimp only;omega,?_⟩ (by dsimp only;omega))
   have e:(k + 1).toNat=k.toNat + 1:=by omega
   dsimp only
   rw [e,List.take_add_one,hy,Option.toList_some,zjE,p3]
  ·have h1:=zOF h1
   rw [zTl (by omega)] at p3
   have hn:=zlg ds hd hlen
   rw [<- p3] at hn
   refine T.br (λh2=>?_) λh2=>?_
   ·have h3:=q2 (zOT h2)
    have e:(v - 1).toNat=zdH ds - 1:=by
     have e1:(1:UInt64).toNat=1:=rfl
     rw [UInt64.toNat_sub_of_le v 1 (by rw [UInt64.le_iff_toNat_le,e1];omega),e1,hn]
    rw [e]
    exact T.ck (by omega) (T.ck (by omega) (T.ck (by omega) (T.some (by omega))))
   ·have h3:=q3 (zOF h2)
    exact T.ck (by omega) (T.some (by omega))
theorem zli {l m a P x} (h:Ok l m a P x):T (λr=>Ok l m a P r.2/\(r.2.e=0->x.e=0/\r.2.at_=x.at_ + 1)/\-9223372036854775808 <= r.1/\r.1 <= 9223372036854775807) (zb6 x):=by
 unfold zb6
 refine T.cal (zkN 3 (by decide) h) λr _ hr=>T.br (λh2=>T.some ⟨hr.1,λe=>⟨(hr.2.1 e).1,(hr.2.1 e).2.1⟩,by dsimp only;omega,by dsimp only;omega⟩) λh2=>?_
 have h2:=zOF h2
 by_cases he:r.2.e=0
 ·obtain ⟨h3,h4,t,h5,h6,h7⟩:=hr.2.1 he
  refine T.cal (zpx r.1 (by rw [h7];exact (Tk.ok h h5).num h6)) λv _ hv=>T.some ⟨hr.1,λe=>⟨h3,h4⟩,hv⟩
 ·exact absurd (hr.2.2 he) h2
theorem zot {l m a P x} (h:Ok l m a P x):T (λr=>Ok l m a P r.2/\(r.2.e=0->x.e=0)) (zcI x):=by
 unfold zcI
 refine T.cal (zcr _ h) λr _ hr=>T.jp (λq=>Ok l m a P q.1/\(q.1.e=0->x.e=0)) (λJ k=>T.br (λ_=>T.cal (zli hr.1) λs _ hs=>k _ ⟨hs.1,λe=>hr.2.1 ▸ (hs.2.1 e).1⟩) λ_=>k _ ⟨hr.1,λe=>hr.2.1 ▸ e⟩) λq hq=>?_
 refine T.jp (λq=>Ok l m a P q.1/\(q.1.e=0->x.e=0)) (λJ k=>T.cal (zcr _ hq.1) λs _ hs=>T.br (λ_=>T.cal (zcr _ hs.1) λu _ hu=>T.br (λ_=>T.cal (zli hu.1) λv _ hv=>k _ ⟨hv.1,λe=>hq.2 (hs.2.1 ▸ hu.2.1 ▸ (hv.2.1 e).1)⟩) λ_=>k _ ⟨hu.1,λe=>hq.2 (hs.2.1 ▸ hu.2.1 ▸ e)⟩) λ_=>T.br (λ_=>k _ ⟨hs.1,λe=>hq.2 (hs.2.1 ▸ e)⟩) λ_=>k _ ⟨hs.1,λe=>hq.2 (hs.2.1 ▸ e)⟩) λq2 hq2=>?_
 refine T.cal (zcr _ hq2.1) λs _ hs=>T.jp (λq=>Ok l m a P q.1/\(q.1.e=0->x.e=0)) (λJ k=>T.br (λ_=>T.cal (zcB _ hs.1) λu _ hu=>k _ ⟨hu.1,λe=>hq2.2 (hs.2.1 ▸ (hu.2 e).1)⟩) λ_=>k _ ⟨hs.1,λe=>hq2.2 (hs.2.1 ▸ e)⟩) λq3 hq3=>T.some hq3
theorem znD {l m a P x} (h:Ok l m a P x):T (λr=>Ok l m a P r.2/\(r.2.e=0->x.e=0)) (zcN x):=by
 unfold zcN
 refine T.cal (zcr _ h) λr _ hr=>T.br (λ_=>T.some ⟨hr.1,λe=>hr.2.1 ▸ e⟩) λ_=>?_
 refine T.cal (zcB _ hr.1) λy1 _ h1=>T.cal (zcB _ h1.1) λy2 _ h2=>T.cal (zot h2.1) λy3 _ h3=>T.cal (zcB _ h3.1) λy4 _ h4=>T.cal (zcB _ h4.1) λy5 _ h5=>T.some ⟨h5.1,λe=>?_⟩
 exact hr.2.1 ▸ (h1.2 (h2.2 (h3.2 (h4.2 (h5.2 e).1).1)).1).1

def I64 (x:Int):Prop:=-9223372036854775808 <= x/\x <= 9223372036854775807
def IOk (n:zh):Prop:=(∀ it ∈ n.items,I64 it.number)/\(n.more=true->0 <= n.root/\n.root <= n.items.length)
structure ztv (n n':zh):Prop where
 kind:n'.kind=n.kind
 fields:n'.fields=n.fields
 of:n'.of=n.of
theorem ztW {l m a P x} (n:zh) (h:Ok l m a P x) (hn:n.items=[]) (hm:n.more=false):T (λr=>Ok l m a P r.1/\(r.1.e=0->x.e=0)/\ztv n r.2/\(∀ it ∈ r.2.items,I64 it.number)/\0 <= r.2.root/\r.2.root <= r.2.items.length/\r.2.items.length <= 8001) (zdl x n):=by
 unfold zdl
 have hl:=h.toks.len
 refine T.jp (λq=>Ok l m a P q.1/\(q.1.e=0->x.e=0)/\ztv n q.2/\IOk q.2/\q.2.items.length <= 8001) (λJ k=>?_) λq hq=>T.br (λ_=>T.some ⟨hq.1,hq.2.1,⟨hq.2.2.1.kind,hq.2.2.1.fields,hq.2.2.1.of⟩,hq.2.2.2.1.1,by dsimp only;omega,zIl _,hq.2.2.2.2⟩) λhm2=>T.some ⟨hq.1,hq.2.1,hq.2.2.1,hq.2.2.2.1.1,(hq.2.2.2.1.2 (by simpa using hm2)).1,(hq.2.2.2.1.2 (by simpa using hm2)).2,hq.2.2.2.2⟩
 have ha0:=h.a0
 have ha1:=h.a1
 refine T.lp (λ(q:zA × zh)=>Ok l m a P q.1/\(q.1.e=0->x.e=0)/\ztv n q.2/\(q.2.items.length:Int) <= q.1.at_/\IOk q.2) (λ(q:zA × zh)=>((l.length:Int) - q.1.at_).toNat) ⟨h,λe=>e,⟨rfl,rfl,rfl⟩,by dsimp only;rw [hn];simpa using ha0,by dsimp only;rw [hn];simp,λh=>by dsimp only at h;rw [hm] at h;cases h⟩ (by dsimp only;omega) λL q hq hL=>?_
 obtain ⟨y,n1⟩:=q
 obtain ⟨h1,h2,h3,h4,h5⟩:=hq
 dsimp only at h1 h2 h3 h4 h5 ⊢
 refine T.br (λhe=>?_) λ_=>k _ ⟨h1,h2,h3,h5,by have:=h1.a1;dsimp only;omega⟩
 have he:=zOT he
 refine T.jp (λ_=>True) (λJ2 k2=>T.br (λ_=>k2 _ trivial) λ_=>k2 _ trivial) λb _=>?_
 refine T.jp (λ(q:Bool × zA)=>Ok l m a P q.2/\q.2.e=y.e/\(q.1=true->q.2.at_=y.at_ + 1)/\(q.1=false->q.2.at_=y.at_)) (λJ3 k3=>T.br (λ_=>T.cal (zcr _ h1) λr _ hr=>k3 _ ⟨hr.1,hr.2.1,λe=>(hr.2.2.1 e).2,λe=>by rw [hr.2.2.2 e]⟩) λ_=>k3 _ ⟨h1,rfl,(λh=>by cases h),λ_=>rfl⟩) λq3 hq3=>?_
 refine T.jp (λ(q:zA × zh)=>Ok l m a P q.1/\(q.1.e=0->q.1.at_ ≥ y.at_ + 1)/\ztv n q.2/\(q.2.items.length:Int) <= y.at_ + 1/\IOk q.2) (λJ4 k4=>T.br (λhb=>k4 _ ⟨hq3.1,λ_=>by dsimp only;rw [hq3.2.2.1 hb];omega,⟨h3.kind,h3.fields,h3.of⟩,by dsimp only;omega,h5.1,λ_=>⟨by dsimp only;omega,zIl _⟩⟩) λhb=>?_) λq4 hq4=>?_
 ·have hq5:=hq3.2.2.2 hb
  refine T.cal (zkN 2 (by decide) hq3.1) λr _ hr=>T.cal (zcr _ hr.1) λs _ hs=>T.jp (λ(q:zA × zai)=>Ok l m a P q.1/\(q.1.e=0->r.2.e=0/\q.1.at_ ≥ r.2.at_)/\I64 q.2.number) (λJ5 k5=>T.br (λhb2=>T.cal (zli hs.1) λu _ hu=>T.cal (zcB _ hu.1) λw _ hw=>k5 _ ⟨hw.1,λe=>?_,hu.2.2⟩) λhb2=>k5 _ ⟨hs.1,λe=>⟨hs.2.1 ▸ e,by dsimp only;rw [hs.2.2.2 hb2];omega⟩,by unfold I64;dsimp only;omega⟩) λq5 hq5'=>T.abl ?_ (k4 _ ⟨hq5'.1,λe=>?_,⟨h3.kind,h3.fields,h3.of⟩,?_,?_,?_⟩)
  ·have e1:=hw.2 e
   have e2:=hu.2.1 e1.1
   have e3:=hs.2.2.1 hb2
   exact ⟨e3.1,by dsimp only at e ⊢;omega⟩
  ·have h9:=h1.a1
   simp only [zLs];omega
  ·have e1:=hq5'.2.1 e
   have e2:=hr.2.1 e1.1
   dsimp only at e ⊢
   omega
  ·simp only [zLa,zLs];omega
  ·intro it hit
   rcases List.mem_append.1 hit with h | h
   ·exact h5.1 it h
   ·rw [zMo.1 h];exact hq5'.2.2
  ·intro hmo
   have:=h5.2 hmo
   simp only [zLa,zLs]
   omega
 ·refine T.cal (zcr _ hq4.1) λr _ hr=>T.br (λhb=>k _ ⟨hr.1,λ_=>h2 he,hq4.2.2.1,hq4.2.2.2.2,by have:=h1.a1;have:=hq4.2.2.2.1;dsimp only;omega⟩) λhb=>?_
  have hb:r.1=true:=by simpa using hb
  have e1:=hr.2.2.1 hb
  have e2:=hq4.2.1 e1.1
  have e3:=hr.1.a1
  exact hL _ ⟨hr.1,λ_=>h2 he,hq4.2.2.1,by dsimp only;omega,hq4.2.2.2.2⟩ (by dsimp only;omega)
theorem zwM (s:Str) (hl:s.b.length <= 1000000):T (λr=>r.length <= s.b.length) (zhf s):=by
 unfold zhf
 refine T.lp (λ(q:List UInt8 × Int)=>0 <= q.2/\q.2 <= (s.b.length:Int)/\(q.1.length:Int) <= q.2) (λ(q:List UInt8 × Int)=>((s.b.length:Int) - q.2).toNat) ⟨zIl _,by dsimp only;omega,by simp⟩ (by dsimp only;omega) λL q hq hL=>?_
 obtain ⟨o,i⟩:=q
 obtain ⟨h1,h2,h3⟩:=hq
 dsimp only at h1 h2 h3 ⊢
 refine T.ck (by omega) (T.br (λhb=>?_) λ_=>T.some (by omega))
 have hb:=zOT hb
 refine T.lp (λ(p:UInt8 × Int)=>i <= p.2/\p.2 <= i + 2) (λ(p:UInt8 × Int)=>(i + 2 - p.2).toNat) ⟨zIl _,by dsimp only;omega⟩ (by dsimp only;omega) λL2 p hp hL2=>?_
 obtain ⟨v,k⟩:=p
 obtain ⟨h4,h5⟩:=hp
 dsimp only at h4 h5 ⊢
 refine T.ck (by omega) (T.br (λhb2=>?_) λhb2=>?_)
 ·have hb2:=zOT hb2
  refine T.get (by omega) (by omega) λy _=>T.get (by omega) (by omega) λy2 _=>T.jp (λ_=>True) (λJ h6=>T.br (λ_=>T.get (by omega) (by omega) λ_ _=>h6 _ trivial) λ_=>h6 _ trivial) λu _=>T.asr (by decide) (T.ck (by omega) (hL2 _ ⟨by dsimp only;omega,by dsimp only;omega⟩ (by dsimp only;omega)))
 ·refine T.abl ?_ (T.ck (by omega) (hL _ ⟨by dsimp only;omega,by dsimp only;omega,?_⟩ (by dsimp only;omega)))
  ·simp only [zLs];omega
  ·simp only [zLa,zLs];omega

def DOk (v:Val):Prop:=v.b.length <= 8000/\v.l=[]/\v.more=[]/\0 <= v.kind/\v.kind <= 6/\v.rule=0
theorem Tk.eq {x:zA} {t t':zS} (h:Tk x t) (h':Tk x t'):t'=t:=by unfold Tk at h h';rw [h] at h';cases h';rfl
theorem ztZ {l m a P x} (h:Ok l m a P x):T (λr=>Ok l m a P r.2/\DOk r.1) (zdk x):=by
 unfold zdk
 refine T.cal (zgn h) λ⟨t,x'⟩ _ ⟨ht,hx⟩=>?_
 subst hx
 dsimp only at ht ⊢
 refine T.jp (λy=>Ok l m a P y) (λJ k=>T.br (λ_=>k _ h) λ_=>?_) λy hy=>T.some ⟨hy,zNz _,rfl,rfl,zOT rfl,zOT rfl,rfl⟩
 refine T.cal (zcr _ h) λy1 _ h1=>T.br (λ_=>T.some ⟨h1.1,⟨zNz _,rfl,rfl,zOT rfl,zOT rfl,rfl⟩⟩) λb1=>?_
 refine T.cal (zcr _ h1.1) λy2 _ h2=>T.br (λ_=>T.some ⟨h2.1,⟨zNz _,rfl,rfl,zOT rfl,zOT rfl,rfl⟩⟩) λb2=>?_
 refine T.cal (zcr _ h2.1) λy3 _ h3=>T.br (λ_=>T.some ⟨h3.1,⟨zNz _,rfl,rfl,zOT rfl,zOT rfl,rfl⟩⟩) λb3=>?_
 have e:y3.2=x':=by rw [h3.2.2.2 b3,h2.2.2.2 b2,h1.2.2.2 b1]
 have htl:=(Tk.ok h ht).len
 have hnx:=zmC h3.1
 rw [e] at hnx
 refine T.br (λhk=>?_) λ_=>T.br (λhk=>?_) λ_=>T.br (λhk=>?_) λ_=>T.br (λhk=>?_) λ_=>?_
 ·rw [e]
  refine T.cal hnx λr _ hr=>T.cal (zpx r.1.text ?_) λv _ _=>T.some ⟨hr.2.1,zNz _,rfl,rfl,zOT rfl,zOT rfl,rfl⟩
  rw [Tk.eq ht hr.1];exact (Tk.ok h ht).num (zOT hk)
 ·rw [e]
  refine T.cal hnx λr _ hr=>T.abl ?_ (T.some ⟨hr.2.1,?_,rfl,rfl,zOT rfl,zOT rfl,rfl⟩)
  ·rw [Tk.eq ht hr.1];omega
  ·have h9:r.1.text.b.length <= 8000:=by rw [Tk.eq ht hr.1];omega
   exact h9
 ·rw [e]
  refine T.cal hnx λr _ hr=>T.cal (zwM r.1.text ?_) λv _ hv=>T.some ⟨hr.2.1,?_,rfl,rfl,zOT rfl,zOT rfl,rfl⟩
  ·rw [Tk.eq ht hr.1];omega
  ·have h9:v.length <= 8000:=by rw [Tk.eq ht hr.1] at hv;omega
   exact h9
 ·rw [e]
  refine T.cal hnx λr _ hr=>T.abl ?_ (T.some ⟨hr.2.1,?_,rfl,rfl,zOT rfl,zOT rfl,rfl⟩)
  ·rw [Tk.eq ht hr.1];omega
  ·have h9:r.1.text.b.length <= 8000:=by rw [Tk.eq ht hr.1];omega
   exact h9
 ·exact T.cal (zhb _ _ h3.1 (by decide)) λy _ hy=>k _ hy.1

def zeF (n:zh):List Int:=if n.kind=11 then [] else n.fields.map (λf=>f.ty) ++ (if n.kind=10 then [n.of] else [])
def zaK (S:Nat->Nat->Prop):List Int->Nat->Nat->Prop
 | [],a,b=>a=b
 | k :: r,a,b=>∃ c,k=(a:Int)/\S a c/\zaK S r c b
def Sub:Nat->List zh->Nat->Nat->Prop
 | 0,_,_,_=>False
 | h + 1,l,i,j=>∃ n,l[i]?=some n/\zaK (Sub h l) (zeF n) (i + 1) j
theorem zaK.le {S:Nat->Nat->Prop} (hS:∀ x y,S x y->x <= y):∀ {r a b},zaK S r a b->a <= b:=by
 intro r
 induction r with
 | nil=>intro a b h;exact Nat.le_of_eq h
 | cons k r ih=>intro a b ⟨c,_,h1,h2⟩;exact Nat.le_trans (hS _ _ h1) (ih h2)
theorem Sub.lt:∀ {h l i j},Sub h l i j->i < j:=by
 intro h
 induction h with
 | zero=>intro l i j h;exact h.elim
 | succ h ih=>intro l i j ⟨n,_,h2⟩;exact zaK.le (λx y h=>Nat.le_of_lt (ih h)) h2
theorem zaK.mono {S S':Nat->Nat->Prop} (hS:∀ x y,S x y->x <= y):∀ {r a b},(∀ x y,a <= x->y <= b->S x y->S' x y)->zaK S r a b->zaK S' r a b:=by
 intro r
 induction r with
 | nil=>intro a b _ h;exact h
 | cons k r ih =>
  intro a b hm ⟨c,h0,h1,h2⟩
  have:=zaK.le hS h2
  exact ⟨c,h0,hm _ _ (zNl _) this h1,ih (λx y hx hy=>hm x y (Nat.le_trans (hS _ _ h1) hx) hy) h2⟩
theorem zaK.snoc {S:Nat->Nat->Prop} {c:Nat}:∀ {r a b},zaK S r a b->S b c->zaK S (r ++ [(b:Int)]) a c:=by
 intro r
 induction r with
 | nil=>intro a b h h2;cases h;exact ⟨c,rfl,h2,rfl⟩
 | cons k r ih=>intro a b ⟨d,h0,h1,h3⟩ h2;exact ⟨d,h0,h1,ih h3 h2⟩
theorem Sub.mono:∀ {h l l' i j},(∀ k,i <= k->k < j->l'[k]?=l[k]?)->Sub h l i j->Sub h l' i j:=by
 intro h
 induction h with
 | zero=>intro l l' i j _ h;exact h
 | succ h ih =>
  intro l l' i j hl hs
  have hlt:=hs.lt
  obtain ⟨n,h1,h2⟩:=hs
  refine ⟨n,by rw [hl i (zNl _) hlt];exact h1,zaK.mono (λx y h=>Nat.le_of_lt h.lt) (λx y hx hy hs=>ih (λk h3 h4=>hl k (by omega) (by omega)) hs) h2⟩
theorem zaK.monoL {h l l' r a b} (hl:∀ k,a <= k->k < b->l'[k]?=l[k]?) (hk:zaK (Sub h l) r a b):zaK (Sub h l') r a b :=
 zaK.mono (λx y h=>Nat.le_of_lt h.lt) (λx y hx hy hs=>hs.mono λk h3 h4=>hl k (by omega) (by omega)) hk
def FOk (n:zh):Prop:=∀ f ∈ n.fields,DOk f.dflt
structure ziM (n:zh):Prop where
 root0:0 <= n.root
 items:n.kind=3->n.root <= n.items.length
 nums:∀ it ∈ n.items,I64 it.number
 ilen:n.items.length <= 8001
 fields:n.kind=7 \/ n.kind=8 \/ n.kind=9->n.root <= n.fields.length
 dflt:FOk n
 rootZ:n.kind ≠ 3->¬ (n.kind=7 \/ n.kind=8 \/ n.kind=9)->n.root=0
structure Grow (m m':zaA):Prop where
 name:m'.name=m.name
 tagging:m'.tagging=m.tagging
 names:m'.names=m.names
 types:m'.types=m.types
 le:m.nodes.length <= m'.nodes.length
 lim:m'.nodes.length <= 300
 pre:∀ i,i < m.nodes.length->m'.nodes[i]?=m.nodes[i]?
 ok:(∀ n ∈ m.nodes,ziM n)->∀ n ∈ m'.nodes,ziM n
theorem Grow.refl {m:zaA} (h:m.nodes.length <= 300):Grow m m:=⟨rfl,rfl,rfl,rfl,zNl _,h,λ_ _=>rfl,λh=>h⟩
theorem Grow.trans {m m' m'':zaA} (h:Grow m m') (h':Grow m' m''):Grow m m'' :=
 ⟨h'.name.trans h.name,h'.tagging.trans h.tagging,h'.names.trans h.names,h'.types.trans h.types,Nat.le_trans h.le h'.le,h'.lim,λi hi=>(h'.pre i (Nat.lt_of_lt_of_le hi h.le)).trans (h.pre i hi),λk=>h'.ok (h.ok k)⟩
def NI (n q:zh):Prop:=q.kind=n.kind/\FOk q/\(q.more=true->0 <= q.root/\q.root <= q.fields.length)
def FX (n r:zh):Prop:=r.kind=n.kind/\r.more=n.more/\r.root=n.root/\(FOk n->FOk r)
theorem NI.next {n q r:zh} (h:NI n q) (k:FX q r) (hl:r.fields.length=q.fields.length + 1):NI n r :=
 ⟨k.1.trans h.1,k.2.2.2 h.2.1,λe=>by have:=h.2.2 (k.2.1 ▸ e);rw [k.2.2.1,hl];omega⟩
def zvG (l:List zS) (f:zA->Int->Option (Int × zA)) (D:Nat):Prop:=∀ x m a P (d:Int),Ok l m a P x->m.nodes.length <= 300->0 <= d->d + D=17 ->
 T (λr=>∃ m',Grow m m'/\Ok l m' a (P/\r.1=(m.nodes.length:Int)/\Sub D m'.nodes m.nodes.length m'.nodes.length) r.2) (f x d)
def zvB (l:List zS) (f:zA->zh->Int->Option (zA × zh)) (D:Nat):Prop:=∀ x n m a P (d:Int),Ok l m a P x->m.nodes.length <= 300->0 <= d->d + D=16->n.fields=[]->n.items=[]->n.kind=0->n.more=false->n.root=0 ->
 T (λr=>(∃ m',Grow m m'/\Ok l m' a (P/\zaK (Sub D m'.nodes) (zeF r.2) m.nodes.length m'.nodes.length) r.1)/\ziM r.2) (f x n d)
def zqn (l:List zS) (f:zA->zh->Int->Option (zA × zh)) (D:Nat):Prop:=∀ x n m a P (d:Int),Ok l m a P x->m.nodes.length <= 300->0 <= d->d + D=16->n.fields=[]->n.more=false->n.root=0 ->
 T (λr=>(∃ m',Grow m m'/\Ok l m' a (P/\zaK (Sub D m'.nodes) (r.2.fields.map (λf=>f.ty)) m.nodes.length m'.nodes.length) r.1)/\r.2.kind=n.kind/\r.2.items=n.items/\FOk r.2/\0 <= r.2.root/\r.2.root <= r.2.fields.length) (f x n d)
def zsL (l:List zS) (f:zA->zh->Int->Int->Option (zA × zh)) (D:Nat):Prop:=∀ x n m a P (d g:Int) b0,Ok l m a (P/\zaK (Sub D m.nodes) (n.fields.map (λf=>f.ty)) b0 m.nodes.length) x->m.nodes.length <= 300->0 <= d->d + D=16->(n.fields.length:Int) <= x.at_->b0 <= m.nodes.length ->
 T (λr=>(∃ m',Grow m m'/\Ok l m' a (P/\zaK (Sub D m'.nodes) (r.2.fields.map (λf=>f.ty)) b0 m'.nodes.length/\x.at_ + 1 <= r.1.at_) r.1)/\(FX n r.2/\r.2.items=n.items)/\r.2.fields.length=n.fields.length + 1) (f x n d g)

theorem zr8 {l F Ty B Fs D} (hT:zvG l Ty D):zsL l (zcS F Ty B Fs) D:=by
 intro x n m a P d g b0 h hm hd0 hd hn hb
 unfold zcS
 have hl:=h.toks.len
 have ha:=h.a1
 refine T.cal (zkN 2 (by decide) h) λr _ hr=>T.ck (by omega) ?_
 have h1:Ok l m (x.at_ + 1) ((P/\zaK (Sub D m.nodes) (n.fields.map (λf=>f.ty)) b0 m.nodes.length)/\a <= x.at_) r.2:=hr.1.to λe h2 h3=>⟨⟨h2,(h.ok (hr.2.1 e).1).2⟩,by have:=hr.2.1 e;omega⟩
 refine T.cal (hT _ _ _ _ (d + 1) h1 hm (by omega) (by omega)) λs _ ⟨m',hg,hs⟩=>?_
 refine T.jp (λq=>Ok l m' (x.at_ + 1) (((P/\zaK (Sub D m.nodes) (n.fields.map (λf=>f.ty)) b0 m.nodes.length)/\a <= x.at_)/\s.1=(m.nodes.length:Int)/\Sub D m'.nodes m.nodes.length m'.nodes.length) q.2/\q.1.ty=s.1/\DOk q.1.dflt) (λJ k=>?_) λq hq=>?_
 ·refine T.br (λ_=>k _ ⟨hs,rfl,zNz _,rfl,rfl,zOT rfl,zOT rfl,rfl⟩) λ_=>T.cal (zcr _ hs) λy1 _ e1=>T.br (λ_=>k _ ⟨e1.1,rfl,zNz _,rfl,rfl,zOT rfl,zOT rfl,rfl⟩) λ_=>T.cal (zcr _ e1.1) λy2 _ e2=>T.br (λ_=>T.cal (ztZ e2.1) λy3 _ e3=>k _ ⟨e3.1,rfl,e3.2⟩) λ_=>k _ ⟨e2.1,rfl,zNz _,rfl,rfl,zOT rfl,zOT rfl,rfl⟩
 ·refine T.abl (by simp only [zLs];omega) (T.some ⟨⟨m',hg,hq.1.to λe ⟨⟨⟨p1,p2⟩,p3⟩,p4,p5⟩ p6=>⟨⟨p1,?_,p6⟩,?_⟩⟩,⟨⟨rfl,rfl,rfl,λhf f hf2=>?_⟩,rfl⟩,by simp⟩)
  rotate_left 2
  ·rcases List.mem_append.1 hf2 with h | h
   ·exact hf f h
   ·rw [zMo.1 h];exact hq.2.2
  ·dsimp only
   rw [List.map_append,List.map_singleton,hq.2.1,p4]
   exact (p2.monoL λk hk1 hk2=>hg.pre k hk2).snoc p5
  ·omega

theorem zr0 {l F Ty B Fs D} (hF:zsL l F D):zqn l (zcE F Ty B Fs) D:=by
 intro x n m a P d h hm hd0 hd hn hnm hnr
 have hni:NI n n:=⟨rfl,by unfold FOk;rw [hn];simp,λh=>by rw [hnm] at h;cases h⟩
 unfold zcE
 have hl:=h.toks.len
 have ha0:=h.a0
 have ha1:=h.a1
 have hk0:zaK (Sub D m.nodes) (n.fields.map (λf=>f.ty)) m.nodes.length m.nodes.length:=by rw [hn];rfl
 refine T.cal (zcr _ h) λr _ hr=>T.br (λ_=>T.some ⟨⟨m,Grow.refl hm,hr.1.to λe p1 p2=>⟨⟨p1,hk0⟩,p2⟩⟩,rfl,rfl,hni.2.1,by dsimp only;omega,by dsimp only;omega⟩) λhb=>?_
 have hrx:=hr.2.2.2 hb
 -- what holds between
 refine T.jp (λ(q:zA × zh)=>(∃ m',Grow m m'/\Ok l m' a (P/\zaK (Sub D m'.nodes) (q.2.fields.map (λf=>f.ty)) m.nodes.length m'.nodes.length) q.1)/\(NI n q.2/\q.2.items=n.items)) (λJ k=>?_) λq ⟨⟨m',hg,hq⟩,hqk⟩=>?_
 ·refine T.lp (λ(q:Int × zA × zh)=>((∃ m',Grow m m'/\Ok l m' a (P/\zaK (Sub D m'.nodes) (q.2.2.fields.map (λf=>f.ty)) m.nodes.length m'.nodes.length) q.2.1)/\(NI n q.2.2/\q.2.2.items=n.items))/\0 <= q.1/\q.1 <= q.2.1.at_/\(q.2.2.fields.length:Int) <= q.2.1.at_) (λ(q:Int × zA × zh)=>((l.length:Int) - q.2.1.at_).toNat) ⟨⟨⟨m,Grow.refl hm,hr.1.to λe p1 p2=>⟨⟨p1,hk0⟩,p2⟩⟩,⟨hni,rfl⟩⟩,zIl _,by dsimp only;rw [hrx];exact ha0,by dsimp only;rw [hrx,hn];exact ha0⟩ (by dsimp only;rw [hrx];omega) λL q hq hL=>?_
  obtain ⟨g,y,n1⟩:=q
  obtain ⟨⟨⟨m1,hg1,h1⟩,hk1⟩,h2,h3,h4⟩:=hq
  dsimp only at h1 h2 h3 h4 hk1 ⊢
  have hy1:=h1.a1
  refine T.br (λhe=>?_) λ_=>k _ ⟨⟨m1,hg1,h1⟩,hk1⟩
  have he:=zOT he
  refine T.jp (λ(q:Int × zA × zh)=>((∃ m',Grow m m'/\Ok l m' a (P/\zaK (Sub D m'.nodes) (q.2.2.fields.map (λf=>f.ty)) m.nodes.length m'.nodes.length) q.2.1)/\(NI n q.2.2/\q.2.2.items=n.items))/\0 <= q.1/\(q.2.1.e=0->q.1 <= q.2.1.at_ + 1/\(q.2.2.fields.length:Int) <= q.2.1.at_ + 1/\y.at_ <= q.2.1.at_)) (λJ2 k2=>?_) λq hq=>?_
  ·refine T.jp (λ(q:Bool × zA)=>Ok l m1 a (P/\zaK (Sub D m1.nodes) (n1.fields.map (λf=>f.ty)) m.nodes.length m1.nodes.length) q.2/\q.2.at_ ≥ y.at_/\(q.1=false->q.2=y)) (λJ3 k3=>T.br (λ_=>T.cal (zcr _ h1) λu _ hu=>k3 _ ⟨hu.1,?_,hu.2.2.2⟩) λ_=>k3 _ ⟨h1,zIl _,λ_=>rfl⟩) λq3 hq3=>?_
   ·cases hu1:u.1 with
    | true=>have:=hu.2.2.1 hu1;dsimp only;omega
    | false=>have:=hu.2.2.2 hu1;dsimp only;rw [this];omega
   refine T.br (λ_=>k2 _ ⟨⟨⟨m1,hg1,hq3.1⟩,⟨⟨hk1.1.1,hk1.1.2.1,λ_=>⟨by dsimp only;omega,zIl _⟩⟩,hk1.2⟩⟩,h2,λ_=>⟨by dsimp only;omega,by dsimp only;omega,by dsimp only;omega⟩⟩) λb3=>?_
   have e3:=hq3.2.2 b3
   refine T.jp (λ(q:Bool × zA)=>Ok l m1 a (P/\zaK (Sub D m1.nodes) (n1.fields.map (λf=>f.ty)) m.nodes.length m1.nodes.length) q.2/\q.2.at_ ≥ y.at_/\(q.1=true->q.2.at_ ≥ y.at_ + 1)/\(q.1=false->q.2=y)) (λJ3 k3=>T.br (λ_=>T.cal (zcr _ hq3.1) λu _ hu=>k3 _ ⟨hu.1,?_,λhu1=>?_,λhu1=>?_⟩) λ_=>k3 _ ⟨hq3.1,by dsimp only;omega,(λh=>by cases h),λ_=>e3⟩) λq4 hq4=>?_
   ·cases hu1:u.1 with
    | true=>have:=hu.2.2.1 hu1;dsimp only;omega
    | false=>have:=hu.2.2.2 hu1;dsimp only;rw [this];omega
   ·have:=hu.2.2.1 hu1;dsimp only;omega
   ·have:=hu.2.2.2 hu1;dsimp only;rw [this,e3]
   refine T.br (λb4=>T.ck (by omega) ?_) λb4=>?_
   ·have a4:=hq4.2.2.1 b4
    have a5:=hq4.1.a1
    refine T.jp (λ(q:zA × zh)=>(∃ m',Grow m m'/\Ok l m' a (P/\zaK (Sub D m'.nodes) (q.2.fields.map (λf=>f.ty)) m.nodes.length m'.nodes.length) q.1)/\(NI n q.2/\q.2.items=n.items)/\(q.1.e=0->(q.2.fields.length:Int) <= q.1.at_ + 1/\q4.2.at_ <= q.1.at_)) (λJ5 k5=>?_) λq ⟨⟨m2,hg2,hq⟩,hqk,hql⟩=>?_
    ·refine T.lp (λ(q:zA × zh)=>(∃ m',Grow m m'/\Ok l m' a (P/\zaK (Sub D m'.nodes) (q.2.fields.map (λf=>f.ty)) m.nodes.length m'.nodes.length) q.1)/\(NI n q.2/\q.2.items=n.items)/\(q.2.fields.length:Int) <= q.1.at_/\q4.2.at_ <= q.1.at_) (λ(q:zA × zh)=>((l.length:Int) - q.1.at_).toNat) ⟨⟨m1,hg1,hq4.1⟩,hk1,by dsimp only;omega,zIl _⟩ (by have:=hq4.1.a0;dsimp only;omega) λL6 q ⟨⟨m2,hg2,hq⟩,hqk,hql,hqa⟩ hL6=>?_
     refine T.br (λb6=>?_) λ_=>k5 _ ⟨⟨m2,hg2,hq⟩,hqk,λ_=>⟨by dsimp only;omega,hqa⟩⟩
     refine T.cal (hF _ _ _ _ _ _ _ _ hq hg2.lim hd0 hd hql hg2.le) λs _ ⟨⟨m3,hg3,hs⟩,hsk,hsl⟩=>T.cal (zcr _ hs) λu _ hu=>T.br (λb7=>k5 _ ⟨⟨m3,hg2.trans hg3,hu.1.to λe ⟨p1,p2,p3⟩ p4=>⟨⟨p1,p2⟩,p4⟩⟩,⟨hqk.1.next hsk.1 hsl,hsk.2.trans hqk.2⟩,λe=>?_⟩) λb7=>?_
     ·have b7:u.1=false:=by simpa using b7
      have e7:=hu.2.2.2 b7
      have e8:=(hs.ok (by rw [<- e7];exact e)).1.2.2
      dsimp only
      rw [e7]
      exact ⟨by omega,by omega⟩
     ·have b7:u.1=true:=by simpa using b7
      have e7:=hu.2.2.1 b7
      have e8:=(hs.ok e7.1).1.2.2
      have e9:=hu.1.a1
      exact hL6 _ ⟨⟨m3,hg2.trans hg3,hu.1.to λe ⟨p1,p2,p3⟩ p4=>⟨⟨p1,p2⟩,p4⟩⟩,⟨hqk.1.next hsk.1 hsl,hsk.2.trans hqk.2⟩,by dsimp only;omega,by dsimp only;omega⟩ (by dsimp only;omega)
    ·refine T.cal (zcB _ hq) λw _ hw=>k2 _ ⟨⟨⟨m2,hg2,hw.1⟩,hqk⟩,by dsimp only;omega,λe=>?_⟩
     have e1:=hw.2 e
     have e2:=hql e1.1
     dsimp only
     omega
   ·have e4:=hq4.2.2.2 b4
    refine T.cal (hF _ _ _ _ _ _ (0:Int) _ hq4.1 hg1.lim hd0 hd (by rw [e4];exact h4) hg1.le) λs _ ⟨⟨m3,hg3,hs⟩,hsk,hsl⟩=>k2 _ ⟨⟨⟨m3,hg1.trans hg3,hs.to λe ⟨p1,p2,p3⟩ p4=>⟨⟨p1,p2⟩,p4⟩⟩,⟨hk1.1.next hsk.1 hsl,hsk.2.trans hk1.2⟩⟩,h2,λe=>?_⟩
    have e8:=(hs.ok e).1.2.2
    rw [e4] at e8
    dsimp only
    omega
  ·obtain ⟨⟨⟨m2,hg2,hq1⟩,hqk⟩,hq0,hql⟩:=hq
   refine T.cal (zcr _ hq1) λu _ hu=>T.br (λb7=>k _ ⟨⟨m2,hg2,hu.1⟩,hqk⟩) λb7=>?_
   have b7:u.1=true:=by simpa using b7
   have e7:=hu.2.2.1 b7
   have e8:=hql e7.1
   have e9:=hu.1.a1
   exact hL _ ⟨⟨⟨m2,hg2,hu.1⟩,hqk⟩,hq0,by dsimp only;omega,by dsimp only;omega⟩ (by dsimp only;omega)
 ·refine T.cal (zcB _ hq) λw _ hw=>T.br (λ_=>T.some ⟨⟨m',hg,hw.1⟩,hqk.1.1,hqk.2,hqk.1.2.1,by dsimp only;omega,zIl _⟩) λhmo=>T.some ⟨⟨m',hg,hw.1⟩,hqk.1.1,hqk.2,hqk.1.2.1,hqk.1.2.2 (by simpa using hmo)⟩
theorem zsd {n:zh} (h:n.fields=[]) (hk:n.kind ≠ 10):zeF n=[]:=by
 unfold zeF;rw [h,if_neg hk];split <;> rfl
theorem zo2 {n:zh} (h:n.kind ≠ 11) (hk:n.kind ≠ 10):zeF n=n.fields.map (λf=>f.ty):=by
 unfold zeF;rw [if_neg h,if_neg hk,List.append_nil]

theorem zuO {l F Ty B Fs D} (hT:zvG l Ty D) (hF:zqn l Fs D):zvB l (zdb F Ty B Fs) D:=by
 intro x n m a P d h hm hd0 hd hn hi hk hmo hro
 unfold zdb
 have nok:∀ n':zh,n'.fields=[]->n'.items=[]->n'.root=0->ziM n':=λn' h1 h2 h3=>⟨by omega,λ_=>by omega,by rw [h2];simp,by rw [h2];simp,λ_=>by omega,by unfold FOk;rw [h1];simp,λ_ _=>h3⟩
 have leaf0:∀ y n',Ok l m a P y->n'.fields=[]->n'.kind ≠ 10->∃ m',Grow m m'/\Ok l m' a (P/\zaK (Sub D m'.nodes) (zeF n') m.nodes.length m'.nodes.length) y:=λy n' hy h1 h2=>⟨m,Grow.refl hm,hy.to λe p1 p2=>⟨⟨p1,by rw [zsd h1 h2];rfl⟩,p2⟩⟩
 have leaf:∀ y n',Ok l m a P y->n'.fields=[]->n'.items=[]->n'.root=0->n'.kind ≠ 10->(∃ m',Grow m m'/\Ok l m' a (P/\zaK (Sub D m'.nodes) (zeF n') m.nodes.length m'.nodes.length) y)/\ziM n':=λy n' hy h1 h3 h4 h2=>⟨leaf0 y n' hy h1 h2,nok n' h1 h3 h4⟩
 have leaf2:∀ (r:zA × zh) (n0:zh),((∃ m',Grow m m'/\Ok l m' a (P/\zaK (Sub D m'.nodes) (r.2.fields.map (λf=>f.ty)) m.nodes.length m'.nodes.length) r.1)/\r.2.kind=n0.kind/\r.2.items=n0.items/\FOk r.2/\0 <= r.2.root/\r.2.root <= r.2.fields.length)->n0.items=[]->n0.kind ≠ 11->n0.kind ≠ 10->n0.kind ≠ 3->(n0.kind=7 \/ n0.kind=8 \/ n0.kind=9)->(∃ m',Grow m m'/\Ok l m' a (P/\zaK (Sub D m'.nodes) (zeF r.2) m.nodes.length m'.nodes.length) r.1)/\ziM r.2:=λr n0 h0 hi0 h1 h2 h3 h4=>by
  obtain ⟨k0,k1,k2,k3,k4,k5⟩:=h0
  rw [<- k1] at h1 h2 h3 h4
  refine ⟨by rw [zo2 h1 h2];exact k0,k4,λe=>absurd e h3,by rw [k2,hi0];simp,by rw [k2,hi0];simp,λ_=>k5,k3,λ_ e=>absurd h4 e⟩
 refine T.cal (zgn h) λ⟨t,x'⟩ _ ⟨ht,hx⟩=>?_
 subst hx
 dsimp only at ht ⊢
 refine T.br (λhe=>T.some ⟨⟨m,Grow.refl hm,h.err (by simpa using he)⟩,nok _ hn hi hro⟩) λ_=>?_
 refine T.cal (zcr _ h) λy1 _ h1=>T.br (λ_=>T.some (leaf _ _ h1.1 hn hi hro (by dsimp only;decide))) λb1=>?_
 refine T.cal (zcr _ h1.1) λy2 _ h2=>T.br (λ_=>T.some (leaf _ _ h2.1 hn hi hro (by dsimp only;decide))) λb2=>?_
 refine T.cal (zcr _ h2.1) λy3 _ h3=>T.br (λ_=>T.cal (znD h3.1) λs _ hs=>T.some (leaf _ _ hs.1 hn hi hro (by dsimp only;decide))) λb3=>?_
 refine T.cal (zcr _ h3.1) λy4 _ h4=>T.br (λ_=>T.cal (zcr _ h4.1) λs _ hs=>T.br (λ_=>T.cal (zot hs.1) λu _ hu=>T.cal (zcB _ hu.1) λw _ hw=>T.some (leaf _ _ hw.1 hn hi hro (by dsimp only;decide))) λ_=>T.some (leaf _ _ hs.1 hn hi hro (by dsimp only;decide))) λb4=>?_
 refine T.cal (zcr _ h4.1) λy5 _ h5=>T.br (λ_=>T.cal (zcB _ h5.1) λs _ hs=>T.cal (znD hs.1) λu _ hu=>T.some (leaf _ _ hu.1 hn hi hro (by dsimp only;decide))) λb5=>?_
 refine T.cal (zcr _ h5.1) λy6 _ h6=>T.br (λ_=>T.cal (zcB _ h6.1) λs _ hs=>T.cal (ztW _ hs.1 hi hmo) λu _ hu=>T.cal (zcB _ hu.1) λw _ hw=>T.some ⟨leaf0 _ _ hw.1 (hu.2.2.1.fields.trans hn) (by rw [hu.2.2.1.kind];dsimp only;decide),hu.2.2.2.2.1,λ_=>hu.2.2.2.2.2.1,hu.2.2.2.1,hu.2.2.2.2.2.2,λe=>by rw [hu.2.2.1.kind] at e;dsimp only at e;omega,by unfold FOk;rw [hu.2.2.1.fields,hn];simp,λe _=>absurd hu.2.2.1.kind e⟩) λb6=>?_
 refine T.cal (zcr _ h6.1) λy7 _ h7=>T.br (λ_=>T.cal (zcB _ h7.1) λs _ hs=>T.cal (hF _ _ _ _ _ _ hs.1 hm hd0 hd hn hmo hro) λu _ hu=>T.some (leaf2 _ _ hu hi (by dsimp only;decide) (by dsimp only;decide) (by dsimp only;decide) (by dsimp only;decide))) λb7=>?_
 refine T.cal (zcr _ h7.1) λy8 _ h8=>T.br (λ_=>T.cal (zcB _ h8.1) λs _ hs=>T.cal (hF _ _ _ _ _ _ hs.1 hm hd0 hd hn hmo hro) λu _ hu=>T.some (leaf2 _ _ hu hi (by dsimp only;decide) (by dsimp only;decide) (by dsimp only;decide) (by dsimp only;decide))) λb8=>?_
 refine T.cal (zcr _ h8.1) λy9 _ h9=>T.br (λ_=>T.cal (zcr _ h9.1) λs _ hs=>T.br (λ_=>T.cal (hF _ _ _ _ _ _ hs.1 hm hd0 hd hn hmo hro) λu _ hu=>T.some (leaf2 _ _ hu hi (by dsimp only;decide) (by dsimp only;decide) (by dsimp only;decide) (by dsimp only;decide))) λ_=>?_) λb9=>?_
 ·refine T.cal (znD hs.1) λu _ hu=>T.cal (zcB _ hu.1) λw _ hw=>T.ck (by omega) (T.cal (hT _ _ _ _ (d + 1) hw.1 hm (by omega) (by omega)) λv _ ⟨m',hg,hv⟩=>T.some ⟨⟨m',hg,hv.to λe ⟨p1,p2,p3⟩ p4=>⟨⟨p1,?_⟩,p4⟩⟩,nok _ hn hi hro⟩)
  have e:zeF (zh.mk 10 n.name n.mark u.1 n.items n.fields n.root n.more v.1)=[(m.nodes.length:Int)]:=by
   unfold zeF;dsimp only;rw [hn,p2];rfl
  dsimp only
  rw [e]
  exact ⟨_,rfl,p3,rfl⟩
 ·refine T.br (λ_=>T.cal (zmC h9.1) λs _ hs=>T.some (leaf _ _ hs.2.1 hn hi hro (by dsimp only;decide))) λ_=>T.cal (zhb _ _ h9.1 (by decide)) λs _ hs=>T.some ⟨⟨m,Grow.refl hm,hs.1.err hs.2⟩,nok _ hn hi hro⟩

theorem zwr {l F Ty B Fs D} (hB:∀ D',D=D' + 1->zvB l B D'):zvG l (zdr F Ty B Fs) D:=by
 intro x m a P d h hm hd0 hd
 unfold zdr
 refine T.br (λhe=>T.some ⟨m,Grow.refl hm,h.err (by simpa using he)⟩) λhe=>?_
 refine T.cal (zgn h) λ⟨t,x'⟩ _ ⟨ht,hx⟩=>?_
 subst hx
 dsimp only at ht h ⊢
 obtain rfl:=h.ym
 refine T.cal (zsK t) λb _ _=>T.br (λ_=>?_) λ_=>?_
 ·refine T.cal (zgn h) λ⟨t2,x2⟩ _ ⟨_,hx2⟩=>?_
  subst hx2
  exact T.cal (zhb _ _ h (by decide)) λy _ hy=>T.some ⟨_,Grow.refl hm,hy.1.err hy.2⟩
 refine T.jp (λb=>b=false->d <= 16/\x'.m.nodes.length < 300) (λJ k=>T.br (λ_=>k _ λh=>by cases h) λh1=>k _ λh2=>by have:=zOF h1;have:=zOF h2;omega) λb2 hb2=>T.br (λ_=>?_) λhb3=>?_
 ·refine T.cal (zgn h) λ⟨t2,x2⟩ _ ⟨_,hx2⟩=>?_
  subst hx2
  exact T.cal (zhb _ _ h (by decide)) λy _ hy=>T.some ⟨_,Grow.refl hm,hy.1.err hy.2⟩
 obtain ⟨hd16,hlt⟩:=hb2 hb3
 obtain ⟨D',rfl⟩:∃ D',D=D' + 1:=⟨D - 1,by omega⟩
 refine T.abl (by simp only [zLs];omega) ?_
 have hx1:∀ z,Ok l (zaA.mk x'.m.name x'.m.tagging x'.m.names x'.m.types (x'.m.nodes ++ [z])) a P (zA.mk x'.l x'.at_ (zaA.mk x'.m.name x'.m.tagging x'.m.names x'.m.types (x'.m.nodes ++ [z])) x'.e x'.p):=λz=>⟨h.toks,h.yl,rfl,h.a0,h.a1,h.ok⟩
 have zok:∀ z:zh,z.fields=[]/\z.items=[]/\z.root=0->ziM z:=λn' ⟨h1,h2,h3⟩=>⟨by omega,λ_=>by omega,by rw [h2];simp,by rw [h2];simp,λ_=>by omega,by unfold FOk;rw [h1];simp,λ_ _=>h3⟩
 have hg1:∀ z,(z.fields=[]/\z.items=[]/\z.root=0)->Grow x'.m (zaA.mk x'.m.name x'.m.tagging x'.m.names x'.m.types (x'.m.nodes ++ [z])):=λz hz0=>⟨rfl,rfl,rfl,rfl,by simp,by simp only [zLa,zLs];omega,λi hi=>List.getElem?_append_left hi,λhk n hn=>by
  rcases List.mem_append.1 hn with h | h
  ·exact hk n h
  ·rw [zMo.1 h];exact zok z hz0⟩
 have hzf:∃ z,zh.mk (0:Int) (Str.mk []) (zcP.mk false (0:Int) (0:Int)) (zbx.mk false false false false (0:Int) (0:Int)) ([]:(List zai)) ([]:(List zaF)) (0:Int) false (0:Int)=z/\z.fields=[]/\z.items=[]/\z.kind=0/\z.more=false/\z.root=0:=⟨_,rfl,rfl,rfl,rfl,rfl,rfl⟩
 obtain ⟨z,hz,z1,z2,z3,z4,z5⟩:=hzf
 rw [hz]
 refine T.cal (zcr _ (hx1 _)) λy1 _ h1=>T.jp (λ(q:zA × zh)=>Ok l (zaA.mk x'.m.name x'.m.tagging x'.m.names x'.m.types (x'.m.nodes ++ [z])) a P q.1/\q.2.fields=[]/\q.2.items=[]/\q.2.kind=0/\q.2.more=false/\q.2.root=0) (λJ k=>T.br (λ_=>?_) λ_=>k _ ⟨h1.1,z1,z2,z3,z4,z5⟩) λq ⟨hq,q1,q2,q3,q4,q5⟩=>?_
 ·refine T.cal (zgn h1.1) λ⟨t2,x2⟩ _ ⟨_,hx2⟩=>?_
  subst hx2
  refine T.cal (zli h1.1) λu _ hu=>?_
  refine T.jp (λ_=>True) (λJ2 k2=>T.br (λ_=>T.jp (λ_=>True) (λJ3 k3=>T.br (λ_=>k3 _ trivial) λ_=>k3 _ trivial) λ_ _=>k2 _ trivial) λ_=>k2 _ trivial) λb5 _=>?_
  refine T.jp (λy=>Ok l (zaA.mk x'.m.name x'.m.tagging x'.m.names x'.m.types (x'.m.nodes ++ [z])) a P y) (λJ2 k2=>T.br (λ_=>T.cal (zhb _ _ hu.1 (by decide)) λw _ hw=>k2 _ hw.1) λ_=>k2 _ hu.1) λy5 h5=>?_
  refine T.cal (zcB _ h5) λy6 _ h6=>T.cal (zcr _ h6.1) λy7 _ h7=>T.br (λ_=>k _ ⟨h7.1,rfl,rfl,rfl,rfl,rfl⟩) λ_=>T.cal (zcr _ h7.1) λy8 _ h8=>T.br (λ_=>k _ ⟨h8.1,rfl,rfl,rfl,rfl,rfl⟩) λ_=>k _ ⟨h8.1,rfl,rfl,rfl,rfl,rfl⟩
 ·refine T.cal (hB D' rfl _ _ _ _ _ _ hq (hg1 z ⟨z1,z2,z5⟩).lim hd0 (by omega) q1 q2 q3 q4 q5) λv _ ⟨⟨m2,hg2,hv⟩,hvo⟩=>T.br (λhe2=>T.some ⟨m2,(hg1 z ⟨z1,z2,z5⟩).trans hg2,hv.err (by simpa using he2)⟩) λhe2=>?_
  have hvm:=hv.ym
  have hle:=hg2.le
  dsimp only at hle
  rw [zLa,zLs] at hle
  rw [hvm]
  refine T.asd (by omega) (T.cal (Q:=λ_=>True) ⟨_,List.getElem?_eq_getElem (by omega),trivial⟩ λw _ _=>T.some ⟨zaA.mk m2.name m2.tagging m2.names m2.types (m2.nodes.set x'.m.nodes.length v.2),?_,⟨hv.toks,hv.yl,rfl,hv.a0,hv.a1,λe=>?_⟩⟩)
  ·have hg3:=(hg1 z ⟨z1,z2,z5⟩).trans hg2
   refine ⟨hg3.name,hg3.tagging,hg3.names,hg3.types,by dsimp only;rw [List.length_set];exact hg3.le,by dsimp only;rw [List.length_set];exact hg3.lim,λi hi=>?_,λhk n hn=>?_⟩
   ·dsimp only
    rw [List.getElem?_set_ne (by omega)]
    exact hg3.pre i hi
   ·rcases List.mem_or_eq_of_mem_set hn with h | h
    ·exact hg3.ok hk n h
    ·rw [h];exact hvo
  ·obtain ⟨⟨p1,p2⟩,p3⟩:=hv.ok e
   dsimp only at p2 ⊢
   rw [zLa,zLs] at p2
   refine ⟨⟨p1,rfl,?_⟩,p3⟩
   rw [List.length_set]
   refine ⟨v.2,by rw [List.getElem?_set_self (by omega)],p2.monoL λk hk1 hk2=>?_⟩
   rw [List.getElem?_set_ne (by omega)]
theorem group (l:List zS):∀ n,
    (∀ D,4 * D < n->zvG l (zaY n) D)/\(∀ D,4 * (D + 1) < n + 1->zvB l (zbh n) D)/\(∀ D,4 * (D + 1) < n + 2->zqn l (za0 n) D)/\(∀ D,4 * (D + 1) < n + 3->zsL l (zbb n) D):=by
  intro n
  induction n with
  | zero=>exact ⟨λD h=>by omega,λD h=>by omega,λD h=>by omega,λD h=>by omega⟩
  | succ n ih =>
    obtain ⟨i1,i2,i3,i4⟩:=ih
    refine ⟨λD h=>zwr (F:=zbb n) (Ty:=zaY n) (B:=zbh n) (Fs:=za0 n) λD' e=>i2 D' (by omega),λD h=>zuO (F:=zbb n) (Ty:=zaY n) (B:=zbh n) (Fs:=za0 n) (i1 D (by omega)) (i3 D (by omega)),λD h=>zr0 (F:=zbb n) (Ty:=zaY n) (B:=zbh n) (Fs:=za0 n) (i4 D (by omega)),λD h=>zr8 (F:=zbb n) (Ty:=zaY n) (B:=zbh n) (Fs:=za0 n) (i1 D (by omega))⟩
theorem zxH (l:List zS):zvG l (zaY fuel) 17:=(group l fuel).1 17 (by unfold fuel;omega)
structure WF (m:zaA):Prop where
 names:m.names.length <= 40
 types:m.types.length=m.names.length
 nodes:m.nodes.length <= 300
 forest:zaK (Sub 17 m.nodes) m.types 0 m.nodes.length
 ok:∀ n ∈ m.nodes,ziM n
theorem WF.empty:WF (zaA.mk (Str.mk []) (0:Int) ([]:(List Str)) ([]:(List Int)) ([]:(List zh))):=⟨by decide,rfl,by decide,rfl,by simp⟩
structure zpN (l:List zS) (y:zA):Prop where
 ok:Ok l y.m 0 (y.m.names.length <= 40/\zaK (Sub 17 y.m.nodes) y.m.types 0 y.m.nodes.length/\(y.m.names.length:Int) <= y.at_) y
 nodes:y.m.nodes.length <= 300
 names:y.m.names.length <= 10000
 types:y.m.types.length=y.m.names.length
 nok:∀ n ∈ y.m.nodes,ziM n
theorem zpN.re {l y y'} (h:zpN l y) (hm:y'.m=y.m) (hl:y'.l=y.l) (h0:y.at_ <= y'.at_) (h1:y'.at_ < (l.length:Int)) (he:y'.e=0->y.e=0):zpN l y':=by
 have:=h.ok.a0
 refine ⟨⟨h.ok.toks,hl.trans h.ok.yl,rfl,by omega,h1,λe=>?_⟩,by rw [hm];exact h.nodes,by rw [hm];exact h.names,by rw [hm];exact h.types,by rw [hm];exact h.nok⟩
 have:=h.ok.ok (he e)
 rw [hm]
 exact ⟨⟨this.1.1,this.1.2.1,by omega⟩,by omega⟩

theorem zup (s:Str):T (λr=>WF r.1) (zfN s):=by
 unfold zfN
 refine T.cal (zoq s) λr _ hr=>T.br (λ_=>T.some WF.empty) λhe=>?_
 have he:r.2.2=0:=by simpa using he
 have htk:=hr he
 obtain ⟨ml,le,hle,_,_⟩:=htk.last
 have hll:0 < r.1.length:=by rw [hle];simp
 have hl8:=htk.len
 -- the head: no names yet
 have head:∀ y:zA,Ok r.1 y.m 0 True y->y.m.names=[]->y.m.types=[]->y.m.nodes=[]->zpN r.1 y:=λy hy h1 h2 h3=>⟨hy.to λe _ p=>⟨⟨by rw [h1];decide,by rw [h2,h3];rfl,by rw [h1];simpa using p⟩,p⟩,by rw [h3];decide,by rw [h1];decide,by rw [h1,h2];rfl,by rw [h3];simp⟩
 have h0:Ok r.1 (zaA.mk (Str.mk []) (0:Int) ([]:(List Str)) ([]:(List Int)) ([]:(List zh))) 0 True (zA.mk r.1 (0:Int) (zaA.mk (Str.mk []) (0:Int) ([]:(List Str)) ([]:(List Int)) ([]:(List zh))) (0:Int) (0:Int)):=⟨htk,rfl,rfl,zIl _,by dsimp only;omega,λ_=>⟨trivial,zIl _⟩⟩
 let Em:zaA->Prop:=λm=>m.names=[]/\m.types=[]/\m.nodes=[]
 have hE:∀ (y:zA) m (m':zaA),Ok r.1 m 0 True y->Ok r.1 m' 0 True (zA.mk y.l y.at_ m' y.e y.p):=λy m m' h=>⟨h.toks,h.yl,rfl,h.a0,h.a1,h.ok⟩
 refine T.cal (zkN 1 (by decide) h0) λy1 _ h1=>T.cal (zcB _ (hE _ _ _ h1.1)) λy2 _ h2=>?_
 have hm2:=h2.1.ym
 have e1:=h1.1.ym
 rw [e1] at hm2
 dsimp only at hm2
 refine T.jp (λy=>∃ m,Em m/\Ok r.1 m 0 True y) (λJ k=>?_) λy ⟨m,hem,hy⟩=>?_
 ·have hb:∃ m,Em m/\Ok r.1 m 0 True y2:=⟨y2.m,by rw [hm2];exact ⟨rfl,rfl,rfl⟩,⟨htk,h2.1.yl,rfl,h2.1.a0,h2.1.a1,h2.1.ok⟩⟩
  obtain ⟨m,hem,hb⟩:=hb
  refine T.cal (zcr _ hb) λy3 _ h3=>T.br (λ_=>T.cal (zcB _ h3.1) λy4 _ h4=>k _ ⟨m,hem,h4.1⟩) λ_=>?_
  refine T.cal (zcr _ h3.1) λy5 _ h5=>T.br (λ_=>T.cal (zcB _ (hE _ _ _ h5.1)) λy4 _ h4=>k _ ⟨_,by rw [h5.1.ym];exact hem,h4.1⟩) λ_=>?_
  refine T.cal (zcr _ h5.1) λy6 _ h6=>T.br (λ_=>T.cal (zcB _ (hE _ _ _ h6.1)) λy4 _ h4=>k _ ⟨_,by rw [h6.1.ym];exact hem,h4.1⟩) λ_=>k _ ⟨m,hem,h6.1⟩
 refine T.cal (zcB _ hy) λy3 _ h3=>T.cal (zcB _ h3.1) λy4 _ h4=>?_
 have hstart:zpN r.1 y4:=by
  have e:=h4.1.ym
  exact head y4 ⟨htk,h4.1.yl,rfl,h4.1.a0,h4.1.a1,h4.1.ok⟩ (by rw [e];exact hem.1) (by rw [e];exact hem.2.1) (by rw [e];exact hem.2.2)
 refine T.lp (λy=>zpN r.1 y) (λy=>if y.e=0 then ((r.1.length:Int) - y.at_).toNat + 1 else 0) hstart (by have:=hstart.ok.a0;split <;> omega) λL y hy hL=>?_
 refine T.jp (λ(q:Bool × zA)=>zpN r.1 q.2/\(q.1=true->y.e=0/\q.2.e=0/\q.2.at_ ≥ y.at_)) (λJ k=>T.br (λhe=>T.cal (zcr _ hy.ok) λu _ hu=>?_) λ_=>k _ ⟨hy,λh=>by cases h⟩) λq ⟨hq,hqb⟩=>?_
 ·have hge:y.at_ <= u.2.at_:=by
   cases hu1:u.1 with
   | true=>have:=hu.2.2.1 hu1;omega
   | false=>rw [hu.2.2.2 hu1];omega
  refine k _ ⟨hy.re hu.1.ym (hu.1.yl.trans hy.ok.yl.symm) hge hu.1.a1 (λe=>hu.2.1 ▸ e),λhb=>?_⟩
  have hb:u.1=false:=by simpa using hb
  have:=hu.2.2.2 hb
  dsimp only
  rw [this]
  exact ⟨zOT he,zOT he,zIl _⟩
 refine T.br (λhb=>?_) λhb=>?_
 ·obtain ⟨b1,b2,b3⟩:=hqb hb
  refine T.cal (zgn hq.ok) λ⟨t,x'⟩ _ ⟨ht,hx⟩=>?_
  dsimp only at ht hx ⊢
  subst hx
  have hq1:Ok r.1 q.2.m (q.2.at_ + 0) (q.2.m.names.length <= 40/\zaK (Sub 17 q.2.m.nodes) q.2.m.types 0 q.2.m.nodes.length/\(q.2.m.names.length:Int) <= q.2.at_) q.2:=hq.ok.to λ_ p1 _=>⟨p1,by omega⟩
  refine T.cal (zkN 1 (by decide) hq.ok) λu _ hu=>?_
  have hu1:Ok r.1 q.2.m (q.2.at_ + 1) (q.2.m.names.length <= 40/\zaK (Sub 17 q.2.m.nodes) q.2.m.types 0 q.2.m.nodes.length/\(q.2.m.names.length:Int) <= q.2.at_) u.2:=hu.1.to λe p1 _=>⟨p1,by have:=hu.2.1 e;omega⟩
  refine T.jp (λb=>b=false->u.2.e=0->q.2.m.names.length < 40) (λJ k=>T.br (λhe=>k _ λhb _=>?_) λhe=>k _ λ_ e=>absurd e (zOF he)) λb hb2=>?_
  ·have:=zOF hb
   rw [hu.1.ym] at this
   omega
  refine T.jp (λy5=>Ok r.1 q.2.m (q.2.at_ + 1) (q.2.m.names.length < 40/\zaK (Sub 17 q.2.m.nodes) q.2.m.types 0 q.2.m.nodes.length/\(q.2.m.names.length:Int) <= q.2.at_) y5) (λJ k=>T.br (λ_=>T.cal (zhb _ _ hu1 (by decide)) λw _ hw=>k _ (hw.1.err hw.2)) λhb3=>k _ (hu1.to λe p1 p2=>⟨⟨hb2 hb3 e,p1.2⟩,p2⟩)) λy5 h5=>?_
  refine T.cal (zcB _ h5) λy6 _ h6=>T.cal (zxH r.1 _ _ _ _ 0 h6.1 hq.nodes (zIl _) rfl) λv _ ⟨m',hg,hv⟩=>?_
  have hvm:=hv.ym
  have hn:=hq.names
  have hn1:m'.names.length <= 9000:=by
   rw [hg.names]
   have h9:=(hq.ok.ok b2).1.2.2
   have:=hq.ok.a1
   omega
  have ht1:m'.types.length=m'.names.length:=by rw [hg.types,hg.names];exact hq.types
  rw [hvm]
  refine T.abl (by simp only [zLs];omega) (T.abl (by simp only [zLs];omega) (hL _ ⟨⟨hv.toks,hv.yl,rfl,hv.a0,hv.a1,λe=>?_⟩,hg.lim,?_,?_,hg.ok hq.nok⟩ ?_))
  ·obtain ⟨⟨⟨p1,p2,p3⟩,p4,p5⟩,p6⟩:=hv.ok e
   dsimp only
   refine ⟨⟨?_,?_,?_⟩,hv.a0⟩
   ·rw [hg.names,zLa,zLs];omega
   ·rw [hg.types,p4]
    exact (p2.monoL λk _ hk=>hg.pre k hk).snoc p5
   ·rw [hg.names,zLa,zLs];omega
  ·dsimp only;rw [zLa,zLs];omega
  ·dsimp only;rw [zLa,zLa,zLs,zLs];omega
  ·dsimp only
   rw [if_pos b1]
   split
   ·rename_i e
    have p6:=(hv.ok e).2
    have:=hv.a1
    omega
   ·omega
 ·refine T.jp (λ(q2:Bool × zA)=>zpN r.1 q2.2) (λJ k=>T.br (λ_=>T.cal (zgn hq.ok) λ⟨t,x'⟩ _ ⟨ht,hx⟩=>k _ (by dsimp only at hx ⊢;subst hx;exact hq)) λ_=>k _ hq) λq2 hq2=>?_
  refine T.jp (λ(y5:zA)=>y5.e=0->zpN r.1 y5) (λJ k=>T.br (λ_=>T.cal (zgn hq2.ok) λ⟨t,x'⟩ _ ⟨ht,hx⟩=>?_) λ_=>k _ λ_=>hq2) λy5 h5=>?_
  ·dsimp only at hx ⊢
   subst hx
   exact T.cal (zhb _ _ hq2.ok (by decide)) λw _ hw=>k _ λe=>absurd e hw.2
  ·refine T.br (λ_=>T.some WF.empty) λhe=>T.some ?_
   have he:y5.e=0:=by simpa using he
   have h6:=h5 he
   have h7:=(h6.ok.ok he).1
   exact ⟨h7.1,h6.types,h6.nodes,h7.2.1,h6.nok⟩
theorem T.eqs {β:Type} {o:Option β} {x:β} (h:T (λr=>r=x) o):o=some x:=by
 obtain ⟨r,h1,h2⟩:=h;rw [h1,h2]
section lists
variable {α β:Type} [DecidableEq α] [DecidableEq β]
def add (l:List α) (x:α):List α:=if x ∈ l then l else l ++ [x]
def zmz (l xs:List α):List α:=xs.foldl add l
theorem zrJ (l:List α):zmz l []=l:=rfl
theorem zph (l:List α) (x:α) (xs:List α):zmz l (x :: xs)=zmz (add l x) xs:=rfl
theorem zm9 (l xs ys:List α):zmz l (xs ++ ys)=zmz (zmz l xs) ys:=by unfold zmz;rw [List.foldl_append]
theorem zxE {l:List α} {x y:α}:y ∈ add l x ↔ y ∈ l \/ y=x:=by
 unfold add
 split
 ·rename_i h
  exact ⟨.inl,λh2=>h2.elim (λh=>h) λe=>by rw [e];exact h⟩
 ·rw [List.mem_append,zMo]
theorem zrZ {xs:List α}:∀ {l:List α} {y:α},y ∈ zmz l xs ↔ y ∈ l \/ y ∈ xs:=by
 induction xs with
 | nil=>intro l y;rw [zrJ];simp
 | cons x xs ih=>intro l y;rw [zph,ih,zxE,List.mem_cons,or_assoc]
theorem zuh {l:List α} {x:α} (h:l.Nodup):(add l x).Nodup:=by
 unfold add
 split
 ·exact h
 ·rename_i hx
  rw [List.nodup_append]
  exact ⟨h,by simp,λa ha b hb=>by rw [zMo.1 hb];exact λe=>hx (e ▸ ha)⟩
theorem zsy {xs:List α}:∀ {l:List α},l.Nodup->(zmz l xs).Nodup:=by
 induction xs with
 | nil=>intro l h;exact h
 | cons x xs ih=>intro l h;rw [zph];exact ih (zuh h)
theorem zsw (l:List α) (x:α):(add l x).length <= l.length + 1:=by
 unfold add;split
 ·omega
 ·rw [zLa,zLs];omega
theorem zdj:∀ {a b:List α},a.Nodup->(∀ x ∈ a,x ∈ b)->a.length <= b.length:=by
 intro a
 induction a with
 | nil=>intro b _ _;exact zNz _
 | cons x a ih =>
  intro b hn hs
  rw [List.nodup_cons] at hn
  have hx:=hs x zMs
  have h1:=ih (b:=b.erase x) hn.2 λy hy=>(List.mem_erase_of_ne (λe:y=x=>hn.1 (e ▸ hy))).2 (hs y (zMm _ hy))
  have h2:=List.length_erase_of_mem hx
  have h3:=List.length_pos_of_mem hx
  rw [zLc]
  omega
def nums (n:Nat):List Int:=(List.range n).map (λ(k:Nat)=>(k:Int))
theorem ziG {n:Nat} {x:Int}:x ∈ nums n ↔ 0 <= x/\x < n:=by
 unfold nums
 rw [List.mem_map]
 refine ⟨λ⟨k,hk,e⟩=>?_,λ⟨h1,h2⟩=>⟨x.toNat,List.mem_range.2 (by omega),by omega⟩⟩
 have:=List.mem_range.1 hk
 omega
theorem zgH (n:Nat):(nums n).length=n:=by unfold nums;rw [List.length_map,List.length_range]
theorem zr6 (n:Nat):(nums n).Nodup:=by
 unfold nums
 rw [List.Nodup,List.pairwise_map]
 exact List.Pairwise.imp (λ{a b:Nat} (h:a ≠ b) (e:(a:Int)=(b:Int))=>h (by omega)) (List.nodup_range:(List.range n).Nodup)
end lists

/-! ### Places of names -/
def zgm:List Str->Str->Int->Int
 | [],_,_=>-1
 | y :: r,s,k=>if y=s then k else zgm r s (k + 1)
def fnd (l:List Str) (s:Str):Int:=zgm l s 0
theorem zqj:∀ (l:List Str) (s:Str) (k:Int),0 <= k->(zgm l s k=-1/\s ∉ l) \/ (k <= zgm l s k/\zgm l s k < k + l.length/\l[(zgm l s k - k).toNat]?=some s/\∀ j:Nat,j < (zgm l s k - k).toNat->l[j]? ≠ some s):=by
 intro l
 induction l with
 | nil=>intro s k _;exact .inl ⟨rfl,by simp⟩
 | cons y r ih =>
  intro s k hk
  unfold zgm
  by_cases h:y=s
  ·rw [if_pos h]
   right
   refine ⟨zIl _,by simp only [zLc];omega,by rw [h];simp,λj hj=>by omega⟩
  ·rw [if_neg h]
   rcases ih s (k + 1) (by omega) with ⟨h1,h2⟩ | ⟨h1,h2,h3,h4⟩
   ·left
    refine ⟨h1,?_⟩
    rw [List.mem_cons]
    exact λh5=>h5.elim (λe=>h e.symm) h2
   ·right
    have e:(zgm r s (k + 1) - k).toNat=(zgm r s (k + 1) - (k + 1)).toNat + 1:=by omega
    refine ⟨by omega,by simp only [zLc];omega,by rw [e,List.getElem?_cons_succ];exact h3,λj hj=>?_⟩
    cases j with
    | zero=>simp only [List.getElem?_cons_zero];exact λe=>h (Option.some.inj e)
    | succ j=>rw [List.getElem?_cons_succ];exact h4 j (by omega)
theorem zmp (l:List Str) (s:Str):(fnd l s=-1/\s ∉ l) \/ (0 <= fnd l s/\fnd l s < l.length/\l[(fnd l s).toNat]?=some s/\∀ j:Nat,j < (fnd l s).toNat->l[j]? ≠ some s):=by
 have:=zqj l s 0 (zIl _)
 unfold fnd
 simpa using this
def idx (l:List Str) (s:Str):Option Int:=if fnd l s < 0 then none else some (fnd l s)
theorem zt3 {l:List Str} {s:Str} {c:Int} (h:idx l s=some c):0 <= c/\c < l.length:=by
 unfold idx at h
 split at h
 ·cases h
 cases h
 rcases zmp l s with h' | h'
 ·omega
 ·exact ⟨h'.1,h'.2.1⟩
theorem zrY (m:zaA) (s:Str) (hl:m.names.length <= 1000000):zjC m s=some (fnd m.names s):=by
 refine T.eqs ?_
 unfold zjC
 refine T.lp (λ(k:Int)=>0 <= k/\k <= (m.names.length:Int)/\fnd m.names s=zgm (m.names.drop k.toNat) s k) (λ(k:Int)=>((m.names.length:Int) - k).toNat) ⟨zIl _,by omega,rfl⟩ (by omega) λL k ⟨h1,h2,h3⟩ hL=>?_
 refine T.br (λhb=>?_) λhb=>T.some ?_
 ·have hb:=zOT hb
  refine T.get h1 hb λy hy=>?_
  have hd:m.names.drop k.toNat=y :: m.names.drop (k.toNat + 1):=by
   rw [List.drop_eq_getElem_cons (by omega)]
   rw [List.getElem?_eq_getElem (by omega)] at hy
   rw [Option.some.inj hy]
  rw [hd] at h3
  unfold zgm at h3
  refine T.br (λhe=>T.some ?_) λhe=>T.ck (by omega) (hL _ ⟨by omega,by omega,?_⟩ (by omega))
  ·rw [h3,if_pos (zOT he)]
  ·have e:(k + 1).toNat=k.toNat + 1:=by omega
   rw [h3,if_neg (zOF he),e]
 ·have hb:=zOF hb
  rw [zDn (by omega)] at h3
  exact h3.symm
def nmx (l:List zh):Nat->Int->List Str
 | 0,_=>[]
 | h + 1,i=>match (if 0 <= i then l[i.toNat]? else none) with
  | none=>[]
  | some n=>if n.kind=11 then [n.name] else (zeF n).flatMap (nmx l h)
theorem zny {l:List zh} {h:Nat} {i:Nat} {n:zh} (e:l[i]?=some n):nmx l (h + 1) (i:Int)=if n.kind=11 then [n.name] else (zeF n).flatMap (nmx l h):=by
 rw [nmx,if_pos (by omega)]
 have:((i:Int)).toNat=i:=by omega
 rw [this,e]
theorem zaK.append {S:Nat->Nat->Prop} {ys:List Int}:∀ {xs:List Int} {a b:Nat},zaK S (xs ++ ys) a b->∃ c,zaK S xs a c/\zaK S ys c b:=by
 intro xs
 induction xs with
 | nil=>intro a b h;exact ⟨a,rfl,h⟩
 | cons k r ih=>intro a b ⟨c,h0,h1,h2⟩;obtain ⟨d,h3,h4⟩:=ih h2;exact ⟨d,⟨c,h0,h1,h3⟩,h4⟩
theorem zaK.length {h:Nat} {l:List zh}:∀ {r a b},zaK (Sub h l) r a b->r.length <= b - a:=by
 intro r
 induction r with
 | nil=>intro a b _;exact zNz _
 | cons k r ih =>
  intro a b ⟨c,_,h4,h5⟩
  have:=h4.lt
  have:=ih h5
  have:=zaK.le (λx y h=>Nat.le_of_lt h.lt) h5
  rw [zLc]
  omega
theorem zaK.sub {h:Nat} {l:List zh}:∀ {r a b},zaK (Sub h l) r a b->∀ i,a <= i->i < b->∃ h' j,h' <= h/\Sub h' l i j/\j <= b:=by
 induction h with
 | zero =>
  intro r a b hk i h1 h2
  cases r with
  | nil=>cases hk;omega
  | cons k r=>obtain ⟨c,_,h,_⟩:=hk;exact h.elim
 | succ h ih =>
  intro r
  induction r with
  | nil=>intro a b hk i h1 h2;cases hk;omega
  | cons k r ihr =>
   intro a b ⟨c,h3,h4,h5⟩ i h1 h2
   have hle:=zaK.le (λx y h=>Nat.le_of_lt h.lt) h5
   rcases Nat.lt_or_ge i c with h6 | h6
   ·rcases Nat.lt_or_ge a i with h7 | h7
    ·obtain ⟨n,h8,h9⟩:=h4
     obtain ⟨h',j,e1,e2,e3⟩:=ih h9 i (by omega) h6
     exact ⟨h',j,by omega,e2,by omega⟩
    ·have:i=a:=by omega
     subst this
     exact ⟨h + 1,c,zNl _,h4,hle⟩
   ·exact ihr h5 i h6 h2

/-! ### The program's walk -/
theorem zsC {α β:Type} {f g:α->List β}:∀ {l:List α},(∀ x ∈ l,f x=g x)->l.flatMap f=l.flatMap g:=by
 intro l
 induction l with
 | nil=>intro _;rfl
 | cons x l ih=>intro h;rw [List.flatMap_cons,List.flatMap_cons,h x zMs,ih λy hy=>h y (zMm _ hy)]
theorem zaK.mem {S:Nat->Nat->Prop} {k:Int}:∀ {r a b},zaK S r a b->k ∈ r->∃ (c d:Nat),k=(c:Int)/\S c d:=by
 intro r
 induction r with
 | nil=>intro a b _ h;cases h
 | cons x r ih =>
  intro a b ⟨c,h1,h2,h3⟩ h
  rcases List.mem_cons.1 h with e | e
  ·exact ⟨a,c,e.trans h1,h2⟩
  ·exact ih h3 e
theorem zxT:∀ {h h' l i j},Sub h l i j->h <= h'->nmx l h' (i:Int)=nmx l h (i:Int):=by
 intro h
 induction h with
 | zero=>intro h' l i j hs;exact hs.elim
 | succ h ih =>
  intro h' l i j ⟨n,h1,h2⟩ hle
  obtain ⟨h'',rfl⟩:∃ h'',h'=h'' + 1:=⟨h' - 1,by omega⟩
  rw [zny h1,zny h1]
  split
  ·rfl
  ·refine zsC λk hk=>?_
   obtain ⟨c,d,e1,e2⟩:=h2.mem hk
   rw [e1]
   exact ih e2 (by omega)
theorem zzn {l:List zh} {h:Nat} {i:Int} (hi:i < 0 \/ (l.length:Int) <= i):nmx l h i=[]:=by
 cases h with
 | zero=>rfl
 | succ h =>
  rw [nmx]
  have:(if 0 <= i then l[i.toNat]? else none)=none:=by
   split
   ·rename_i h0
    exact List.getElem?_eq_none (by omega)
   ·rfl
  rw [this]

theorem WF.at {m:zaA} (w:WF m) {i:Nat} (hi:i < m.nodes.length):∃ h j,h <= 17/\Sub h m.nodes i j/\j <= m.nodes.length:=w.forest.sub i (zNz _) hi
def nms (m:zaA) (node:Int):List Str:=nmx m.nodes 17 node
def zmF (m:zaA) (node:Int):List Int:=zmz [] ((nms m node).filterMap (idx m.names))
def zqM (m:zaA) (node:Int):Bool:=(nms m node).any (λs=>fnd m.names s < 0)
theorem zjq {α:Type} {l:List α} {k:Int} {y:α} (h0:0 <= k) (h:l[k.toNat]?=some y):l.drop k.toNat=y :: l.drop (k + 1).toNat:=by
 have hk:k.toNat < l.length:=by
  rcases Nat.lt_or_ge k.toNat l.length with h1 | h1
  ·exact h1
  ·rw [List.getElem?_eq_none h1] at h;cases h
 have e:(k + 1).toNat=k.toNat + 1:=by omega
 rw [e,List.drop_eq_getElem_cons hk]
 rw [List.getElem?_eq_getElem hk] at h
 rw [Option.some.inj h]
theorem zlf (l:List Int) (x:Int) (hl:l.length <= 1000000):zhL l x=some (decide (x ∈ l)):=by
 refine T.eqs ?_
 unfold zhL
 refine T.lp (λ(k:Int)=>0 <= k/\k <= (l.length:Int)/\(x ∈ l ↔ x ∈ l.drop k.toNat)) (λ(k:Int)=>((l.length:Int) - k).toNat) ⟨zIl _,by omega,Iff.rfl⟩ (by omega) λL k ⟨h1,h2,h3⟩ hL=>?_
 refine T.br (λhb=>?_) λhb=>T.some ?_
 ·have hb:=zOT hb
  refine T.get h1 hb λy hy=>?_
  rw [zjq h1 hy,List.mem_cons] at h3
  refine T.br (λhe=>T.some (zDT (h3.2 (.inl (zOT he).symm))).symm) λhe=>T.ck (by omega) (hL _ ⟨by omega,by omega,?_⟩ (by omega))
  rw [h3]
  exact ⟨λh=>h.elim (λe=>absurd e.symm (zOF he)) λh=>h,.inr⟩
 ·have hb:=zOF hb
  rw [zDn (by omega)] at h3
  exact (zDF (λh=>by cases h3.1 h)).symm

def zwU (m:zaA) (f:zaA->Int->Int->List Int->Option (List Int × Bool)) (h:Nat):Prop:=∀ i j (d:Int) acc,Sub h m.nodes i j->j <= m.nodes.length->0 <= d->d + h <= 17->acc.length <= i ->
 T (λr=>r.1=zmz acc ((nmx m.nodes h i).filterMap (idx m.names))/\r.2=(nmx m.nodes h i).any (λs=>decide (fnd m.names s < 0))/\r.1.length <= j) (f m i d acc)
theorem zsH {m f h} (w:WF m) (ih:zwU m f h):zwU m (zgx f) (h + 1):=by
 intro i j d acc hs hj hd0 hd hacc
 have hl:=w.nodes
 have hnl:=w.names
 have hij:=hs.lt
 obtain ⟨n,hn,hk⟩:=hs
 unfold zgx
 have hi:i < m.nodes.length:=by omega
 have htn:((i:Int)).toNat=i:=by omega
 refine T.jp (λb=>b=false) (λJ k=>T.br (λhb=>by have:=zOT hb;omega) λ_=>k _ (zDF (by omega))) λb hb=>?_
 subst hb
 refine T.jp (λb=>b=false) (λJ k=>T.br (λhb=>by cases hb) λ_=>k _ (zDF (by omega))) λb hb=>?_
 subst hb
 refine T.br (λhb=>by cases hb) λ_=>?_
 refine T.get (by omega) (by omega) λn' hn'=>?_
 rw [htn,hn] at hn'
 cases hn'
 rw [zny hn]
 refine T.br (λhr=>?_) λhr=>?_
 ·have hr:=zOT hr
  rw [if_pos hr]
  refine T.eq (zrY _ _ (by omega)) (T.br (λhf=>T.some ⟨?_,?_,by dsimp only;omega⟩) λhf=>T.eq (zlf _ _ (by omega)) (T.jp (λl=>l=add acc (fnd m.names n.name)) (λJ k=>T.br (λhin=>T.abl (by simp only [zLs];omega) (k _ ?_)) λhin=>k _ ?_) λl hlq=>T.some ⟨?_,?_,?_⟩))
  ·have hf:=zOT hf
   have:idx m.names n.name=none:=by unfold idx;rw [if_pos hf]
   rw [List.filterMap_cons_none this];rfl
  ·rw [List.any_cons,hf];rfl
  ·unfold add;rw [if_neg (by simpa using hin)]
  ·unfold add;rw [if_pos (by simpa using hin)]
  ·have hf:=zOF hf
   have:idx m.names n.name=some (fnd m.names n.name):=by unfold idx;rw [if_neg hf]
   rw [List.filterMap_cons_some this,hlq];rfl
  ·rw [List.any_cons,hf];rfl
  ·have:=zsw acc (fnd m.names n.name)
   dsimp only
   rw [hlq];omega
 ·have hr:=zOF hr
  rw [if_neg hr]
  unfold zeF at hk ⊢
  rw [if_neg hr] at hk ⊢
  obtain ⟨c,hk1,hk2⟩:=zaK.append hk
  rw [List.flatMap_append]
  have hc:=zaK.le (λx y h=>Nat.le_of_lt h.lt) hk2
  have hfl:=hk1.length
  rw [List.length_map] at hfl
  refine T.lp (λ(q:List Int × Bool × Int)=>0 <= q.2.2/\q.2.2 <= (n.fields.length:Int)/\∃ e,zaK (Sub h m.nodes) ((n.fields.drop q.2.2.toNat).map (λf=>f.ty)) e c/\i + 1 <= e/\zmz q.1 ((((n.fields.drop q.2.2.toNat).map (λf=>f.ty)).flatMap (nmx m.nodes h)).filterMap (idx m.names))=zmz acc (((n.fields.map (λf=>f.ty)).flatMap (nmx m.nodes h)).filterMap (idx m.names))/\(q.2.1 || (((n.fields.drop q.2.2.toNat).map (λf=>f.ty)).flatMap (nmx m.nodes h)).any (λs=>decide (fnd m.names s < 0)))=((n.fields.map (λf=>f.ty)).flatMap (nmx m.nodes h)).any (λs=>decide (fnd m.names s < 0))/\q.1.length <= e) (λ(q:List Int × Bool × Int)=>((n.fields.length:Int) - q.2.2).toNat)
   ⟨zIl _,by dsimp only;omega,i + 1,hk1,zNl _,rfl,rfl,by dsimp only;omega⟩ ?_ λL q hq hL=>?_
  ·dsimp only;omega
  ·obtain ⟨a1,b1,k⟩:=q
   obtain ⟨q1,q2,e,q3,q4,q5,q6,q7⟩:=hq
   dsimp only at q1 q2 q3 q5 q6 q7 ⊢
   have he:=zaK.le (λx y h=>Nat.le_of_lt h.lt) q3
   refine T.br (λhb=>?_) λhb=>?_
   ·have hb:=zOT hb
    refine T.get q1 hb λy hy=>?_
    rw [zjq q1 hy,List.map_cons] at q3 q5 q6
    obtain ⟨c1,e1,e2,e3⟩:=q3
    have hc1:=zaK.le (λx y h=>Nat.le_of_lt h.lt) e3
    have:=e2.lt
    rw [List.flatMap_cons,e1] at q5 q6
    rw [List.filterMap_append,zm9] at q5
    rw [List.any_append,<- Bool.or_assoc] at q6
    rw [e1]
    refine T.ck (by omega) (T.cal (ih e c1 (d + 1) a1 e2 (by omega) (by omega) (by omega) q7) λr _ ⟨r1,r2,r3⟩=>T.jp (λb=>b=(b1 || r.2)) (λJ k2=>T.br (λh=>k2 _ (by rw [h];rfl)) λh=>k2 _ (by rw [h];rfl)) λb hb2=>T.ck (by omega) (hL _ ⟨by dsimp only;omega,by dsimp only;omega,c1,e3,by omega,?_,?_,r3⟩ (by dsimp only;omega)))
    ·dsimp only;rw [r1];exact q5
    ·dsimp only;rw [hb2,r2];exact q6
   ·have hb:=zOF hb
    rw [zDn (by omega)] at q3 q5 q6
    cases q3
    have q6':b1=((n.fields.map (λf=>f.ty)).flatMap (nmx m.nodes h)).any (λs=>decide (fnd m.names s < 0)):=by rw [<- q6];simp
    rw [List.filterMap_append,zm9,<- q5,List.any_append,<- q6']
    refine T.jp (λ(q:List Int × Bool)=>q.1=zmz a1 (((if n.kind=10 then [n.of] else []).flatMap (nmx m.nodes h)).filterMap (idx m.names))/\q.2=(b1 || ((if n.kind=10 then [n.of] else []).flatMap (nmx m.nodes h)).any (λs=>decide (fnd m.names s < 0)))/\q.1.length <= j) (λJ k2=>T.br (λhl10=>?_) λhl10=>k2 _ ?_) λq hq=>T.some hq
    ·have h10:=zOT hl10
     rw [if_pos h10] at hk2
     obtain ⟨c1,e1,e2,e3⟩:=hk2
     cases e3
     have ih1:=ih c j (d + 1) a1 e2 (by omega) (by omega) (by omega) q7
     rw [<- e1] at ih1
     refine T.ck (by omega) (T.cal ih1 λr _ ⟨r1,r2,r3⟩=>T.jp (λb=>b=(b1 || r.2)) (λJ k3=>T.br (λh=>k3 _ (by rw [h];rfl)) λh=>k3 _ (by rw [h];rfl)) λb hb2=>k2 (r.1,b) ⟨?_,?_,r3⟩)
     ·dsimp only;rw [if_pos h10,r1];simp [zrJ]
     ·dsimp only;rw [if_pos h10,hb2,r2];simp
    ·have h10:=zOF hl10
     rw [if_neg h10] at hk2 ⊢
     cases hk2
     exact ⟨rfl,by simp,q7⟩
theorem zuF {m:zaA} (w:WF m):∀ h n,h <= n->zwU m (zhP n) h:=by
 intro h
 induction h with
 | zero=>intro n _ i j d acc hs;exact hs.elim
 | succ h ih =>
  intro n hn
  obtain ⟨n',rfl⟩:∃ n',n=n' + 1:=⟨n - 1,by omega⟩
  exact zsH w (ih n' (by omega))
theorem zuX {m n i d acc} (hi:i < 0 \/ (m.nodes.length:Int) <= i):zhP (n + 1) m i d acc=some (acc,false):=by
 refine T.eqs ?_
 show T _ (zgx (zhP n) m i d acc)
 unfold zgx
 refine T.jp (λb=>b=true) (λJ k=>T.br (λ_=>k _ rfl) λhb=>k _ (zDT (by have:=zOF hb;omega))) λb hb=>?_
 subst hb
 refine T.jp (λb=>b=true) (λJ k=>T.br (λ_=>k _ rfl) λhb=>by cases hb) λb hb=>?_
 subst hb
 exact T.br (λ_=>T.some rfl) λhb=>by cases hb
theorem zwT {m:zaA} (w:WF m) (node:Int):zhP fuel m node 0 []=some (zmF m node,zqM m node):=by
 by_cases hi:node < 0 \/ (m.nodes.length:Int) <= node
 ·obtain ⟨f',hf⟩:∃ f',fuel=f' + 1:=⟨fuel - 1,by unfold fuel;omega⟩
  rw [hf,zuX hi]
  unfold zmF zqM nms
  rw [zzn hi];rfl
 ·obtain ⟨i,rfl⟩:∃ i:Nat,node=(i:Int):=⟨node.toNat,by omega⟩
  obtain ⟨h,j,h1,h2,h3⟩:=w.at (i:=i) (by omega)
  obtain ⟨r,e,r1,r2,r3⟩:=zuF w h fuel (by unfold fuel;omega) i j 0 [] h2 h3 (zIl _) (by omega) (zNz _)
  rw [e]
  unfold zmF zqM nms
  rw [zxT h2 h1,<- r1,<- r2]
abbrev Gr:=List (List Int)
def Ed (U:Gr) (i j:Int):Prop:=0 <= i/\∃ l,U[i.toNat]?=some l/\j ∈ l
inductive Reach (U:Gr):Int->Int->Prop
 | one {i j}:Ed U i j->Reach U i j
 | tail {i j k}:Reach U i j->Ed U j k->Reach U i k
structure GOk (U:Gr):Prop where
 len:U.length <= 40
 ok:∀ l ∈ U,l.length <= 40/\∀ j ∈ l,0 <= j/\j < U.length
theorem GOk.ed {U i j} (g:GOk U) (h:Ed U i j):0 <= j/\j < U.length:=by
 obtain ⟨_,l,h1,h2⟩:=h
 exact (g.ok l (List.mem_of_getElem? h1)).2 j h2
def cf:List Bool->Nat
 | []=>0
 | b :: r=>(if b then 0 else 1) + cf r
/-! ### By breadth -/
theorem zt2 {U} (g:GOk U) {i t:Int} (hi:0 <= i) (hi1:i < U.length):T (λr=>r=true ↔ Reach U i t) (zh7 U i t):=by
 have hgl:=g.len
 unfold zh7
 refine T.get hi hi1 λl hl=>?_
 obtain ⟨hll,hlr⟩:=g.ok l (List.mem_of_getElem? hl)
 have hed:∀ j,Ed U i j ↔ j ∈ l:=λj=>⟨λ⟨_,l',h1,h2⟩=>by rw [hl] at h1;cases h1;exact h2,λh=>⟨hi,l,hl,h⟩⟩
 refine T.abl (by simp only [zLn];omega) ?_
 refine T.lp (λ(q:List Int × List Int)=>q.1.Nodup/\(∀ v ∈ q.1,0 <= v/\v < U.length)/\(∀ v ∈ q.2,Reach U i v)/\(∀ j,Ed U i j->j ∈ q.1 \/ j ∈ q.2)/\(∀ v ∈ q.1,∀ j,Ed U v j->j ∈ q.1 \/ j ∈ q.2)/\t ∉ q.1/\q.2.length <= 40 * (q.1.length + 1)) (λ(q:List Int × List Int)=>(U.length - q.1.length) * 41 + q.2.length)
  ⟨List.nodup_nil,λv h=>(by cases h),λv hv=>.one ((hed v).2 (by simpa using hv)),λj hj=>.inr (by simpa using (hed j).1 hj),λv h=>(by cases h),(by simp),by simp;omega⟩ (by simp;omega) λL q ⟨h1,h2,h3,h4,h5,h6,h7⟩ hL=>?_
 obtain ⟨s,td⟩:=q
 dsimp only at h1 h2 h3 h4 h5 h6 h7 ⊢
 have hsl:s.length <= U.length:=by
  have:=zdj (b:=nums U.length) h1 λx hx=>ziG.2 (h2 x hx)
  rwa [zgH] at this
 refine T.br (λhb=>?_) λhb=>T.some ⟨(λh=>by cases h),λh=>?_⟩
 ·have hb:=zOT hb
  cases td with
  | nil=>simp at hb
  | cons y td =>
   refine T.get (zIl _) hb λy' hy'=>?_
   have hy':y=y':=by simpa using hy'
   subst hy'
   have hyr:=h3 y zMs
   have hy01:0 <= y/\y < U.length:=by
    cases hyr with
    | one e=>exact g.ed e
    | tail _ e=>exact g.ed e
   refine T.asd (by simp only [zLc];omega) (T.br (λhe=>T.some ⟨λ_=>?_,λ_=>rfl⟩) λhe=>?_)
   ·rw [<- zOT he];exact hyr
   have he:=zOF he
   have hdr:(y :: td).drop ((1:Int)).toNat=td:=rfl
   rw [hdr]
   rw [zLc] at h7
   refine T.eq (zlf s y (by omega)) (T.br (λhn=>T.abl (by simp only [zLs];omega) ?_) λhn=>hL _ ⟨h1,h2,λv hv=>h3 v (zMm _ hv),?_,?_,h6,by dsimp only;omega⟩ (by dsimp only;rw [zLc];omega))
   ·have hys:y ∉ s:=by simpa using hn
    refine T.get hy01.1 hy01.2 λly hly=>?_
    obtain ⟨hyl,hyr2⟩:=g.ok ly (List.mem_of_getElem? hly)
    have hslt:s.length < U.length:=by
     have:=zdj (a:=y :: s) (b:=nums U.length) (List.nodup_cons.2 ⟨hys,h1⟩) λx hx=>ziG.2 (by rcases List.mem_cons.1 hx with e | e;rw [e];exact hy01;exact h2 x e)
     rw [zgH,zLc] at this
     omega
    refine T.abl (by omega) (hL _ ⟨?_,?_,?_,?_,?_,?_,?_⟩ ?_)
    ·dsimp only
     rw [List.nodup_append]
     exact ⟨h1,by simp,λa ha b hb=>by rw [zMo.1 hb];exact λe=>hys (e ▸ ha)⟩
    ·dsimp only
     intro v hv
     rcases List.mem_append.1 hv with e | e
     ·exact h2 v e
     ·rw [zMo.1 e];exact hy01
    ·dsimp only
     intro v hv
     rcases List.mem_append.1 hv with e | e
     ·exact h3 v (zMm _ e)
     ·exact hyr.tail ⟨hy01.1,ly,hly,e⟩
    ·dsimp only
     intro j hj
     rw [List.mem_append,List.mem_append,zMo]
     rcases h4 j hj with e | e
     ·exact .inl (.inl e)
     ·rcases List.mem_cons.1 e with e | e
      ·exact .inl (.inr e)
      ·exact .inr (.inl e)
    ·dsimp only
     intro v hv j hj
     rw [List.mem_append,List.mem_append,zMo]
     rcases List.mem_append.1 hv with e | e
     ·rcases h5 v e j hj with e | e
      ·exact .inl (.inl e)
      ·rcases List.mem_cons.1 e with e | e
       ·exact .inl (.inr e)
       ·exact .inr (.inl e)
     ·rw [zMo.1 e] at hj
      obtain ⟨_,l',e1,e2⟩:=hj
      rw [hly] at e1;cases e1
      exact .inr (.inr e2)
    ·dsimp only
     rw [List.mem_append,zMo]
     exact λh=>h.elim h6 λe=>he e.symm
    ·dsimp only
     rw [zLa,zLa,zLs]
     omega
    ·dsimp only
     rw [zLa,zLa,zLs,zLc]
     omega
   ·have hys:y ∈ s:=by simpa using hn
    intro j hj
    dsimp only
    rcases h4 j hj with e | e
    ·exact .inl e
    ·rcases List.mem_cons.1 e with e | e
     ·rw [e];exact .inl hys
     ·exact .inr e
   ·have hys:y ∈ s:=by simpa using hn
    intro v hv j hj
    dsimp only at hv ⊢
    rcases h5 v hv j hj with e | e
    ·exact .inl e
    ·rcases List.mem_cons.1 e with e | e
     ·rw [e];exact .inl hys
     ·exact .inr e
 ·have hb:=zOF hb
  cases td with
  | cons y td=>simp at hb
  | nil =>
   exfalso
   have key:∀ a b,Reach U a b->a=i->b ∈ s:=by
    intro a b hab
    induction hab with
    | one e=>intro ea;subst ea;simpa using h4 _ e
    | tail _ e ih=>intro ea;simpa using h5 _ (ih ea) _ e
   exact h6 (key _ _ h rfl)

/-! ### One that is ready -/
theorem zpR {U:Gr} (g:GOk U) (hac:∀ i,¬ Reach U i i) (out:List Int) (hl:out.length < U.length):∃ i:Int,0 <= i/\i < U.length/\i ∉ out/\∀ j,Ed U i j->j ∈ out:=by
 refine Classical.byContradiction λhno=>?_
 have hno:∀ i:Int,0 <= i->i < U.length->i ∉ out->∃ j,Ed U i j/\j ∉ out:=by
  intro i h1 h2 h3
  refine Classical.byContradiction λh4=>hno ⟨i,h1,h2,h3,λj hj=>Classical.byContradiction λh5=>h4 ⟨j,hj,h5⟩⟩
 have hst:∃ i:Int,0 <= i/\i < U.length/\i ∉ out:=by
  refine Classical.byContradiction λh=>?_
  have:=zdj (a:=nums U.length) (b:=out) (zr6 _) λx hx=>by
   have:=ziG.1 hx
   exact Classical.byContradiction λh2=>h ⟨x,this.1,this.2,h2⟩
  rw [zgH] at this
  omega
 have path:∀ k:Nat,∃ (h:Int) (p:List Int),p.length=k/\(h :: p).Nodup/\(∀ x ∈ h :: p,0 <= x/\x < U.length/\x ∉ out)/\∀ x ∈ p,Reach U x h:=by
  intro k
  induction k with
  | zero =>
   obtain ⟨i,h1,h2,h3⟩:=hst
   exact ⟨i,[],rfl,by simp,λx hx=>by rw [zMo.1 hx];exact ⟨h1,h2,h3⟩,λx hx=>by cases hx⟩
  | succ k ih =>
   obtain ⟨h,p,e1,e2,e3,e4⟩:=ih
   obtain ⟨j,hj1,hj2⟩:=hno h (e3 h zMs).1 (e3 h zMs).2.1 (e3 h zMs).2.2
   have hall:∀ x ∈ h :: p,Reach U x j:=by
    intro x hx
    rcases List.mem_cons.1 hx with e | e
    ·rw [e];exact .one hj1
    ·exact (e4 x e).tail hj1
   refine ⟨j,h :: p,by rw [zLc,e1],List.nodup_cons.2 ⟨λhm=>hac j (hall j hm),e2⟩,λx hx=>?_,hall⟩
   rcases List.mem_cons.1 hx with e | e
   ·rw [e];have:=g.ed hj1;exact ⟨this.1,this.2,hj2⟩
   ·exact e3 x e
 obtain ⟨h,p,e1,e2,e3,_⟩:=path U.length
 have:=zdj (b:=nums U.length) e2 λx hx=>ziG.2 ⟨(e3 x hx).1,(e3 x hx).2.1⟩
 rw [zgH,zLc] at this
 omega
def first (P:Int->Bool):Nat->Int->Option Int
 | 0,_=>none
 | n + 1,k=>if P k then some k else first P n (k + 1)
theorem zj2 {P:Int->Bool}:∀ {n k},first P n k=none->∀ i,k <= i->i < k + n->P i=false:=by
 intro n
 induction n with
 | zero=>intro k _ i h1 h2;omega
 | succ n ih =>
  intro k h i h1 h2
  unfold first at h
  cases hp:P k with
  | true=>rw [hp] at h;cases h
  | false =>
   rw [hp] at h
   rcases Int.lt_or_le k i with h3 | h3
   ·exact ih h i (by omega) (by omega)
   ·have:i=k:=by omega
    rw [this];exact hp
theorem zsM {P:Int->Bool}:∀ {n k i},first P n k=some i->k <= i/\i < k + n/\P i=true:=by
 intro n
 induction n with
 | zero=>intro k i h;cases h
 | succ n ih =>
  intro k i h
  unfold first at h
  cases hp:P k with
  | true=>rw [hp] at h;cases h;exact ⟨zIl _,by omega,hp⟩
  | false=>rw [hp] at h;have:=ih h;exact ⟨by omega,by omega,this.2.2⟩
def At (P:Int->Bool) (n:Nat) (k:Int):Prop:=0 <= k/\k <= n/\first P n 0=first P ((n:Int) - k).toNat k
theorem At.zero (P:Int->Bool) (n:Nat):At P n 0:=⟨zIl _,by omega,by simp⟩
theorem At.next {P:Int->Bool} {n:Nat} {k:Int} (h:At P n k) (hk:k < n) (hp:P k=false):At P n (k + 1):=by
 obtain ⟨h1,h2,h3⟩:=h
 have e:((n:Int) - k).toNat=((n:Int) - (k + 1)).toNat + 1:=by omega
 rw [e,first,hp] at h3
 exact ⟨by omega,by omega,h3⟩
theorem At.hit {P:Int->Bool} {n:Nat} {k:Int} (h:At P n k) (hk:k < n) (hp:P k=true):first P n 0=some k:=by
 obtain ⟨h1,h2,h3⟩:=h
 have e:((n:Int) - k).toNat=((n:Int) - (k + 1)).toNat + 1:=by omega
 rw [e,first,hp] at h3
 exact h3
theorem At.miss {P:Int->Bool} {n:Nat} {k:Int} (h:At P n k) (hk:¬ k < n):first P n 0=none:=by
 obtain ⟨h1,h2,h3⟩:=h
 have e:((n:Int) - k).toNat=0:=by omega
 rw [e] at h3
 exact h3

/-! ### What is wrong first -/
/-- What zmF what. -/
def gr (m:zaA):Gr:=m.types.map (zmF m)
theorem zmN {m:zaA} (w:WF m):(gr m).length=m.names.length:=by unfold gr;rw [List.length_map];exact w.types
theorem znF {m:zaA} {t x:Int} (h:x ∈ zmF m t):0 <= x/\x < m.names.length:=by
 unfold zmF at h
 rcases zrZ.1 h with e | e
 ·cases e
 ·obtain ⟨s,_,h2⟩:=List.mem_filterMap.1 e
  exact zt3 h2
theorem ztz {m:zaA} (w:WF m):GOk (gr m):=by
 refine ⟨by rw [zmN w];exact w.names,λl hl=>?_⟩
 unfold gr at hl
 obtain ⟨t,_,rfl⟩:=List.mem_map.1 hl
 refine ⟨?_,λj hj=>by rw [zmN w];exact znF hj⟩
 have:=zdj (a:=zmF m t) (b:=nums m.names.length) (zsy List.nodup_nil) λx hx=>ziG.2 (znF hx)
 rw [zgH] at this
 have:=w.names
 omega
def zpb (m:zaA) (i:Int):Bool:=match m.names[i.toNat]? with | some s=>decide (fnd m.names s < i) | none=>false
def zl0 (m:zaA) (i:Int):Bool:=match m.types[i.toNat]? with | some t=>zqM m t | none=>false
open Classical in
noncomputable def zrN (m:zaA) (i:Int):Bool:=decide (Reach (gr m) i i)
noncomputable def wr (m:zaA):Int × Int :=
 match first (zpb m) m.names.length 0 with
 | some i=>(i,8)
 | none=>match first (zl0 m) m.names.length 0 with
  | some i=>(i,9)
  | none=>match first (zrN m) m.names.length 0 with
   | some i=>(i,10)
   | none=>(0,0)
open Classical in
theorem zqP {m:zaA} {b:Bool} {i:Int} (h:b=true ↔ Reach (gr m) i i):zrN m i=b:=by
 unfold zrN
 cases b with
 | true=>exact zDT (h.1 rfl)
 | false=>exact zDF λh2=>by cases h.2 h2
def rdy (U:Gr) (out:List Int) (i:Int):Bool:=decide (i ∉ out) && ((U[i.toNat]?).getD []).all (λj=>decide (j ∈ out))
def znT (U:Gr):Nat->List Int->List Int
 | 0,out=>out
 | k + 1,out=>match first (rdy U out) U.length 0 with
  | some i=>znT U k (out ++ [i])
  | none=>out
noncomputable def zsz (m:zaA):List Int × Int × Int:=if (wr m).2=0 then (znT (gr m) m.names.length [],0,0) else ([],(wr m).1,(wr m).2)
theorem zwz {m:zaA} (w:WF m) (h:(wr m).2=0):∀ i,¬ Reach (gr m) i i:=by
 intro i hr
 have hi:0 <= i/\i < (gr m).length:=by
  cases hr with
  | one e=>exact (ztz w).ed e
  | tail _ e=>exact (ztz w).ed e
 rw [zmN w] at hi
 unfold wr at h
 split at h
 ·cases h
 split at h
 ·cases h
 split at h
 ·cases h
 ·rename_i h3
  have:=zj2 h3 i hi.1 (by omega)
  have h4:zrN m i=true:=zqP (b:=true) ⟨λ_=>hr,λ_=>rfl⟩
  rw [this] at h4;cases h4
theorem zpG {m:zaA} (w:WF m) (h:(wr m).2=0) {out:List Int} (hl:out.length < m.names.length):first (rdy (gr m) out) (gr m).length 0 ≠ none:=by
 intro hn
 obtain ⟨i,h1,h2,h3,h4⟩:=zpR (ztz w) (zwz w h) out (by rw [zmN w];exact hl)
 have:=zj2 hn i h1 (by omega)
 unfold rdy at this
 rw [zDT h3,Bool.true_and] at this
 have ha:((gr m)[i.toNat]?.getD []).all (λj=>decide (j ∈ out))=true:=by
  rw [List.all_eq_true]
  intro j hj
  rw [List.getElem?_eq_getElem (by omega)] at hj
  exact zDT (h4 j ⟨h1,_,List.getElem?_eq_getElem (by omega),hj⟩)
 rw [this] at ha;cases ha
def Tp (m:zaA) (out:List Int):Prop:=out.length <= m.names.length/\znT (gr m) (m.names.length - out.length) out=znT (gr m) m.names.length []
theorem Tp.nil (m:zaA):Tp m []:=⟨zNz _,rfl⟩
theorem Tp.next {m:zaA} {out:List Int} {i:Int} (h:Tp m out) (hl:out.length < m.names.length) (hf:first (rdy (gr m) out) (gr m).length 0=some i):Tp m (out ++ [i]):=by
 obtain ⟨h1,h2⟩:=h
 have e:m.names.length - out.length=(m.names.length - (out ++ [i]).length) + 1:=by rw [zLa,zLs];omega
 rw [e,znT,hf] at h2
 exact ⟨by rw [zLa,zLs];omega,h2⟩
theorem Tp.done {m:zaA} {out:List Int} (h:Tp m out) (hl:¬ (out.length:Int) < m.names.length):out=znT (gr m) m.names.length []:=by
 obtain ⟨h1,h2⟩:=h
 have e:m.names.length - out.length=0:=by omega
 rw [e] at h2
 exact h2

/-! ### The program's order -/
/-! ### The document's order -/
theorem zvS {l:List Str} {k:Int} {s:Str} (h0:0 <= k) (h:l[k.toNat]?=some s):decide (s ∈ (l.take k.toNat).drop (0:Int).toNat)=decide (fnd l s < k):=by
 have e0:(l.take k.toNat).drop (0:Int).toNat=l.take k.toNat:=rfl
 rw [e0]
 rcases zmp l s with h1 | ⟨h1,h2,h3,h4⟩
 ·exact absurd (List.mem_of_getElem? h) h1.2
 ·by_cases h5:fnd l s < k
  ·rw [zDT h5]
   refine zDT (List.mem_of_getElem? (i:=(fnd l s).toNat) ?_)
   rw [List.getElem?_take_of_lt (by omega)]
   exact h3
  ·rw [zDF h5]
   refine zDF λhm=>?_
   obtain ⟨j,hj⟩:=List.getElem?_of_mem hm
   rw [List.getElem?_take] at hj
   split at hj
   ·exact h4 j (by omega) hj
   ·cases hj
theorem zue {m:zaA} (w:WF m):zjv m=some (zsz m):=by
 have hn:=w.names
 have ht:=w.types
 have hgl:=zmN w
 have hgo:=ztz w
 refine T.eqs ?_
 unfold zjv
 refine T.lp (λ(k:Int)=>At (zpb m) m.names.length k) (λ(k:Int)=>((m.names.length:Int) - k).toNat) (At.zero _ _) (by omega) λL k hk hL=>?_
 have hk0:=hk.1
 refine T.br (λhb=>?_) λhb=>?_
 ·have hb:=zOT hb
  refine T.asd (by omega) (T.get hk0 hb λs hs=>T.cal (zi9 _ s (by rw [zLd,zLt];omega)) λb _ hbq=>?_)
  rw [zvS hk0 hs] at hbq
  have e:zpb m k=decide (fnd m.names s < k):=by unfold zpb;rw [hs]
  refine T.br (λh=>T.some ?_) λh=>T.ck (by omega) (hL _ (hk.next hb (by rw [e,<- hbq];exact h)) (by omega))
  have:wr m=(k,8):=by unfold wr;rw [hk.hit hb (by rw [e,<- hbq];exact h)]
  unfold zsz;rw [this];rfl
 have m1:=hk.miss (zOF hb)
 refine T.lp (λ(q:List (List Int) × Int × Int)=>0 <= q.2.2/\q.2.2 <= (m.names.length:Int)/\(q.1.length:Int)=q.2.2/\q.1 ++ (m.types.drop q.2.2.toNat).map (zmF m)=gr m/\((q.2.1 < 0/\At (zl0 m) m.names.length q.2.2) \/ (0 <= q.2.1/\first (zl0 m) m.names.length 0=some q.2.1))) (λ(q:List (List Int) × Int × Int)=>((m.names.length:Int) - q.2.2).toNat) ⟨zIl _,by dsimp only;omega,rfl,rfl,.inl ⟨by dsimp only;omega,At.zero _ _⟩⟩ (by dsimp only;omega) λL q ⟨h1,h2,h3,h4,h5⟩ hL=>?_
 obtain ⟨U,mi,k⟩:=q
 dsimp only at h1 h2 h3 h4 h5 ⊢
 refine T.br (λhb=>?_) λhb=>?_
 ·have hb:=zOT hb
  obtain ⟨t,htt⟩:∃ t,m.types[k.toNat]?=some t:=⟨_,List.getElem?_eq_getElem (by omega)⟩
  rw [zjq h1 htt,List.map_cons] at h4
  have e:zl0 m k=zqM m t:=by unfold zl0;rw [htt]
  refine T.jp (λ(q:List (List Int) × Int)=>q.1=U ++ [zmF m t]/\((q.2 < 0/\At (zl0 m) m.names.length (k + 1)) \/ (0 <= q.2/\first (zl0 m) m.names.length 0=some q.2))) (λJ kk=>?_) λq ⟨hq1,hq2⟩=>T.ck (by omega) (hL _ ⟨by dsimp only;omega,by dsimp only;omega,?_,?_,hq2⟩ (by dsimp only;omega))
  ·refine T.get h1 (by omega) λt' ht'=>?_
   rw [htt] at ht';cases ht'
   refine T.eq (zwT w t) (T.abl (by simp only [zLs];omega) (T.jp (λb=>b=(zqM m t && decide (mi < 0))) (λJ2 k2=>T.br (λh=>k2 _ ?_) λh=>k2 _ ?_) λb hbq=>T.br (λh=>kk _ ⟨rfl,?_⟩) λh=>kk _ ⟨rfl,?_⟩))
   ·dsimp only at h;rw [h];rfl
   ·dsimp only at h;rw [h];rfl
   ·rw [hbq,zBa] at h
    obtain ⟨l1,l2⟩:=h
    have l2:=zOT l2
    rcases h5 with h5 | h5
    ·exact .inr ⟨h1,h5.2.hit hb (by rw [e];exact l1)⟩
    ·omega
   ·rw [hbq,Bool.and_eq_false_iff] at h
    rcases h5 with h5 | h5
    ·refine .inl ⟨h5.1,h5.2.next hb ?_⟩
     rw [e]
     rcases h with h | h
     ·exact h
     ·have:=zOF h
      exact absurd h5.1 this
    ·exact .inr h5
  ·dsimp only;rw [hq1,zLa,zLs];omega
  ·dsimp only;rw [hq1,<- h4];simp
 have hb9:=zOF hb
 rw [zDn (by omega),List.map_nil,List.append_nil] at h4
 subst h4
 refine T.br (λhm=>T.some ?_) λhm=>?_
 ·have hm:=zOT hm
  have m2:=(h5.resolve_left λh=>by omega).2
  have:wr m=(mi,9):=by unfold wr;rw [m1,m2]
  unfold zsz;rw [this];rfl
 have hm:=zOF hm
 have m2:=(h5.resolve_right λh=>by omega).2.miss hb9
 refine T.lp (λ(k:Int)=>At (zrN m) m.names.length k) (λ(k:Int)=>((m.names.length:Int) - k).toNat) (At.zero _ _) (by omega) λL k hk hL=>?_
 have hk0:=hk.1
 refine T.br (λhb=>?_) λhb=>?_
 ·have hb:=zOT hb
  refine T.cal (zt2 hgo (t:=k) hk0 (by omega)) λb _ hbq=>?_
  have e:=zqP hbq
  refine T.br (λh=>T.some ?_) λh=>T.ck (by omega) (hL _ (hk.next hb (by rw [e];exact h)) (by omega))
  have:wr m=(k,10):=by unfold wr;rw [m1,m2,hk.hit hb (by rw [e];exact h)]
  unfold zsz;rw [this];rfl
 have m3:=hk.miss (zOF hb)
 have hwr:wr m=(0,0):=by unfold wr;rw [m1,m2,m3]
 have he:(wr m).2=0:=by rw [hwr]
 refine T.lp (λ(out:List Int)=>Tp m out) (λ(out:List Int)=>m.names.length - out.length) (Tp.nil m) (by omega) λL out ho hL=>?_
 have hol:=ho.1
 refine T.br (λhb=>?_) λhb=>T.some ?_
 ·have hb:=zOT hb
  have hlt:out.length < m.names.length:=by omega
  refine T.lp (λ(k:Int)=>At (rdy (gr m) out) (gr m).length k) (λ(k:Int)=>((m.names.length:Int) - k).toNat) (At.zero _ _) (by omega) λL2 k hk hL2=>?_
  have hk0:=hk.1
  refine T.br (λhb2=>?_) λhb2=>?_
  ·have hb2:=zOT hb2
   obtain ⟨l,hl⟩:∃ l,(gr m)[k.toNat]?=some l:=⟨_,List.getElem?_eq_getElem (by omega)⟩
   have hll:=(hgo.ok l (List.mem_of_getElem? hl)).1
   have hrd:rdy (gr m) out k=(!decide (k ∈ out) && l.all (λj=>decide (j ∈ out))):=by unfold rdy;rw [hl];simp
   refine T.eq (zlf out k (by omega)) ?_
   refine T.lp (λ(q:Bool × Int)=>0 <= q.2/\q.2 <= (l.length:Int)/\(q.1 && (l.drop q.2.toNat).all (λj=>decide (j ∈ out)))=rdy (gr m) out k) (λ(q:Bool × Int)=>((l.length:Int) - q.2).toNat) ⟨zIl _,by dsimp only;omega,hrd.symm⟩ (by dsimp only;omega) λL3 q ⟨g1,g2,g3⟩ hL3=>?_
   obtain ⟨b,j⟩:=q
   dsimp only at g1 g2 g3 ⊢
   refine T.get hk0 (by omega) λl' hl'=>?_
   rw [hl] at hl';cases hl'
   refine T.br (λhb3=>?_) λhb3=>?_
   ·have hb3:=zOT hb3
    obtain ⟨x,hx⟩:∃ x,l[j.toNat]?=some x:=⟨_,List.getElem?_eq_getElem (by omega)⟩
    rw [zjq g1 hx,List.all_cons,<- Bool.and_assoc] at g3
    refine T.jp (λc=>c=(b && decide (x ∈ out))) (λJ kk=>T.br (λh=>T.get hk0 (by omega) λl' hl'=>?_) λh=>kk _ (by rw [h];rfl)) λc hc=>T.ck (by omega) (hL3 _ ⟨by dsimp only;omega,by dsimp only;omega,by dsimp only;rw [hc];exact g3⟩ (by dsimp only;omega))
    rw [hl] at hl';cases hl'
    refine T.get g1 hb3 λx' hx'=>?_
    rw [hx] at hx';cases hx'
    exact T.eq (zlf out x (by omega)) (kk _ (by rw [h];rfl))
   ·have hb3:=zOF hb3
    rw [zDn (by omega),List.all_nil,Bool.and_true] at g3
    refine T.br (λhr=>T.abl (by simp only [zLs];omega) (hL _ (ho.next hlt (hk.hit (by omega) (by rw [<- g3];exact hr))) (by rw [zLa,zLs];omega))) λhr=>T.ck (by omega) (hL2 _ (hk.next (by omega) (by rw [<- g3];exact hr)) (by omega))
  ·have hb2:=zOF hb2
   exact absurd (hk.miss (by omega)) (zpG w he hlt)
 ·unfold zsz;rw [if_pos he,ho.done (zOF hb)]
def zqS (U:Gr) (out:List Int):Prop:=∀ (k:Nat) (i:Int),out[k]?=some i->0 <= i/\i < U.length/\i ∉ out.take k/\∀ j ∈ (U[i.toNat]?).getD [],j ∈ out.take k
theorem zqS.nil (U:Gr):zqS U []:=λk i h=>by simp at h
theorem zqS.next {U:Gr} {out:List Int} {i:Int} (h:zqS U out) (hf:first (rdy U out) U.length 0=some i):zqS U (out ++ [i]):=by
 obtain ⟨h1,h2,h3⟩:=zsM hf
 unfold rdy at h3
 rw [zBa] at h3
 intro k x hk
 rcases Nat.lt_trichotomy k out.length with e | e | e
 ·rw [List.getElem?_append_left e] at hk
  rw [List.take_append_of_le_length (by omega)]
  exact h k x hk
 ·subst e
  rw [List.getElem?_append_right (zNl _)] at hk
  simp at hk
  subst hk
  rw [List.take_append_of_le_length (zNl _),List.take_length]
  exact ⟨h1,by omega,zOT h3.1,λj hj=>zOT (List.all_eq_true.1 h3.2 j hj)⟩
 ·rw [List.getElem?_append_right (by omega),List.getElem?_eq_none (by simp;omega)] at hk
  cases hk
theorem zt0 (U:Gr):∀ k out,zqS U out->zqS U (znT U k out):=by
 intro k
 induction k with
 | zero=>intro out h;exact h
 | succ k ih =>
  intro out h
  unfold znT
  split
  ·rename_i i hi;exact ih _ (h.next hi)
  ·exact h
theorem zuK {m:zaA} (w:WF m) (h:(wr m).2=0):∀ k out,out.length + k=m.names.length->(znT (gr m) k out).length=m.names.length:=by
 intro k
 induction k with
 | zero=>intro out h;exact h
 | succ k ih =>
  intro out hl
  unfold znT
  split
  ·rename_i i hi;exact ih _ (by rw [zLa,zLs];omega)
  ·rename_i hn;exact absurd hn (zpG w h (by omega))
theorem zyz {m:zaA} (w:WF m) (h:(wr m).2=0):∃ rk:Int->Nat,(∀ i,rk i <= m.names.length)/\∀ i j,Ed (gr m) i j->rk j < rk i:=by
 have hl:=zuK w h m.names.length [] (by simp)
 have hg:=zt0 (gr m) m.names.length [] (zqS.nil _)
 generalize znT (gr m) m.names.length []=out at hl hg
 have hgl:=zmN w
 have hnd:out.Nodup:=by
  rw [List.nodup_iff_pairwise_ne,List.pairwise_iff_getElem]
  intro i j hi hj hij he
  have h1:=(hg j (out[j]) (List.getElem?_eq_getElem hj)).2.2.1
  refine h1 ?_
  rw [<- he]
  exact List.mem_take_iff_getElem.2 ⟨i,by omega,rfl⟩
 have hsub:∀ x ∈ out,x ∈ nums m.names.length:=λx hx=>by
  obtain ⟨k,hk⟩:=List.mem_iff_getElem?.1 hx
  have:=hg k x hk
  exact ziG.2 ⟨this.1,by omega⟩
 have hall:∀ i:Int,0 <= i->i < m.names.length->i ∈ out:=λi h0 h1=>by
  refine Classical.byContradiction λhno=>?_
  have:=zdj (a:=i :: out) (b:=nums m.names.length) (List.nodup_cons.2 ⟨hno,hnd⟩) (λx hx=>by
   rcases List.mem_cons.1 hx with e | e
   ·rw [e];exact ziG.2 ⟨h0,h1⟩
   ·exact hsub x e)
  rw [zgH,zLc] at this
  omega
 refine ⟨λi=>out.idxOf i,λi=>by rw [<- hl];exact List.idxOf_le_length,λi j ⟨h0,l,h1,h2⟩=>?_⟩
 have hi:i < m.names.length:=by
  have:=(List.getElem?_eq_some_iff.1 h1).1
  omega
 have hio:=hall i h0 hi
 have hlt:=List.idxOf_lt_length_of_mem hio
 have hk:=hg (out.idxOf i) i (by rw [List.getElem?_eq_getElem hlt,List.getElem_idxOf])
 have hj:=hk.2.2.2 j (by rw [h1];exact h2)
 obtain ⟨n,hn,he⟩:=List.mem_take_iff_getElem.1 hj
 have hn2:n < out.length:=by omega
 have:out.idxOf j <= n:=by
  rw [<- he]
  rw [hnd.idxOf_getElem n hn2]
  exact zNl _
 show out.idxOf j < out.idxOf i
 omega
theorem zmZ (x:GMk) (e:Int):zbi x e=some (if x.e=0 then GMk.mk x.m x.l e else x):=by
 unfold zbi br
 by_cases h:x.e=0 <;> simp [h]
theorem zvx (k:Int):T (λ_=>True) (zf5 k):=by
 unfold zf5
 refine T.br (λ_=>T.some trivial) λ_=>T.br (λ_=>T.some trivial) λ_=>T.br (λ_=>T.some trivial) λ_=>T.br (λ_=>T.some trivial) λ_=>T.br (λ_=>T.some trivial) λ_=>T.br (λ_=>T.some trivial) λ_=>?_
 refine T.jp (λ_=>True) (λJ h=>T.br (λ_=>h _ trivial) λ_=>h _ trivial) λq _=>T.br (λ_=>T.some trivial) λ_=>T.br (λ_=>T.some trivial) λ_=>T.some trivial
theorem zuf (c:zbx) (b:Bool):T (λ_=>True) (zjQ c b):=by
 unfold zjQ
 refine T.br (λ_=>T.some trivial) λ_=>T.jp (λ_=>True) (λJ h=>T.br (λ_=>h _ trivial) λ_=>h _ trivial) λq _=>T.jp (λ_=>True) (λJ h=>T.br (λ_=>h _ trivial) λ_=>h _ trivial) λq2 _=>T.br (λ_=>T.some trivial) λ_=>?_
 refine T.jp (λ_=>True) (λJ h=>T.br (λ_=>?_) λ_=>h _ trivial) λq3 _=>T.br (λ_=>T.some trivial) λ_=>T.some trivial
 refine T.jp (λ_=>True) (λJ2 h2=>T.br (λ_=>h2 _ trivial) λ_=>h2 _ trivial) λq4 _=>T.jp (λ_=>True) (λJ2 h2=>T.br (λ_=>h2 _ trivial) λ_=>h2 _ trivial) λq5 _=>?_
 refine T.jp (λ_=>True) (λJ2 h2=>T.br (λ_=>h2 _ trivial) λ_=>T.jp (λ_=>True) (λJ3 h3=>T.br (λ_=>T.jp (λ_=>True) (λJ4 h4=>T.br (λ_=>h4 _ trivial) λ_=>h4 _ trivial) λq _=>h3 _ trivial) λ_=>h3 _ trivial) λq _=>h2 _ trivial) λq6 _=>h _ trivial
theorem zoA (c:zbx) (v:Int):T (λ_=>True) (zeg c v):=by
 unfold zeg
 refine T.jp (λ_=>True) (λJ h=>T.br (λ_=>h _ trivial) λ_=>?_) λq _=>T.some trivial
 refine T.jp (λ_=>True) (λJ2 h2=>T.br (λ_=>h2 _ trivial) λ_=>h2 _ trivial) λq2 _=>?_
 exact T.jp (λ_=>True) (λJ2 h2=>T.br (λ_=>T.jp (λ_=>True) (λJ3 h3=>T.br (λ_=>h3 _ trivial) λ_=>h3 _ trivial) λq _=>h2 _ trivial) λ_=>h2 _ trivial) λq3 _=>h _ trivial

/-! ### Numbers of items -/
def zkB (l:List zai) (v:Int):Bool:=l.any λit=>it.has && decide (it.number=v)
theorem zqI (y:zai) (l:List zai) (v:Int):zkB (y :: l) v=((y.has && decide (y.number=v)) || zkB l v):=by unfold zkB;rw [List.any_cons]
theorem zvs (l:List zai) (v:Int) (hl:l.length <= 1000000):zjN l v=some (zkB l v):=by
 refine T.eqs ?_
 unfold zjN
 refine T.lp (λ(k:Int)=>0 <= k/\k <= (l.length:Int)/\zkB l v=zkB (l.drop k.toNat) v) (λ(k:Int)=>((l.length:Int) - k).toNat) ⟨zIl _,by omega,rfl⟩ (by omega) λL k ⟨h1,h2,h3⟩ hL=>?_
 refine T.br (λhb=>?_) λhb=>T.some ?_
 ·have hb:=zOT hb
  refine T.get h1 hb λy hy=>?_
  rw [zjq h1 hy] at h3
  refine T.jp (λq=>q=(y.has && decide (y.number=v))) (λJ h=>T.br (λh4=>T.get h1 hb λy' hy'=>h _ (by rw [hy] at hy';cases hy';rw [h4];rfl)) λh4=>h _ (by rw [h4];rfl)) λq hq=>?_
  subst hq
  rw [zqI] at h3
  refine T.br (λh5=>T.some (by rw [h3,h5];rfl)) λh5=>T.ck (by omega) (hL _ ⟨by omega,by omega,?_⟩ (by omega))
  rw [h3,h5,Bool.false_or]
 ·have hb:=zOF hb
  rw [zDn (by omega)] at h3
  rw [h3];rfl
def zkZ (l:List zai) (v:Int):Nat:=(l.filter λit=>it.has && decide (v <= it.number)).length
theorem zqR (l:List zai) (v:Int):zkZ l v <= l.length:=List.length_filter_le _ _
theorem znE (l:List zai) (v:Int):zkZ l (v + 1) <= zkZ l v:=by
 unfold zkZ
 induction l with
 | nil=>exact zNl _
 | cons a l ih =>
  rw [List.filter_cons,List.filter_cons]
  by_cases h1:a.has && decide (v + 1 <= a.number)
  ·have h2:(a.has && decide (v <= a.number))=true:=by
    simp only [zBa,decide_eq_true_eq] at h1 ⊢
    exact ⟨h1.1,by omega⟩
   rw [if_pos h1,if_pos h2];simp only [zLc];omega
  ·rw [if_neg h1]
   split
   ·simp only [zLc];omega
   ·exact ih
theorem znb {l:List zai} {v:Int} (h:zkB l v=true):zkZ l (v + 1) + 1 <= zkZ l v:=by
 induction l with
 | nil=>cases h
 | cons a l ih =>
  unfold zkB at h ih
  rw [List.any_cons,Bool.or_eq_true] at h
  have hm:=znE l v
  unfold zkZ at hm ih ⊢
  rw [List.filter_cons,List.filter_cons]
  by_cases h1:(a.has && decide (a.number=v))=true
  ·simp only [zBa,decide_eq_true_eq] at h1
   have h2:¬ (a.has && decide (v + 1 <= a.number))=true:=by
    simp only [zBa,decide_eq_true_eq,not_and]
    intro _;omega
   have h3:(a.has && decide (v <= a.number))=true:=by
    simp only [zBa,decide_eq_true_eq];exact ⟨h1.1,by omega⟩
   rw [if_neg h2,if_pos h3];simp only [zLc];omega
  ·have ih:=ih (by rcases h with h | h;exact absurd h h1;exact h)
   by_cases h2:(a.has && decide (v + 1 <= a.number))=true
   ·have h3:(a.has && decide (v <= a.number))=true:=by
     simp only [zBa,decide_eq_true_eq] at h2 ⊢;exact ⟨h2.1,by omega⟩
    rw [if_pos h2,if_pos h3];simp only [zLc];omega
   ·rw [if_neg h2]
    split
    ·simp only [zLc];omega
    ·exact ih
theorem zrG (x:GMk) (n:zh) (ok:ziM n) (hk:n.root <= n.items.length):T (λr=>r.2.m=x.m/\r.2.l=x.l/\(r.2.e=0->x.e=0/\r.1.length=n.items.length/\∀ it ∈ r.1,I64 it.number)) (zdP x n):=by
 unfold zdP
 have hr0:=ok.root0
 have hil:=ok.ilen
 have htk:(n.items.take n.root.toNat).drop (0:Int).toNat=n.items.take n.root.toNat:=rfl
 refine T.lp (ι:=(List zai) × Int × Int) (λq=>0 <= q.2.2/\q.2.2 <= n.root/\(q.1.length:Int)=q.2.2/\0 <= q.2.1/\q.2.1 + (zkZ (n.items.take n.root.toNat) q.2.1:Int) <= q.2.2 + n.root/\∀ it ∈ q.1,I64 it.number) (λq=>(n.root - q.2.2).toNat)
  ⟨zIl _,hr0,rfl,zIl _,by
   have:=zqR (n.items.take n.root.toNat) 0
   rw [zLt] at this
   dsimp only;omega,by simp⟩ (by dsimp only;omega) λL q ⟨h1,h2,h3,h4,h5,h6⟩ hL=>?_
 obtain ⟨out,next,i⟩:=q
 dsimp only at h1 h2 h3 h4 h5 h6 hL ⊢
 refine T.br (λhb=>?_) λhb=>?_
 ·have hb:=zOT hb
  refine T.get h1 (by omega) λy hy=>?_
  have hyn:I64 y.number:=ok.nums y (List.mem_of_getElem? hy)
  refine T.jp (ι:=Int × zai) (λp=>0 <= p.1/\p.1 + (zkZ (n.items.take n.root.toNat) p.1:Int) <= i + 1 + n.root/\I64 p.2.number) (λJ h=>T.br (λ_=>?_) λ_=>h _ ⟨h4,by dsimp only;omega,hyn⟩) λp ⟨p1,p2,p3⟩=>?_
  ·refine T.lp (λ(v:Int)=>0 <= v/\v + (zkZ (n.items.take n.root.toNat) v:Int) <= i + n.root) (λ(v:Int)=>zkZ (n.items.take n.root.toNat) v) ⟨h4,h5⟩ (by have:=zqR (n.items.take n.root.toNat) next;rw [zLt] at this;omega) λL2 v ⟨v1,v2⟩ hL2=>?_
   refine T.asd ⟨zIl _,hr0,hk⟩ ?_
   rw [htk]
   refine T.eq (zvs _ v (by rw [zLt];omega)) (T.br (λht=>T.ck (by omega) (hL2 _ ⟨by omega,?_⟩ ?_)) λ_=>T.ck (by omega) (h _ ⟨by dsimp only;omega,?_,?_⟩))
   ·have:=znb ht;omega
   ·have:=znb ht;omega
   ·have:=znE (n.items.take n.root.toNat) v;dsimp only;omega
   ·unfold I64;dsimp only;omega
  ·refine T.abl (by simp only [zLs];omega) (T.ck (by omega) (hL _ ⟨by dsimp only;omega,by dsimp only;omega,by dsimp only;rw [zLa,zLs];omega,p1,p2,?_⟩ (by dsimp only;omega)))
   intro it hit
   rcases List.mem_append.1 hit with h | h
   ·exact h6 it h
   ·rw [zMo.1 h];exact p3
 ·have hb:=zOF hb
  refine T.lp (ι:=(List zai) × Int × Bool × Bool × Int) (λq=>n.root <= q.2.2.2.2/\q.2.2.2.2 <= n.items.length/\(q.1.length:Int)=q.2.2.2.2/\∀ it ∈ q.1,I64 it.number) (λq=>((n.items.length:Int) - q.2.2.2.2).toNat) ⟨zIl _,hk,by dsimp only;omega,h6⟩ (by dsimp only;omega) λL2 q ⟨k1,k2,k3,k4⟩ hL2=>?_
  obtain ⟨o,rise,some_,twice_,j⟩:=q
  dsimp only at k1 k2 k3 k4 hL2 ⊢
  refine T.br (λhb2=>?_) λhb2=>?_
  ·have hb2:=zOT hb2
   refine T.get (by omega) hb2 λy hy=>?_
   have hyn:I64 y.number:=ok.nums y (List.mem_of_getElem? hy)
   refine T.jp (ι:=zai) (λp=>I64 p.number) (λJ h=>T.br (λ_=>?_) λ_=>h _ hyn) λp hp=>?_
   ·refine T.lp (ι:=Int × zai) (λp=>0 <= p.1/\p.1 <= o.length/\I64 p.2.number) (λp=>((o.length:Int) - p.1).toNat) ⟨zIl _,by dsimp only;omega,by unfold I64;dsimp only;omega⟩ (by dsimp only;omega) λL3 p ⟨p1,p2,p3⟩ hL3=>?_
    obtain ⟨k,it⟩:=p
    dsimp only at p1 p2 p3 hL3 ⊢
    refine T.br (λhb3=>?_) λ_=>h _ p3
    have hb3:=zOT hb3
    refine T.jp (ι:=zai) (λit=>I64 it.number) (λJ2 h2=>T.get p1 hb3 λz hz=>T.br (λ_=>?_) λhne=>?_) λit2 hit2=>T.ck (by omega) (hL3 _ ⟨by dsimp only;omega,by dsimp only;omega,hit2⟩ (by dsimp only;omega))
    ·refine T.eq (zmZ _ _) (T.some ⟨?_,?_,?_⟩)
     ·dsimp only;split <;> rfl
     ·dsimp only;split <;> rfl
     ·dsimp only
      split
      ·intro h;cases h
      ·rename_i hx;intro h;exact absurd h hx
    ·have hz1:I64 z.number:=k4 z (List.mem_of_getElem? hz)
     have hne:=zOF hne
     refine T.jp (λ_=>True) (λJ3 h3=>T.br (λ_=>h3 _ trivial) λ_=>T.get p1 hb3 λ_ _=>h3 _ trivial) λq _=>T.br (λ_=>T.get p1 hb3 λz2 hz2=>?_) λ_=>h2 _ p3
     rw [hz] at hz2;cases hz2
     unfold I64 at hz1
     exact T.ck (by omega) (h2 _ (by unfold I64;dsimp only;omega))
   ·refine T.jp (λ_=>True) (λJ h=>T.br (λ_=>h _ trivial) λ_=>T.jp (λ_=>True) (λJ2 h2=>T.br (λ_=>h2 _ trivial) λ_=>h2 _ trivial) λ_ _=>h _ trivial) λq _=>?_
    refine T.abl (by simp only [zLs];omega) (T.ck (by omega) (hL2 _ ⟨by dsimp only;omega,by dsimp only;omega,by dsimp only;rw [zLa,zLs];omega,?_⟩ (by dsimp only;omega)))
    intro it hit
    rcases List.mem_append.1 hit with h | h
    ·exact k4 it h
    ·rw [zMo.1 h];exact hp
  ·have hb2:=zOF hb2
   refine T.lp (ι:=Bool × Int) (λq=>0 <= q.2/\q.2 <= o.length) (λq=>((o.length:Int) - q.2).toNat) ⟨zIl _,by dsimp only;omega⟩ (by dsimp only;omega) λL3 q ⟨p1,p2⟩ hL3=>?_
   obtain ⟨tw,k⟩:=q
   dsimp only at p1 p2 hL3 ⊢
   refine T.br (λhb3=>?_) λ_=>?_
   ·have hb3:=zOT hb3
    refine T.lp (ι:=Bool × Int) (λq=>0 <= q.2/\q.2 <= k) (λq=>(k - q.2).toNat) ⟨zIl _,p1⟩ (by dsimp only;omega) λL4 q ⟨s1,s2⟩ hL4=>?_
    refine T.br (λhb4=>?_) λ_=>T.ck (by omega) (hL3 _ ⟨by dsimp only;omega,by dsimp only;omega⟩ (by dsimp only;omega))
    have hb4:=zOT hb4
    refine T.jp (λ_=>True) (λJ h=>T.br (λ_=>h _ trivial) λ_=>T.get s1 (by omega) λ_ _=>T.get p1 hb3 λ_ _=>h _ trivial) λq2 _=>T.jp (λ_=>True) (λJ h=>T.br (λ_=>h _ trivial) λ_=>T.get s1 (by omega) λ_ _=>T.get p1 hb3 λ_ _=>h _ trivial) λq3 _=>T.ck (by omega) (hL4 _ ⟨by dsimp only;omega,by dsimp only;omega⟩ (by dsimp only;omega))
   ·refine T.jp (ι:=GMk) (λy=>y.m=x.m/\y.l=x.l/\(y.e=0->x.e=0)) (λJ h=>T.br (λ_=>T.eq (zmZ _ _) (h _ ?_)) λ_=>h _ ⟨rfl,rfl,λh=>h⟩) λy hy=>T.some ⟨hy.1,hy.2.1,λe=>⟨hy.2.2 e,by dsimp only;omega,k4⟩⟩
    refine ⟨by split <;> rfl,by split <;> rfl,?_⟩
    split
    ·intro h;cases h
    ·rename_i hx;intro h;exact absurd h hx

/-! ### UTF-8 -/
theorem tkl {α:Type} (l:List α):l.take ((l.length:Int)).toNat=l:=by rw [Int.toNat_natCast,List.take_length]
theorem zhu (s:List UInt8) (h:8 <= s.length):T (λ_=>True) (zbz s):=by
 unfold zbz
 refine T.get (by omega) (by omega) λ_ _=>T.get (by omega) (by omega) λ_ _=>T.asr (by decide) (T.get (by omega) (by omega) λ_ _=>T.asr (by decide) (T.get (by omega) (by omega) λ_ _=>T.asr (by decide) (T.get (by omega) (by omega) λ_ _=>T.asr (by decide) (T.get (by omega) (by omega) λ_ _=>T.asr (by decide) (T.get (by omega) (by omega) λ_ _=>T.asr (by decide) (T.get (by omega) (by omega) λ_ _=>T.asr (by decide) (T.some trivial)))))))
theorem zwX (y:UInt8):(zf0 (zfU y) (4:UInt64).toNat).toNat < 16:=by
 unfold zf0
 have h:=(zfU y).toNat_lt
 have e:(4:UInt64).toNat=4:=rfl
 rw [e,UInt8.toNat_ofNat',show (2:Nat) ^ 4=16 from rfl]
 omega
theorem znS (p:List UInt8) (hp:p.length <= 1000000):T (λ_=>True) (zcy p):=by
 unfold zcy
 have e1:(1:Int).toNat=1:=rfl
 have e2:(2:Int).toNat=2:=rfl
 have e3:(3:Int).toNat=3:=rfl
 have e4:(4:Int).toNat=4:=rfl
 have e8:(8:Int).toNat=8:=rfl
 have e16:(16:Int).toNat=16:=rfl
 have e24:(24:Int).toNat=24:=rfl
 have e32:(32:Int).toNat=32:=rfl
 simp only [tkl,e1,e2,e3,e4,e8,e16,e24,e32,List.drop_drop]
 refine T.asd ⟨by omega,zIl _⟩ (T.lp (λ(q:List UInt8)=>q.length <= 1000000) (λ(q:List UInt8)=>q.length) hp (by omega) λL q hq hL=>?_)
 refine T.br (λhb=>?_) λ_=>T.some trivial
 have hb:=zOT hb
 refine T.get (by omega) hb λy hy=>T.br (λ_=>?_) λ_=>?_
 ·have hd1:(q.drop 1).length=q.length - 1:=zLd
  refine T.asd ⟨by omega,by omega,by omega⟩ ?_
  refine T.jp (λb=>b=true->8 < (q.drop 1).length) (λJ h=>T.br (λh2=>?_) λ_=>h _ λh=>by cases h) λb hb1=>?_
  ·have h2:=zOT h2
   exact T.cal (zhu _ (by omega)) λ_ _ _=>h _ λ_=>by omega
  refine T.jp (λ(r:List UInt8)=>r.length < q.length) (λJ h=>T.br (λh2=>?_) λ_=>h _ (by omega)) λr hr=>hL _ (by omega) hr
  have h2:=hb1 h2
  have hd9:(q.drop (1 + 8)).length=q.length - 9:=zLd
  refine T.asd ⟨by omega,by omega,by omega⟩ ?_
  refine T.jp (λb=>b=true->16 < (q.drop (1 + 8)).length) (λJ2 h3=>T.br (λh4=>?_) λ_=>h3 _ λh=>by cases h) λb2 hb2=>?_
  ·have h4:=zOT h4
   have hd17:(q.drop (1 + 8 + 8)).length=q.length - 17:=zLd
   exact T.asd ⟨by omega,by omega,by omega⟩ (T.cal (zhu _ (by omega)) λ_ _ _=>T.cal (zhu _ (by omega)) λ_ _ _=>h3 _ λ_=>by omega)
  refine T.br (λh5=>?_) λ_=>h _ (by omega)
  have h5:=hb2 h5
  have hd25:(q.drop (1 + 8 + 16)).length=q.length - 25:=zLd
  refine T.asd ⟨by omega,by omega,by omega⟩ (T.lp (λ(r:List UInt8)=>r.length < q.length) (λ(r:List UInt8)=>r.length) (by omega) (by omega) λL2 r hr hL2=>?_)
  have r8:(r.drop 8).length=r.length - 8:=zLd
  have r16:(r.drop 16).length=r.length - 16:=zLd
  have r24:(r.drop 24).length=r.length - 24:=zLd
  have r32:(r.drop 32).length=r.length - 32:=zLd
  refine T.jp (λb=>b=true->32 < r.length) (λJ2 h3=>T.br (λh6=>?_) λ_=>h3 _ λh=>by cases h) λb3 hb3=>?_
  ·have h6:=zOT h6
   exact T.asd ⟨by omega,by omega,by omega⟩ (T.asd ⟨by omega,by omega,by omega⟩ (T.asd ⟨by omega,by omega,by omega⟩ (T.cal (zhu _ (by omega)) λ_ _ _=>T.cal (zhu _ (by omega)) λ_ _ _=>T.cal (zhu _ (by omega)) λ_ _ _=>T.cal (zhu _ (by omega)) λ_ _ _=>h3 _ λ_=>by omega)))
  ·refine T.br (λh6=>?_) λ_=>h _ hr
   have h6:=hb3 h6
   exact T.asd ⟨by omega,by omega,by omega⟩ (hL2 _ (by omega) (by omega))
 ·have hd2:(q.drop 2).length=q.length - 2:=zLd
  have hd3:(q.drop 3).length=q.length - 3:=zLd
  have hd4:(q.drop 4).length=q.length - 4:=zLd
  have ht:Nat.blt (zf0 (zfU y) (4:UInt64).toNat).toNat 16=true:=by have:=zwX y;simpa using this
  have or1:∀ {β:Type} {R:β->Prop} {b:Bool} {n:Nat} {f:UInt8->Bool} {i:Int} {K:Bool->Option β},(b=false->(n:Int) <= q.length)->0 <= i->i < n->(∀ c,(c=false->(n:Int) <= q.length)->T R (K c))->T R (jp (ι:=Bool) (λJ=>br b (J true) (cal (zq q i) λz=>J (f z))) K):=λ{β R b n f i K} h1 h2 h3 h4=>T.jp (λc=>c=false->(n:Int) <= q.length) (λJ h=>T.br (λ_=>h _ λh=>by cases h) λhb=>T.get h2 (by have:=h1 hb;omega) λ_ _=>h _ λ_=>h1 hb) h4
  have lt1:∀ {n:Nat},decide ((q.length:Int) < (n:Int))=false->(n:Int) <= q.length:=λ{n} h=>by have:=zOF h;omega
  refine T.asr (by decide) (T.asr ht (T.br (λ_=>?_) λ_=>T.br (λ_=>?_) λ_=>T.br (λ_=>?_) λ_=>T.some trivial))
  ·refine or1 (n:=2) lt1 (by omega) (by omega) λc1 k1=>or1 (n:=2) k1 (by omega) (by omega) λc2 k2=>T.br (λ_=>T.some trivial) λh6=>?_
   have:=k2 h6
   exact T.asd ⟨by omega,by omega,by omega⟩ (hL _ (by omega) (by omega))
  ·refine or1 (n:=3) lt1 (by omega) (by omega) λc1 k1=>or1 (n:=3) k1 (by omega) (by omega) λc2 k2=>or1 (n:=3) k2 (by omega) (by omega) λc3 k3=>or1 (n:=3) k3 (by omega) (by omega) λc4 k4=>T.br (λ_=>T.some trivial) λh6=>?_
   have:=k4 h6
   exact T.asd ⟨by omega,by omega,by omega⟩ (hL _ (by omega) (by omega))
  ·refine or1 (n:=4) lt1 (by omega) (by omega) λc1 k1=>or1 (n:=4) k1 (by omega) (by omega) λc2 k2=>or1 (n:=4) k2 (by omega) (by omega) λc3 k3=>or1 (n:=4) k3 (by omega) (by omega) λc4 k4=>or1 (n:=4) k4 (by omega) (by omega) λc5 k5=>or1 (n:=4) k5 (by omega) (by omega) λc6 k6=>T.br (λ_=>T.some trivial) λh6=>?_
   have:=k6 h6
   exact T.asd ⟨by omega,by omega,by omega⟩ (hL _ (by omega) (by omega))
def zhn (t:zg):List Int:=t.fields.map (λf=>f.ty) ++ (if t.kind=10 then [t.of] else [])
structure zkS (t:zg):Prop where
 tags:t.kind ≠ 9->t.tags ≠ []
 tlen:t.tags.length <= 100000
 root0:0 <= t.root
 rootF:t.kind=7 \/ t.kind=8 \/ t.kind=9->t.root <= t.fields.length
 rootI:t.kind=3->t.root <= t.items.length
 fields:¬ (t.kind=7 \/ t.kind=8 \/ t.kind=9)->t.fields=[]
 items:t.kind ≠ 3->t.items=[]
 ilen:t.items.length <= 8001
 nums:∀ it ∈ t.items,I64 it.number
 dflt:∀ f ∈ t.fields,DOk f.dflt
 rootZ:t.kind ≠ 3->¬ (t.kind=7 \/ t.kind=8 \/ t.kind=9)->t.root=0
def zbu:Nat->List zg->Nat->Nat->Prop
 | 0,_,_,_=>False
 | h + 1,l,i,j=>∃ t,l[i]?=some t/\zkS t/\zaK (zbu h l) (zhn t) (i + 1) j
theorem zbu.lt:∀ {h l i j},zbu h l i j->i < j:=by
 intro h
 induction h with
 | zero=>intro l i j h;exact h.elim
 | succ h ih=>intro l i j ⟨n,_,_,h2⟩;exact zaK.le (λx y h=>Nat.le_of_lt (ih h)) h2
theorem zbu.mono:∀ {h l l' i j},(∀ k,i <= k->k < j->l'[k]?=l[k]?)->zbu h l i j->zbu h l' i j:=by
 intro h
 induction h with
 | zero=>intro l l' i j _ h;exact h
 | succ h ih =>
  intro l l' i j hl hs
  have hlt:=hs.lt
  obtain ⟨n,h1,h0,h2⟩:=hs
  refine ⟨n,by rw [hl i (zNl _) hlt];exact h1,h0,zaK.mono (λx y h=>Nat.le_of_lt h.lt) (λx y hx hy hs=>ih (λk h3 h4=>hl k (by omega) (by omega)) hs) h2⟩
theorem KidsT.monoL {h l l' r a b} (hl:∀ k,a <= k->k < b->l'[k]?=l[k]?) (hk:zaK (zbu h l) r a b):zaK (zbu h l') r a b :=
 zaK.mono (λx y h=>Nat.le_of_lt h.lt) (λx y hx hy hs=>hs.mono λk h3 h4=>hl k (by omega) (by omega)) hk
theorem zbu.up:∀ {h l i j},zbu h l i j->zbu (h + 1) l i j:=by
 intro h
 induction h with
 | zero=>intro l i j h;exact h.elim
 | succ h ih =>
  intro l i j ⟨n,h1,h0,h2⟩
  exact ⟨n,h1,h0,zaK.mono (λx y h=>Nat.le_of_lt h.lt) (λx y _ _ hs=>ih hs) h2⟩
theorem zbu.ups {h l i j} (hs:zbu h l i j):∀ {h'},h <= h'->zbu h' l i j:=by
 intro h' hle
 induction h' with
 | zero =>
  have:h=0:=by omega
  subst this;exact hs
 | succ n ih =>
  rcases Nat.lt_or_ge n h with h1 | h1
  ·have:h=n + 1:=by omega
   subst this;exact hs
  ·exact (ih h1).up
theorem zbu.set {h l i j t t'} (hs:zbu h l i j) (ht:l[i]?=some t) (ok:zkS t') (hk:zhn t'=zhn t):zbu h (l.set i t') i j:=by
 cases h with
 | zero=>exact hs
 | succ h =>
  obtain ⟨n,h1,h0,h2⟩:=hs
  rw [ht] at h1;cases h1
  have hlt:=(List.getElem?_eq_some_iff.1 ht).1
  refine ⟨t',by rw [List.getElem?_set_self hlt],ok,?_⟩
  rw [hk]
  exact KidsT.monoL (λk h3 h4=>List.getElem?_set_ne (by omega)) h2
theorem zaK.mem3 {S:Nat->Nat->Prop} (hS:∀ x y,S x y->x <= y) {k:Int}:∀ {r a b},zaK S r a b->k ∈ r->∃ (c d:Nat),k=(c:Int)/\S c d/\a <= c/\d <= b:=by
 intro r
 induction r with
 | nil=>intro a b _ h;cases h
 | cons x r ih =>
  intro a b ⟨c,h0,h1,h2⟩ hm
  have h3:=zaK.le hS h2
  rcases List.mem_cons.1 hm with e | e
  ·exact ⟨a,c,e.trans h0,h1,zNl _,h3⟩
  ·obtain ⟨c',d',k1,k2,k3,k4⟩:=ih h2 e
   have:=hS _ _ h1
   exact ⟨c',d',k1,k2,by omega,k4⟩
theorem zbu.le' {h l}:∀ x y,zbu h l x y->x <= y:=λx y h=>Nat.le_of_lt h.lt
theorem zmv {t:zg} (f:zaF) (hf:f ∈ t.fields):f.ty ∈ zhn t:=List.mem_append_left _ (List.mem_map.2 ⟨f,hf,rfl⟩)
theorem zbu.inb:∀ {h l i j},zbu h l i j->j <= l.length:=by
 intro h
 induction h with
 | zero=>intro l i j h;exact h.elim
 | succ h ih =>
  intro l i j ⟨t,h1,h0,h2⟩
  have hi:=(List.getElem?_eq_some_iff.1 h1).1
  have:∀ (r:List Int) (a b:Nat),zaK (zbu h l) r a b->a <= l.length->b <= l.length:=by
   intro r
   induction r with
   | nil=>intro a b h2 ha;cases h2;exact ha
   | cons x r ih2=>intro a b ⟨c,k1,k2,k3⟩ ha;exact ih2 c b k3 (ih k2)
  exact this _ _ _ h2 (by omega)

/-! ### By which tags they begin -/
def bgs:Nat->List zg->Int->List Tag
 | 0,_,_=>[]
 | h + 1,l,i=>match (if 0 <= i then l[i.toNat]? else none) with
  | none=>[]
  | some t=>if 0 < t.tags.length then t.tags.take 1 else t.fields.flatMap λf=>bgs h l f.ty
def wld:Nat->List zg->Int->Bool
 | 0,_,_=>false
 | h + 1,l,i=>match (if 0 <= i then l[i.toNat]? else none) with
  | none=>false
  | some t=>if t.kind ≠ 9 \/ 0 < t.tags.length then false else t.more || t.fields.any λf=>wld h l f.ty
theorem zsc {l:List zg} {h i:Nat} {t:zg} (e:l[i]?=some t):bgs (h + 1) l (i:Int)=if 0 < t.tags.length then t.tags.take 1 else t.fields.flatMap λf=>bgs h l f.ty:=by
 conv=>lhs;unfold bgs
 rw [if_pos (by omega),Int.toNat_natCast,e]
theorem zyR {l:List zg} {h i:Nat} {t:zg} (e:l[i]?=some t):wld (h + 1) l (i:Int)=if t.kind ≠ 9 \/ 0 < t.tags.length then false else t.more || t.fields.any λf=>wld h l f.ty:=by
 conv=>lhs;unfold wld
 rw [if_pos (by omega),Int.toNat_natCast,e]
theorem zo9 {h:Nat} {l:List zg} (F:Int->List Tag) (hF:∀ x y,zbu h l x y->(F (x:Int)).length <= y - x):∀ {r:List Int} {a b:Nat},zaK (zbu h l) r a b->(r.flatMap F).length <= b - a:=by
 intro r
 induction r with
 | nil=>intro a b _;simp
 | cons k r ih =>
  intro a b ⟨c,h0,h1,h2⟩
  have e1:=hF _ _ h1
  have e2:=ih h2
  have e3:=h1.lt
  have e4:=zaK.le zbu.le' h2
  rw [List.flatMap_cons,zLa,h0]
  omega
theorem zaK.app {S:Nat->Nat->Prop} {ys:List Int}:∀ {xs:List Int} {a b:Nat},zaK S (xs ++ ys) a b->∃ c,zaK S xs a c/\zaK S ys c b:=by
 intro xs
 induction xs with
 | nil=>intro a b h;exact ⟨a,rfl,h⟩
 | cons x xs ih =>
  intro a b ⟨c,h0,h1,h2⟩
  obtain ⟨d,h3,h4⟩:=ih h2
  exact ⟨d,⟨c,h0,h1,h3⟩,h4⟩
theorem zmb:∀ {h l i j},zbu h l i j->(bgs h l (i:Int)).length <= j - i:=by
 intro h
 induction h with
 | zero=>intro l i j h;exact h.elim
 | succ h ih =>
  intro l i j hs
  have hlt:=hs.lt
  obtain ⟨t,h1,h0,h2⟩:=hs
  rw [zsc h1]
  split
  ·rw [zLt];omega
  ·unfold zhn at h2
   obtain ⟨c,h3,h4⟩:=zaK.app h2
   have:=zo9 (bgs h l) (λx y hs=>ih hs) h3
   rw [List.flatMap_map] at this
   have e4:=zaK.le zbu.le' h4
   have e3:=zaK.le zbu.le' h3
   omega
theorem zpe {α β:Type} {l:List α} {f:α->List β} {k:Nat} {y:α} (h:l[k]?=some y):(l.take (k + 1)).flatMap f=(l.take k).flatMap f ++ f y:=by
 rw [List.take_add_one,h]
 simp
theorem zmq {α β:Type} {l:List α} {f:α->List β} {k:Nat}:((l.take k).flatMap f).length <= (l.flatMap f).length:=by
 conv=>rhs;rw [<- List.take_append_drop k l]
 rw [List.flatMap_append,zLa]
 omega
theorem zrS:∀ {h n l i j},zbu h l i j->h <= n->l.length <= 1000->zhB n l (i:Int)=some (bgs h l (i:Int)):=by
 intro h
 induction h with
 | zero=>intro n l i j h;exact h.elim
 | succ h ih =>
  intro n l i j hs hn hl
  obtain ⟨n,rfl⟩:∃ n',n=n' + 1:=⟨n - 1,by omega⟩
  have hjl:=hs.inb
  have hbl:=zmb hs
  have hlt:=hs.lt
  obtain ⟨t,h1,h0,h2⟩:=hs
  have hti:(i:Int).toNat=i:=Int.toNat_natCast i
  have hget:∀ {β:Type} {R:β->Prop} {K:zg->Option β},T R (K t)->T R (asr (decide (0 <= (i:Int)/\(i:Int) < ((l.length:Nat):Int))) (cal (l[(i:Int).toNat]?) K)):=λh=>T.asd ⟨by omega,by omega⟩ (by rw [hti];exact T.eq h1 h)
  refine T.eqs ?_
  show T _ (zgX (zhB n) l (i:Int))
  unfold zgX
  rw [zsc h1] at hbl ⊢
  refine hget (T.br (λhb=>hget (T.asd ⟨zIl _,by omega,by have:=zOT hb;omega⟩ (T.some ?_))) λhb=>?_)
  ·have hb:=zOT hb
   rw [if_pos (by omega)];rfl
  have hb:=zOF hb
  rw [if_neg (by omega)] at hbl ⊢
  have hfl:∀ (k:Nat),(((t.fields.take k).flatMap λf=>bgs h l f.ty)).length <= 1000:=λk=>by
   have:=zmq (l:=t.fields) (f:=λf=>bgs h l f.ty) (k:=k)
   omega
  have hfc:t.fields.length <= 1000:=by
   unfold zhn at h2
   obtain ⟨c,h3,h4⟩:=zaK.app h2
   have e:∀ (r:List Int) (a b:Nat),zaK (zbu h l) r a b->r.length <= b - a:=by
    intro r
    induction r with
    | nil=>intro a b _;exact zNz _
    | cons x r ih2 =>
     intro a b ⟨c,k0,k1,k2⟩
     have:=ih2 _ _ k2
     have:=k1.lt
     have:=zaK.le zbu.le' k2
     simp only [zLc];omega
   have:=e _ _ _ h3
   rw [List.length_map] at this
   have:=zaK.le zbu.le' h4
   omega
  refine T.lp (ι:=List Tag × Int) (λq=>0 <= q.2/\q.2 <= t.fields.length/\q.1=(t.fields.take q.2.toNat).flatMap λf=>bgs h l f.ty) (λq=>((t.fields.length:Int) - q.2).toNat) ⟨zIl _,by dsimp only;omega,rfl⟩ (by dsimp only;omega) λL q ⟨q1,q2,q3⟩ hL=>?_
  obtain ⟨o,k⟩:=q
  dsimp only at q1 q2 q3 hL ⊢
  refine hget (T.br (λhb2=>?_) λhb2=>T.some ?_)
  ·have hb2:=zOT hb2
   refine hget (T.get q1 hb2 λf hf=>?_)
   obtain ⟨c,d,e1,e2,e3,e4⟩:=zaK.mem3 zbu.le' h2 (zmv f (List.mem_of_getElem? hf))
   rw [e1]
   have hk1:(k + 1).toNat=k.toNat + 1:=by omega
   have hnx:=zpe (f:=λf:zaF=>bgs h l f.ty) hf
   have hle:=hfl (k.toNat + 1)
   rw [hnx,zLa,e1] at hle
   have hle2:=hfl k.toNat
   refine T.eq (ih e2 (by omega) hl) (T.abl (by rw [q3];omega) (T.ck (by omega) (hL _ ⟨by dsimp only;omega,by dsimp only;omega,?_⟩ (by dsimp only;omega))))
   dsimp only
   rw [hk1,hnx,q3,e1]
  ·have hb2:=zOF hb2
   rw [q3,zTl (by omega)]
theorem zt9:∀ {h n l i j},zbu h l i j->h <= n->l.length <= 1000->zjs n l (i:Int)=some (wld h l (i:Int)):=by
 intro h
 induction h with
 | zero=>intro n l i j h;exact h.elim
 | succ h ih =>
  intro n l i j hs hn hl
  obtain ⟨n,rfl⟩:∃ n',n=n' + 1:=⟨n - 1,by omega⟩
  have hjl:=hs.inb
  have hlt:=hs.lt
  obtain ⟨t,h1,h0,h2⟩:=hs
  have hti:(i:Int).toNat=i:=Int.toNat_natCast i
  have hget:∀ {β:Type} {R:β->Prop} {K:zg->Option β},T R (K t)->T R (asr (decide (0 <= (i:Int)/\(i:Int) < ((l.length:Nat):Int))) (cal (l[(i:Int).toNat]?) K)):=λh=>T.asd ⟨by omega,by omega⟩ (by rw [hti];exact T.eq h1 h)
  refine T.eqs ?_
  show T _ (ziJ (zjs n) l (i:Int))
  unfold ziJ
  rw [zyR h1]
  have hfc:t.fields.length <= 1000:=by
   unfold zhn at h2
   obtain ⟨c,h3,h4⟩:=zaK.app h2
   have e:∀ (r:List Int) (a b:Nat),zaK (zbu h l) r a b->r.length <= b - a:=by
    intro r
    induction r with
    | nil=>intro a b _;exact zNz _
    | cons x r ih2 =>
     intro a b ⟨c,k0,k1,k2⟩
     have:=ih2 _ _ k2
     have:=k1.lt
     have:=zaK.le zbu.le' k2
     simp only [zLc];omega
   have:=e _ _ _ h3
   rw [List.length_map] at this
   have:=zaK.le zbu.le' h4
   omega
  refine hget (T.jp (λb=>b=decide (t.kind ≠ 9 \/ 0 < t.tags.length)) (λJ hJ=>T.br (λhb=>hJ _ ?_) λhb=>hget (hJ _ ?_)) λb hb=>?_)
  ·have:¬ t.kind=9:=by simpa using hb
   rw [zDT (.inl this)]
  ·have:t.kind=9:=by simpa using hb
   rw [decide_eq_decide];omega
  subst hb
  refine T.br (λhb=>T.some ?_) λhb=>hget ?_
  ·rw [if_pos (zOT hb)]
  rw [if_neg (zOF hb)]
  refine T.lp (ι:=Bool × Int) (λq=>0 <= q.2/\q.2 <= t.fields.length/\q.1=(t.more || (t.fields.take q.2.toNat).any λf=>wld h l f.ty)) (λq=>((t.fields.length:Int) - q.2).toNat) ⟨zIl _,by dsimp only;omega,by simp⟩ (by dsimp only;omega) λL q ⟨q1,q2,q3⟩ hL=>?_
  obtain ⟨o,k⟩:=q
  dsimp only at q1 q2 q3 hL ⊢
  refine hget (T.br (λhb2=>?_) λhb2=>T.some ?_)
  ·have hb2:=zOT hb2
   have hk1:(k + 1).toNat=k.toNat + 1:=by omega
   obtain ⟨f,hf⟩:∃ f,t.fields[k.toNat]?=some f:=⟨_,List.getElem?_eq_getElem (by omega)⟩
   have hnx:(t.fields.take (k.toNat + 1)).any (λf=>wld h l f.ty)=((t.fields.take k.toNat).any (λf=>wld h l f.ty) || wld h l f.ty):=by
    rw [List.take_add_one,hf];simp
   refine T.jp (λb=>b=(o || wld h l f.ty)) (λJ hJ=>T.br (λhb=>hJ _ (by rw [hb];rfl)) λhb=>hget (T.get q1 hb2 λf' hf'=>?_)) λb hb=>T.ck (by omega) (hL _ ⟨by dsimp only;omega,by dsimp only;omega,by dsimp only;rw [hk1,hnx,hb,q3,Bool.or_assoc]⟩ (by dsimp only;omega))
   rw [hf] at hf';cases hf'
   obtain ⟨c,d,e1,e2,e3,e4⟩:=zaK.mem3 zbu.le' h2 (zmv f (List.mem_of_getElem? hf))
   rw [e1] at hJ ⊢
   exact T.eq (ih e2 (by omega) hl) (hJ _ (by rw [hb];rfl))
  ·have hb2:=zOF hb2
   rw [q3,zTl (by omega)]

/-! ### Told apart -/
theorem zpB (l:List Tag) (x:Tag) (hl:l.length <= 1000000):zfR l x=some (decide (x ∈ l)):=by
 refine T.eqs ?_
 unfold zfR
 refine T.lp (λ(k:Int)=>0 <= k/\k <= (l.length:Int)/\x ∉ l.take k.toNat) (λ(k:Int)=>((l.length:Int) - k).toNat) ⟨zIl _,by omega,by simp⟩ (by omega) λL k hk hL=>?_
 refine T.br (λh2=>?_) λh2=>T.some ?_
 ·have h2:=zOT h2
  refine T.get hk.1 h2 λy hy=>T.br (λh3=>T.some ?_) λh3=>T.ck (by omega) (hL _ ⟨by omega,by omega,?_⟩ (by omega))
  ·have h3:=zOT h3
   subst h3
   exact (zDT (List.mem_of_getElem? hy)).symm
  ·have h3:=zOF h3
   have e:(k + 1).toNat=k.toNat + 1:=by omega
   rw [e,List.take_add_one,hy]
   simp only [Option.toList_some,List.mem_append,zMo,not_or]
   exact ⟨hk.2.2,λh=>h3 h.symm⟩
 ·have h2:=zOF h2
  have h4:=hk.2.2
  rw [zTl (by omega)] at h4
  exact (zDF h4).symm
theorem zob {α:Type} {l:List (List α)} {k:Nat} {y:List α} (h:l[k]?=some y):(l.take (k + 1)).flatten=(l.take k).flatten ++ y:=by
 rw [List.take_add_one,h];simp
theorem zxN {α:Type} (l:List (List α)) (k:Nat):((l.take k).flatten).length <= l.flatten.length:=by
 conv=>rhs;rw [<- List.take_append_drop k l]
 rw [List.flatten_append,zLa]
 omega
theorem zqx (s:List (List Tag)) (h1:s.length <= 10000) (h2:s.flatten.length <= 100000):zg9 s=some (decide s.flatten.Nodup):=by
 refine T.eqs ?_
 unfold zg9
 refine T.lp (ι:=List Tag × Int) (λq=>0 <= q.2/\q.2 <= s.length/\q.1=(s.take q.2.toNat).flatten/\q.1.Nodup) (λq=>((s.length:Int) - q.2).toNat) ⟨zIl _,by dsimp only;omega,rfl,List.nodup_nil⟩ (by dsimp only;omega) λL q ⟨q1,q2,q3,q4⟩ hL=>?_
 obtain ⟨o,k⟩:=q
 dsimp only at q1 q2 q3 q4 hL ⊢
 refine T.br (λhb=>?_) λhb=>T.some ?_
 ·have hb:=zOT hb
  obtain ⟨y,hy⟩:∃ y,s[k.toNat]?=some y:=⟨_,List.getElem?_eq_getElem (by omega)⟩
  have hk1:(k + 1).toNat=k.toNat + 1:=by omega
  have hnx:=zob hy
  have hle:=zxN s (k.toNat + 1)
  rw [hnx,zLa] at hle
  have hget:∀ {β:Type} {R:β->Prop} {K:List Tag->Option β},T R (K y)->T R (cal (zq s k) K):=λh=>T.get q1 hb λy' hy'=>by rw [hy] at hy';cases hy';exact h
  have hpre:∀ n:Nat,n <= y.length->¬ ((s.take k.toNat).flatten ++ y.take n).Nodup->¬ s.flatten.Nodup:=λn hn hno h=>hno (by
   have e:s.flatten=((s.take k.toNat).flatten ++ y.take n) ++ (y.drop n ++ (s.drop (k.toNat + 1)).flatten):=by
    conv=>lhs;rw [<- List.take_append_drop (k.toNat + 1) s]
    rw [List.flatten_append,hnx]
    conv=>lhs;rw [<- List.take_append_drop n y]
    simp only [zLA]
   rw [e] at h
   exact (List.nodup_append.1 h).1)
  refine T.lp (ι:=List Tag × Int) (λp=>0 <= p.2/\p.2 <= y.length/\p.1=(s.take k.toNat).flatten ++ y.take p.2.toNat/\p.1.Nodup) (λp=>((y.length:Int) - p.2).toNat) ⟨zIl _,by dsimp only;omega,by dsimp only;rw [q3];simp,q4⟩ (by dsimp only;omega) λL2 p ⟨p1,p2,p3,p4⟩ hL2=>?_
  obtain ⟨o2,i⟩:=p
  dsimp only at p1 p2 p3 p4 hL2 ⊢
  have hi1:(i + 1).toNat=i.toNat + 1:=by omega
  refine hget (T.br (λhb2=>?_) λhb2=>T.ck (by omega) (hL _ ⟨by dsimp only;omega,by dsimp only;omega,?_,p4⟩ (by dsimp only;omega)))
  ·have hb2:=zOT hb2
   obtain ⟨z,hz⟩:∃ z,y[i.toNat]?=some z:=⟨_,List.getElem?_eq_getElem (by omega)⟩
   have hget2:∀ {β:Type} {R:β->Prop} {K:Tag->Option β},T R (K z)->T R (cal (zq y i) K):=λh=>T.get p1 hb2 λz' hz'=>by rw [hz] at hz';cases hz';exact h
   have hz2:y.take (i.toNat + 1)=y.take i.toNat ++ [z]:=by rw [List.take_add_one,hz];rfl
   have hol:o2.length <= 100000:=by rw [p3,zLa,zLt];omega
   refine hget (hget2 (T.eq (zpB _ _ (by omega)) (T.br (λhm=>T.some ?_) λhm=>hget (hget2 (T.abl (by simp only [zLs];omega) (T.ck (by omega) (hL2 _ ⟨by dsimp only;omega,by dsimp only;omega,?_,?_⟩ (by dsimp only;omega))))))))
   ·have hm:=zOT hm
    symm
    refine zDF (hpre (i.toNat + 1) (by omega) ?_)
    rw [hz2,<- zLA,<- p3]
    intro hnd
    have:=(List.nodup_append.1 hnd).2.2 z hm z (zMo.2 rfl)
    exact this rfl
   ·dsimp only;rw [hi1,hz2,p3,zLA]
   ·have hm:=zOF hm
    dsimp only
    rw [List.nodup_append]
    refine ⟨p4,by simp,λa ha b hb e=>?_⟩
    rw [zMo.1 hb] at e
    exact hm (e ▸ ha)
  ·have hb2:=zOF hb2
   dsimp only
   rw [hk1,hnx,p3,zTl (show y.length <= i.toNat by omega)]
 ·have hb:=zOF hb
  rw [q3,zTl (by omega)] at q4
  exact (zDT q4).symm

theorem znO {h:Nat} {l:List zg}:∀ {r:List Int} {a b:Nat},zaK (zbu h l) r a b->r.length <= b - a:=by
 intro r
 induction r with
 | nil=>intro a b _;exact zNz _
 | cons x r ih =>
  intro a b ⟨c,k0,k1,k2⟩
  have:=ih k2
  have:=k1.lt
  have:=zaK.le zbu.le' k2
  simp only [zLc];omega
def tld (h:Nat) (l:List zg) (fs:List zaF) (o:Bool):Bool:=!(fs.any λf=>wld h l f.ty && (o || decide (1 < fs.length))) && decide (fs.flatMap λf=>bgs h l f.ty).Nodup
theorem ztr {h a b:Nat} {x:GMk} {fs:List zaF} {o:Bool} (hk:zaK (zbu h x.l) (fs.map λf=>f.ty) a b) (hh:h <= 1000) (hl:x.l.length <= 1000) (hb:b <= x.l.length):zcM x fs o=some (tld h x.l fs o,x):=by
 refine T.eqs ?_
 unfold zcM
 have hfl:=znO hk
 rw [List.length_map] at hfl
 have hflat:=zo9 (bgs h x.l) (λx y hs=>zmb hs) hk
 rw [List.flatMap_map] at hflat
 have hfu:h <= fuel:=by unfold fuel;omega
 have hsub:∀ f ∈ fs,∃ c d:Nat,f.ty=(c:Int)/\zbu h x.l c d:=λf hf=>by
  obtain ⟨c,d,e1,e2,_⟩:=zaK.mem3 zbu.le' hk (List.mem_map.2 ⟨f,hf,rfl⟩)
  exact ⟨c,d,e1,e2⟩
 refine T.lp (ι:=List (List Tag) × Int) (λq=>0 <= q.2/\q.2 <= fs.length/\q.1=(fs.take q.2.toNat).map (λf=>bgs h x.l f.ty)/\(fs.take q.2.toNat).any (λf=>wld h x.l f.ty && (o || decide (1 < fs.length)))=false) (λq=>((fs.length:Int) - q.2).toNat) ⟨zIl _,by dsimp only;omega,rfl,rfl⟩ (by dsimp only;omega) λL q ⟨q1,q2,q3,q4⟩ hL=>?_
 obtain ⟨s,k⟩:=q
 dsimp only at q1 q2 q3 q4 hL ⊢
 refine T.br (λhb1=>?_) λhb1=>?_
 ·have hb1:=zOT hb1
  have hk1:(k + 1).toNat=k.toNat + 1:=by omega
  refine T.get q1 hb1 λf hf=>?_
  obtain ⟨c,d,e1,e2⟩:=hsub f (List.mem_of_getElem? hf)
  have htk:fs.take (k.toNat + 1)=fs.take k.toNat ++ [f]:=by rw [List.take_add_one,hf];rfl
  rw [e1]
  refine T.eq (zt9 e2 hfu hl) (T.jp (λq=>q=(wld h x.l f.ty && (o || decide (1 < fs.length)))) (λJ hJ=>T.br (λh2=>T.jp (λq=>q=(o || decide (1 < fs.length))) (λJ2 hJ2=>T.br (λh3=>hJ2 _ (by rw [h3];rfl)) λh3=>hJ2 _ (by rw [h3,Bool.false_or,decide_eq_decide];omega)) λq hq=>hJ _ (by rw [e1,h2,hq];rfl)) λh2=>hJ _ (by rw [e1,h2];rfl)) λq hq=>?_)
  refine T.br (λh2=>T.some ?_) λh2=>T.get q1 hb1 λf' hf'=>?_
  ·have:(fs.any λf=>wld h x.l f.ty && (o || decide (1 < fs.length)))=true:=List.any_eq_true.2 ⟨f,List.mem_of_getElem? hf,by rw [<- hq];exact h2⟩
   unfold tld
   rw [this];rfl
  ·rw [hf] at hf';cases hf'
   rw [e1]
   refine T.eq (zrS e2 hfu hl) (T.abl (by rw [q3,List.length_map,zLt,zLs];omega) (T.ck (by omega) (hL _ ⟨by dsimp only;omega,by dsimp only;omega,?_,?_⟩ (by dsimp only;omega))))
   ·dsimp only;rw [hk1,htk,q3,List.map_append,List.map_singleton,e1]
   ·dsimp only;rw [hk1,htk,List.any_append,q4,List.any_cons,<- hq,h2];rfl
 ·have hb1:=zOF hb1
  rw [zTl (by omega)] at q3 q4
  have hfe:s.flatten=fs.flatMap λf=>bgs h x.l f.ty:=by rw [q3];rfl
  refine T.eq (zqx s (by rw [q3,List.length_map];omega) (by rw [hfe];omega)) (T.some ?_)
  unfold tld
  rw [q4,hfe];rfl

def lse (t:zg):List Bool:=t.fields.mapIdx λk f=>f.optional || f.has || decide (t.root <= (k:Int))
theorem zp1 (t:zg):(lse t).length=t.fields.length:=by unfold lse;rw [List.length_mapIdx]
theorem zw0 {t:zg} {k:Nat} {f:zaF} (h:t.fields[k]?=some f):(lse t)[k]?=some (f.optional || f.has || decide (t.root <= (k:Int))):=by
 unfold lse;rw [List.getElem?_mapIdx,h];rfl
theorem zq5 (t:zg) (hl:t.fields.length <= 1000):zie t=some (lse t):=by
 refine T.eqs ?_
 unfold zie
 have hll:=zp1 t
 refine T.lp (ι:=List Bool × Int) (λq=>0 <= q.2/\q.2 <= t.fields.length/\q.1=(lse t).take q.2.toNat) (λq=>((t.fields.length:Int) - q.2).toNat) ⟨zIl _,by dsimp only;omega,rfl⟩ (by dsimp only;omega) λL q ⟨q1,q2,q3⟩ hL=>?_
 obtain ⟨s,k⟩:=q
 dsimp only at q1 q2 q3 hL ⊢
 refine T.br (λhb=>?_) λhb=>T.some ?_
 ·have hb:=zOT hb
  refine T.get q1 hb λf hf=>?_
  refine T.jp (λq=>q=(f.optional || f.has)) (λJ h=>T.br (λh2=>h _ (by rw [h2];rfl)) λh2=>T.get q1 hb λf' hf'=>h _ (by rw [hf] at hf';cases hf';rw [h2];rfl)) λq hq=>?_
  refine T.jp (λq'=>q'=(f.optional || f.has || decide (t.root <= k))) (λJ h=>T.br (λh2=>h _ (by rw [<- hq,h2];rfl)) λh2=>h _ (by rw [<- hq,h2];rfl)) λq' hq'=>?_
  have hk1:(k + 1).toNat=k.toNat + 1:=by omega
  have hkk:((k.toNat:Nat):Int)=k:=by omega
  have:=zw0 hf
  rw [hkk] at this
  refine T.abl (by rw [q3,zLt,zLs];omega) (T.ck (by omega) (hL _ ⟨by dsimp only;omega,by dsimp only;omega,?_⟩ (by dsimp only;omega)))
  dsimp only
  rw [hk1,List.take_add_one,this,q3,hq'];rfl
 ·have hb:=zOF hb
  rw [q3,zTl (by omega)]
def lst (t:zg):Nat->Nat
 | 0=>0
 | k + 1=>if (lse t)[k]?=some true then lst t k else k + 1
theorem zvA (t:zg):∀ k,lst t k <= k
 | 0=>zNl _
 | k + 1=>by
  unfold lst
  split
  ·exact Nat.le_trans (zvA t k) (Nat.le_succ k)
  ·exact zNl _
theorem ztH (t:zg) (hl:t.fields.length <= 1000) (h0:0 <= t.root) (h1:t.root <= t.fields.length):zjB t=some ((lst t t.root.toNat:Nat):Int):=by
 refine T.eqs ?_
 unfold zjB
 have hll:=zp1 t
 refine T.eq (zq5 t hl) (T.lp (λ(k:Int)=>0 <= k/\k <= t.root/\lst t t.root.toNat=lst t k.toNat) (λ(k:Int)=>k.toNat) ⟨h0,zIl _,rfl⟩ (by omega) λL k ⟨k1,k2,k3⟩ hL=>?_)
 refine T.jp (λq=>(q=true->0 < k/\lst t k.toNat=lst t (k - 1).toNat)/\(q=false->lst t k.toNat=k.toNat)) (λJ h=>T.br (λhb=>?_) λhb=>h _ ⟨(λh=>by cases h),λ_=>?_⟩) λq hq=>?_
 ·have hb:=zOT hb
  have e:k.toNat=(k - 1).toNat + 1:=by omega
  refine T.ck (by omega) (T.get (by omega) (by omega) λy hy=>h _ ?_)
  rw [e]
  refine ⟨λhy1=>⟨hb,?_⟩,λhy1=>?_⟩
  ·rw [lst,if_pos (by rw [hy,hy1])]
  ·rw [lst,if_neg (by rw [hy,hy1];simp)]
 ·have hb:=zOF hb
  have e:k.toNat=0:=by omega
  rw [e];rfl
 ·refine T.br (λh2=>T.ck (by have:=(hq.1 h2).1;omega) (hL _ ⟨by have:=(hq.1 h2).1;omega,by omega,by rw [k3,(hq.1 h2).2]⟩ (by have:=(hq.1 h2).1;omega))) λh2=>T.some ?_
  rw [k3,hq.2 h2];omega
theorem KidsT.sub {h:Nat} {l:List zg}:∀ {r a b} (n m:Nat),zaK (zbu h l) r a b->∃ c d,zaK (zbu h l) ((r.take n).drop m) c d/\d <= b:=by
 intro r a b n m hk
 have h1:r=(r.take n).take m ++ ((r.take n).drop m ++ r.drop n):=by
  rw [<- zLA,List.take_append_drop,List.take_append_drop]
 rw [h1] at hk
 obtain ⟨c,_,h3⟩:=zaK.app hk
 obtain ⟨d,h4,h5⟩:=zaK.app h3
 exact ⟨c,d,h4,zaK.le zbu.le' h5⟩
theorem zuJ {h a b:Nat} {x:GMk} {t:zg} (hk:zaK (zbu h x.l) (t.fields.map λf=>f.ty) a b) (hh:h <= 1000) (hl:x.l.length <= 1000) (hb:b <= x.l.length) (r0:0 <= t.root) (r1:t.kind=7->t.root <= t.fields.length):T (λr=>r.2=x) (zdQ x t):=by
 unfold zdQ
 have hfl:=znO hk
 rw [List.length_map] at hfl
 have hfl1:t.fields.length <= 1000:=by omega
 have hll:=zp1 t
 refine T.br (λ_=>T.eq (ztr hk hh hl hb) (T.some rfl)) λhk7=>?_
 have hk7:t.kind=7:=by simpa using hk7
 have hsub:∀ (n m:Nat) (o:Bool),zcM x ((t.fields.take n).drop m) o=some (tld h x.l ((t.fields.take n).drop m) o,x):=λn m o=>by
  obtain ⟨c,d,k1,k2⟩:=KidsT.sub n m hk
  rw [<- List.map_take,<- List.map_drop] at k1
  exact ztr k1 hh hl (by omega)
 refine T.eq (zq5 t hfl1) (T.lp (ι:=Int × GMk) (λq=>0 <= q.1/\q.1 <= t.fields.length/\q.2=x) (λq=>((t.fields.length:Int) - q.1).toNat) ⟨zIl _,by dsimp only;omega,rfl⟩ (by dsimp only;omega) λL q ⟨q1,q2,q3⟩ hL=>?_)
 obtain ⟨k,y⟩:=q
 dsimp only at q1 q2 q3 hL ⊢
 subst q3
 refine T.br (λhb1=>?_) λhb1=>?_
 ·have hb1:=zOT hb1
  refine T.jp (ι:=GMk) (λz=>z=y) (λJ hJ=>T.get q1 (by omega) λc hc=>T.br (λ_=>hJ _ rfl) λ_=>T.ck (by omega) ?_) λz hz=>T.ck (by omega) (hL _ ⟨by dsimp only;omega,by dsimp only;omega,hz⟩ (by dsimp only;omega))
  refine T.lp (λ(e:Int)=>k + 1 <= e/\e <= t.fields.length) (λ(e:Int)=>((t.fields.length:Int) - e).toNat) ⟨zIl _,by omega⟩ (by omega) λL2 e ⟨e1,e2⟩ hL2=>?_
  refine T.jp (λq=>q=true->e < t.fields.length) (λJ2 h2=>T.br (λh3=>T.get (by omega) (by have:=zOT h3;omega) λ_ _=>h2 _ λ_=>zOT h3) λ_=>h2 _ λh=>by cases h) λq hq=>?_
  refine T.br (λh3=>T.ck (by have:=hq h3;omega) (hL2 _ (by have:=hq h3;omega) (by have:=hq h3;omega))) λ_=>T.ck (by omega) (T.asd (by omega) (T.eq (hsub _ _ _) (T.br (λ_=>T.some rfl) λ_=>hJ _ rfl)))
 ·refine T.jp (ι:=Bool × GMk) (λz=>z.2=y) (λJ hJ=>T.br (λ_=>hJ _ rfl) λ_=>T.eq (ztH t hfl1 r0 (r1 hk7)) ?_) λz hz=>T.some hz
  have:=zvA t t.root.toNat
  have:=r1 hk7
  exact T.asd ⟨by omega,by omega,zIl _⟩ (T.eq (hsub _ _ _) (hJ _ rfl))
def fl (x:GMk) (e:Int):GMk:=if x.e=0 then GMk.mk x.m x.l e else x
theorem zlE (x:GMk) (e:Int):zbi x e=some (fl x e):=zmZ x e
theorem zzR (x:GMk) (e:Int):(fl x e).m=x.m:=by unfold fl;split <;> rfl
theorem zz5 (x:GMk) (e:Int):(fl x e).l=x.l:=by unfold fl;split <;> rfl
theorem zvJ {x:GMk} {e:Int} (h:e ≠ 0):(fl x e).e ≠ 0:=by
 unfold fl
 split
 ·exact h
 ·assumption
structure Sm (x y:GMk):Prop where
 m:y.m=x.m
 l:y.l=x.l
 e:y.e=0->x.e=0
theorem Sm.refl (x:GMk):Sm x x:=⟨rfl,rfl,λh=>h⟩
theorem Sm.trans {x y z:GMk} (h:Sm x y) (k:Sm y z):Sm x z:=⟨k.m.trans h.m,k.l.trans h.l,λe=>h.e (k.e e)⟩
theorem Sm.fl {x:GMk} {e:Int} (h:e ≠ 0):Sm x (fl x e):=⟨zzR x e,zz5 x e,λk=>absurd k (zvJ h)⟩
theorem zoI {x:GMk} {i:Nat} {t:zg} (v:Val) (ht:x.l[i]?=some t) (hv:DOk v) (r0:0 <= t.root) (r1:t.kind=3->t.root <= t.items.length) (hi:t.items.length <= 8001) :
    T (λr=>Sm x r.2/\DOk r.1) (zcQ x (i:Int) v):=by
  unfold zcQ
  have hlt:=(List.getElem?_eq_some_iff.1 ht).1
  have hti:(i:Int).toNat=i:=Int.toNat_natCast i
  refine T.asd ⟨by omega,by omega⟩ ?_
  rw [hti]
  refine T.eq ht (T.jp (ι:=Bool × Val) (λq=>DOk q.2) (λJ k=>?_) λq hq=>T.jp (ι:=GMk) (λy=>Sm x y) (λJ k=>T.br (λ_=>T.eq (zlE _ _) (k _ (Sm.fl (by decide)))) λ_=>k _ (Sm.refl x)) λy hy=>T.some ⟨hy,hq⟩)
  refine T.jp (λ_=>True) (λJ1 k1=>T.br (λ_=>k1 _ trivial) λ_=>k1 _ trivial) λb1 _=>T.br (λ_=>k _ hv) λ_=>?_
  refine T.br (λ_=>T.jp (λ_=>True) (λJ1 k1=>T.br (λ_=>T.cal (zoA _ _) λ_ _ _=>k1 _ trivial) λ_=>k1 _ trivial) λb2 _=>k _ hv) λ_=>?_
  refine T.jp (λ_=>True) (λJ1 k1=>T.br (λ_=>k1 _ trivial) λ_=>k1 _ trivial) λb3 _=>T.br (λ_=>?_) λ_=>?_
  · refine T.jp (λ_=>True) (λJ1 k1=>T.br (λ_=>T.cal (zoA _ _) λ_ _ _=>k1 _ trivial) λ_=>k1 _ trivial) λb4 _=>?_
    refine T.jp (λ_=>True) (λJ1 k1=>T.br (λ_=>T.jp (λ_=>True) (λJ2 k2=>T.br (λ_=>k2 _ trivial) λ_=>T.cal (znS _ (by have:=hv.1;omega)) λ_ _ _=>k2 _ trivial) λb5 _=>k1 _ trivial) λ_=>k1 _ trivial) λb6 _=>k _ hv
  · refine T.br (λh3=>T.br (λ_=>?_) λ_=>k _ hv) λ_=>k _ hv
    have h3:=zOT h3
    have r2:=r1 h3
    refine T.lp (ι:=Bool × Int × Val) (λq=>0 <= q.2.1/\q.2.1 <= t.root/\DOk q.2.2) (λq=>(t.root - q.2.1).toNat) ⟨zIl _,r0,hv⟩ (by dsimp only;omega) λL q ⟨q1,q2,q3⟩ hL=>?_
    obtain ⟨b,j,w⟩:=q
    dsimp only at q1 q2 q3 hL ⊢
    refine T.jp (λb'=>b'=true->j < t.root) (λJ1 k1=>T.br (λh4=>k1 _ λ_=>zOT h4) λ_=>k1 _ λh=>by cases h) λb' hb'=>T.br (λh5=>?_) λ_=>k _ q3
    have h5:=hb' h5
    refine T.jp (ι:=Bool × Val) (λp=>DOk p.2) (λJ2 k2=>T.get q1 (by omega) λy _=>T.br (λ_=>T.get q1 (by omega) λy2 _=>k2 _ ⟨zNz _,rfl,rfl,zOT rfl,zOT rfl,rfl⟩) λ_=>k2 _ q3) λp hp=>T.ck (by omega) (hL _ ⟨by dsimp only;omega,by dsimp only;omega,hp⟩ (by dsimp only;omega))
theorem zor {x:GMk} {i:Nat} (hi:i < x.l.length):T (λr=>r.2=x) (zdF x (i:Int)):=by
 unfold zdF
 have hti:(i:Int).toNat=i:=Int.toNat_natCast i
 refine T.asd ⟨by omega,by omega⟩ ?_
 rw [hti]
 exact T.eq (List.getElem?_eq_getElem hi) (T.br (λ_=>T.some rfl) λ_=>T.some rfl)
theorem ztO (tags:List Tag) (n mode:Int) (hl:tags.length <= 1000000):T (λr=>r.2=0->r.1 ≠ []/\r.1.length <= tags.length + 1) (zkM tags n mode):=by
 unfold zkM
 refine T.jp (λ_=>True) (λJ k=>T.br (λ_=>k _ trivial) λ_=>k _ trivial) λb1 _=>?_
 refine T.jp (λb=>b=false->(mode=1->0 < tags.length)) (λJ k=>T.br (λ_=>k _ λh=>by cases h) λ_=>?_) λb2 hb2=>T.br (λ_=>T.some λh=>by cases h) λh2=>?_
 ·refine T.jp (λb=>b=false->(mode=1->0 < tags.length)) (λJ2 k2=>T.br (λ_=>k2 _ λh _=>?_) λh=>k2 _ λ_ hm=>absurd hm (zOF h)) λb hb=>k _ hb
  have:=zOF h
  omega
 ·have h2:=hb2 h2
  rw [tkl]
  refine T.br (λh3=>T.asd ⟨by omega,by have:=h2 (zOT h3);omega,zIl _⟩ (T.abl (by rw [zLd,zLs];omega) (T.some λ_=>⟨by simp,by dsimp only;rw [zLa,zLd,zLs];omega⟩))) λh3=>T.abl (by rw [zLs];omega) (T.some λ_=>⟨by simp,by dsimp only;rw [zLa,zLs];omega⟩)
def Wp1 (x y:GMk) (i:Nat):Prop:=y.m=x.m/\y.l.length=x.l.length/\(y.e=0->x.e=0/\∀ t,x.l[i]?=some t->∃ tg:List Tag,y.l=x.l.set i { t with tags:=tg }/\tg ≠ []/\tg.length <= t.tags.length + 1)
theorem znX {x:GMk} {i:Nat} {t:zg} (n mode:Int) (ht:x.e=0->x.l[i]?=some t/\t.tags.length <= 100000):T (λy=>Wp1 x y i) (zdG x (i:Int) n mode):=by
 unfold zdG
 refine T.br (λhe=>T.some ⟨rfl,rfl,λh=>absurd h (by simpa using he)⟩) λhe=>?_
 have he:x.e=0:=by simpa using he
 obtain ⟨h1,h2⟩:=ht he
 have hlt:=(List.getElem?_eq_some_iff.1 h1).1
 have hti:(i:Int).toNat=i:=Int.toNat_natCast i
 refine T.asd ⟨by omega,by omega⟩ ?_
 rw [hti]
 refine T.eq h1 (T.cal (ztO _ _ _ (by omega)) λr _ hr=>T.br (λhr2=>T.eq (zlE _ _) (T.some ⟨zzR _ _,by rw [zz5],λh=>absurd h (zvJ (by simpa using hr2))⟩)) λhr2=>?_)
 have hr2:r.2=0:=by simpa using hr2
 obtain ⟨h3,h4⟩:=hr hr2
 refine T.asd ⟨by omega,by omega⟩ (T.eq h1 (T.some ⟨rfl,by dsimp only;rw [List.length_set],λ_=>⟨he,λt' ht'=>?_⟩⟩))
 rw [h1] at ht';cases ht'
 exact ⟨r.1,rfl,h3,h4⟩
theorem zkS.tag {t:zg} (h:zkS t) {tg:List Tag} (h1:tg ≠ []) (h2:tg.length <= 100000):zkS { t with tags:=tg } :=
 ⟨λ_=>h1,h2,h.root0,h.rootF,h.rootI,h.fields,h.items,h.ilen,h.nums,h.dflt,h.rootZ⟩
def Dn (m:zaA) (a:Int) (k j:Nat):Prop:=∀ (p:Nat) (n:zh),k <= p->p < j->m.nodes[p]?=some n->n.kind=11->0 <= fnd m.names n.name/\Ed (gr m) a (fnd m.names n.name)
structure Env (m:zaA) (rk:Int->Nat):Prop where
 wf:WF m
 rk40:∀ i,rk i <= 40
 ed:∀ i j,Ed (gr m) i j->rk j < rk i
 root:∀ b:Int,0 <= b->b < m.names.length->∃ c d:Nat,m.types[b.toNat]?=some (c:Int)/\Sub 17 m.nodes c d/\d <= m.nodes.length/\Dn m b c d
structure Gk (x y:GMk):Prop where
 m:y.m=x.m
 le:x.l.length <= y.l.length
 lim:y.l.length <= 300
 e:y.e=0->x.e=0
 pre:y.e=0->∀ k,k < x.l.length->y.l[k]?=x.l[k]?
theorem Gk.refl {x:GMk} (h:x.l.length <= 300):Gk x x:=⟨rfl,zNl _,h,λe=>e,λ_ _ _=>rfl⟩
theorem Gk.sm {x y:GMk} (h:Sm x y) (k:x.l.length <= 300):Gk x y:=⟨h.m,by rw [h.l];exact zNl _,by rw [h.l];exact k,h.e,λ_ _ _=>by rw [h.l]⟩
theorem Gk.trans {x y z:GMk} (h:Gk x y) (k:Gk y z):Gk x z :=
 ⟨k.m.trans h.m,Nat.le_trans h.le k.le,k.lim,λe=>h.e (k.e e),λe p hp=>(k.pre e p (Nat.lt_of_lt_of_le hp h.le)).trans (h.pre (k.e e) p hp)⟩
def zr3 (m:zaA) (rk:Int->Nat) (f:GMk->Int->Int->Option (Int × GMk)) (N:Nat):Prop :=
 ∀ (x:GMk) (k j h:Nat) (a d:Int),x.m=m->x.l.length <= 300->Sub h m.nodes k j->j <= m.nodes.length->Dn m a k j->rk a * 301 + (j - k) <= N->0 <= d->d <= 17 ->
 T (λr=>Gk x r.2/\(r.2.e=0->r.1=(x.l.length:Int)/\zbu (17 - d).toNat r.2.l x.l.length r.2.l.length/\∃ t,r.2.l[x.l.length]?=some t/\t.tags.length <= N + 1)) (f x (k:Int) d)
def zrL (m:zaA) (rk:Int->Nat) (f:GMk->zh->Int->Option (Int × GMk)) (N:Nat):Prop :=
 ∀ (x:GMk) (n:zh) (k j h:Nat) (a d:Int),x.m=m->x.l.length <= 300->m.nodes[k]?=some n->n.kind ≠ 11->Sub h m.nodes k j->j <= m.nodes.length->Dn m a k j->rk a * 301 + (j - k) <= N->0 <= d->d <= 17 ->
 T (λr=>Gk x r.2/\(r.2.e=0->r.1=(x.l.length:Int)/\zbu (17 - d).toNat r.2.l x.l.length r.2.l.length/\∃ t,r.2.l[x.l.length]?=some t/\t.tags.length <= 1)) (f x n d)
def zl1 (m:zaA) (rk:Int->Nat) (f:GMk->Int->zh->Int->Option GMk) (N:Nat):Prop :=
 ∀ (x:GMk) (n:zh) (k j h:Nat) (a d:Int) (l0:List zg) (t:zg),x.m=m->x.l=l0 ++ [t]->x.l.length <= 300->m.nodes[k]?=some n->zaK (Sub h m.nodes) (n.fields.map λf=>f.ty) (k + 1) j->j <= m.nodes.length->Dn m a k j->rk a * 301 + (j - k) <= N->0 <= d->d <= 16 ->
  (n.kind=7 \/ n.kind=8 \/ n.kind=9)->t.kind=n.kind->t.root=n.root ->
 T (λy=>y.m=m/\x.l.length <= y.l.length/\y.l.length <= 300/\(y.e=0->x.e=0/\(∀ p,p < l0.length->y.l[p]?=x.l[p]?)/\∃ fs,y.l[l0.length]?=some { t with fields:=fs }/\fs.length=n.fields.length/\zaK (zbu (16 - d).toNat y.l) (fs.map λf=>f.ty) x.l.length y.l.length/\∀ f ∈ fs,DOk f.dflt)) (f x (l0.length:Int) n d)

theorem zaK.subs {h:Nat} {l:List zh} {k:Int} {r:List Int} {a b:Nat} (hk:zaK (Sub h l) r a b) (hm:k ∈ r):∃ (c d:Nat),k=(c:Int)/\Sub h l c d/\a <= c/\d <= b:=zaK.mem3 (λx y h=>Nat.le_of_lt h.lt) hk hm
theorem Dn.part {m:zaA} {a:Int} {k j c d:Nat} (h:Dn m a k j) (h1:k <= c) (h2:d <= j):Dn m a c d:=λp n hp hq=>h p n (by omega) (by omega)

theorem zl4 {m : zaA} {rk:Int->Nat} {Fs Nd Md} {N:Nat} (E:Env m rk) (hN:N <= 50000) (hnd:∀ N',N' + 1=N->zr3 m rk Nd N'):zl1 m rk (zcU Fs Nd Md) N:=by
  intro x n k j h a d l0 t hm hxl hx3 hk hkid hj hdn hN2 hd0 hd hkind htk htr
  unfold zcU
  have hok:=E.wf.ok n (List.mem_of_getElem? hk)
  have hkl:=zaK.length hkid
  have hnl:=E.wf.nodes
  rw [List.length_map] at hkl
  have hxlen:x.l.length=l0.length + 1:=by rw [hxl,zLa,zLs]
  have hsub:∀ f ∈ n.fields,∃ c d:Nat,f.ty=(c:Int)/\Sub h m.nodes c d/\k + 1 <= c/\d <= j:=λf hf=>by
    obtain ⟨c,d,h1,h2,h3,h4⟩:=zaK.subs hkid (List.mem_map.2 ⟨f,hf,rfl⟩)
    exact ⟨c,d,h1,h2,h3,h4⟩
  refine T.lp (ι:=Bool × Int) (λq=>0 <= q.2/\q.2 <= n.fields.length) (λq=>((n.fields.length:Int) - q.2).toNat) ⟨zIl _,by dsimp only;omega⟩ (by dsimp only;omega) λL q ⟨q1,q2⟩ hL=>?_
  obtain ⟨mk,i⟩:=q
  dsimp only at q1 q2 hL ⊢
  refine T.br (λhb=>?_) λhb=>?_
  · have hb:=zOT hb
    refine T.get q1 hb λf hf=>?_
    obtain ⟨c,dd,h1,h2,h3,h4⟩:=hsub f (List.mem_of_getElem? hf)
    have:=h2.lt
    refine T.jp (λ_=>True) (λJ kk=>T.br (λ_=>kk _ trivial) λ_=>T.get (by omega) (by rw [hm];omega) λ_ _=>kk _ trivial) λb _=>T.ck (by omega) (hL _ ⟨by dsimp only;omega,by dsimp only;omega⟩ (by dsimp only;omega))
  refine T.jp (λ_=>True) (λJ kk=>T.br (λ_=>kk _ trivial) λ_=>kk _ trivial) λb1 _=>T.jp (λ_=>True) (λJ kk=>T.br (λ_=>kk _ trivial) λ_=>kk _ trivial) λb2 _=>?_
  refine T.jp (ι:=GMk) (λy=>Sm x y) (λJ kk=>T.br (λ_=>T.eq (zlE _ _) (kk _ (Sm.fl (by decide)))) λ_=>kk _ (Sm.refl x)) λx1 hx1=>?_
  -- the fields, one behind the other
  have hD:(17 - (d + 1)).toNat=(16 - d).toNat:=by omega
  refine T.lp (ι:=List zaF × Int × GMk) (λq=>0 <= q.2.1/\q.2.1 <= n.fields.length/\Gk x q.2.2/\(q.1.length:Int)=q.2.1/\(q.2.2.e=0->zaK (zbu (16 - d).toNat q.2.2.l) (q.1.map λf=>f.ty) x.l.length q.2.2.l.length/\∀ f ∈ q.1,DOk f.dflt)) (λq=>((n.fields.length:Int) - q.2.1).toNat)
    ⟨zIl _,by dsimp only;omega,Gk.sm hx1 hx3,rfl,λ_=>⟨by dsimp only;rw [hx1.l];rfl,by simp⟩⟩ (by dsimp only;omega) λL2 q ⟨p1,p2,p3,p4,p5⟩ hL2=>?_
  obtain ⟨out,i2,y⟩:=q
  dsimp only at p1 p2 p3 p4 p5 hL2 ⊢
  refine T.jp (λb=>(b=true->i2 < n.fields.length)/\(b=false->y.e=0->¬ i2 < n.fields.length)) (λJ kk=>T.br (λh1=>kk _ ⟨λ_=>zOT h1,λh2 h3=>absurd h3 (zOF h2)⟩) λh1=>kk _ ⟨(λh=>by cases h),λ_ _=>zOF h1⟩) λb hb2=>T.br (λhb3=>?_) λhb3=>?_
  · have hb3 := hb2.1 hb3
    refine T.get p1 hb3 λf hf=>?_
    obtain ⟨c,dd,h1,h2,h3,h4⟩:=hsub f (List.mem_of_getElem? hf)
    have hclt:=h2.lt
    have hN1:N - 1 + 1 < 100000:=by omega
    have hA:∀ p:zaF,(out ++ [p]).length <= 100000/\((out ++ [p]).length:Int)=i2 + 1:=λp=>by rw [zLa,zLs];omega
    have hA2:0 <= i2 + 1/\i2 + 1 <= (n.fields.length:Int)/\i2 + 1 <= 100000:=by omega
    have hA4:-9223372036854775808 <= i2 + 1/\i2 + 1 <= 9223372036854775807:=by omega
    have hA3:((n.fields.length:Int) - (i2 + 1)).toNat < ((n.fields.length:Int) - i2).toNat:=by omega
    have hfd:DOk f.dflt:=hok.dflt f (List.mem_of_getElem? hf)
    refine T.lp (ι:=Int × GMk) (λp=>0 <= p.1/\p.1 <= i2/\Sm y p.2) (λp=>(i2 - p.1).toNat) ⟨zIl _,p1,Sm.refl y⟩ (by dsimp only;omega) λL3 p ⟨s1,s2,s3⟩ hL3=>?_
    obtain ⟨i3,y2⟩:=p
    dsimp only at s1 s2 s3 hL3 ⊢
    refine T.br (λhb4=>?_) λhb4=>?_
    · have hb4:=zOT hb4
      refine T.jp (ι:=GMk) (λz=>Sm y z) (λJ kk=>T.get s1 (by omega) λg _=>T.br (λ_=>T.eq (zlE _ _) (kk _ (s3.trans (Sm.fl (by decide))))) λ_=>kk _ s3) λz hz=>T.ck (by omega) (hL3 _ ⟨by dsimp only;omega,by dsimp only;omega,hz⟩ (by dsimp only;omega))
    refine T.ck (by omega) ?_
    rw [h1]
    have hy2l:y2.l.length=y.l.length:=by rw [s3.l]
    have hlim:=p3.lim
    refine T.cal (hnd (N - 1) (by omega) y2 c dd h a (d + 1) (s3.m.trans (p3.m.trans hm)) (by omega) h2 (by omega) (hdn.part (by omega) h4) (by omega) (by omega) (by omega)) λr _ ⟨r1,r2⟩=>?_
    have g1:Gk x r.2:=p3.trans ((Gk.sm s3 hlim).trans r1)
    refine T.jp (λb=>b=true->r.2.e=0) (λJ kk=>T.br (λh5=>kk _ λ_=>zOT h5) λ_=>kk _ λh=>by cases h) λb5 hb5=>?_
    -- the default
    refine T.jp (ι:=zaF × GMk) (λp=>Sm r.2 p.2/\p.1.ty=r.1/\DOk p.1.dflt) (λJ kk=>T.br (λh6=>?_) λ_=>kk _ ⟨Sm.refl _,rfl,hfd⟩) λp ⟨u1,u2,u3⟩=>?_
    · have h6:=hb5 h6
      obtain ⟨e1,e2,t1,e3,e4⟩:=r2 h6
      rw [e1]
      have hto:zkS t1:=by
        have:0 < (17 - (d + 1)).toNat:=by
          rcases Nat.eq_zero_or_pos (17 - (d + 1)).toNat with h | h
          · rw [h] at e2;exact e2.elim
          · exact h
        obtain ⟨D',hD'⟩:∃ D',(17 - (d + 1)).toNat=D' + 1:=⟨_,(Nat.succ_pred_eq_of_pos this).symm⟩
        rw [hD'] at e2
        obtain ⟨t2,k1,k2,_⟩:=e2
        rw [e3] at k1;cases k1;exact k2
      exact T.cal (zoI f.dflt e3 hfd hto.root0 hto.rootI hto.ilen) λs _ hs=>kk _ ⟨hs.1,e1.symm,hs.2⟩
    refine T.jp (λb=>b=true->p.2.e=0) (λJ kk=>T.br (λh5=>kk _ λ_=>zOT h5) λ_=>kk _ λh=>by cases h) λb6 hb6=>?_
    -- a tag of its own
    have hfin : ∀ z:GMk,z.m=r.2.m->z.l.length=r.2.l.length->(z.e=0->r.2.e=0/\((z.l=r.2.l) \/ ∃ t1 tg,r.2.l[y2.l.length]?=some t1/\z.l=r.2.l.set y2.l.length { t1 with tags:=tg }/\tg ≠ []/\tg.length <= t1.tags.length + 1)) ->
        Gk x z/\(z.e=0->zaK (zbu (16 - d).toNat z.l) ((out ++ [p.1]).map λf=>f.ty) x.l.length z.l.length/\∀ f ∈ out ++ [p.1],DOk f.dflt):=by
      intro z z1 z2 z3
      have hpre:z.e=0->∀ q,q < y2.l.length->z.l[q]?=r.2.l[q]?:=λez q hq=>by
        rcases (z3 ez).2 with h | ⟨t1,tg,_,h,_⟩
        · rw [h]
        · rw [h,List.getElem?_set_ne (by omega)]
      refine ⟨⟨z1.trans g1.m,by rw [z2];exact g1.le,by rw [z2];exact g1.lim,λez=>g1.e (z3 ez).1,λez q hq=>?_⟩,λez=>?_⟩
      · have:=p3.le
        rw [hpre ez q (by omega)]
        exact g1.pre (z3 ez).1 q hq
      · have er := (z3 ez).1
        obtain ⟨e1,e2,t1,e3,e4⟩:=r2 er
        have ey:y.e=0:=s3.e (r1.e er)
        obtain ⟨k1,k2⟩:=p5 ey
        rw [hD] at e2
        have e2z:zbu (16 - d).toNat z.l y2.l.length z.l.length:=by
          rw [z2]
          rcases (z3 ez).2 with h | ⟨t2,tg,k3,h,k4,k5⟩
          · rw [h];exact e2
          · rw [h]
            rw [e3] at k3;cases k3
            have hto:zkS t1:=by
              cases hDz:(16 - d).toNat with
              | zero=>rw [hDz] at e2;exact e2.elim
              | succ D' =>
                rw [hDz] at e2
                obtain ⟨t3,k6,k7,_⟩:=e2
                rw [e3] at k6;cases k6;exact k7
            exact e2.set e3 (hto.tag k4 (Nat.le_trans k5 (Nat.succ_le_of_lt (Nat.lt_of_le_of_lt e4 hN1)))) rfl
        rw [hy2l] at e2z
        refine ⟨?_,λf' hf'=>?_⟩
        · rw [List.map_append,List.map_singleton,u2,e1,hy2l]
          refine zaK.snoc (KidsT.monoL (λq hq1 hq2=>?_) k1) e2z
          rw [hpre ez q (by omega),r1.pre er q (by omega),s3.l]
        · rcases List.mem_append.1 hf' with h | h
          · exact k2 f' h
          · rw [zMo.1 h];exact u3
    refine T.jp (ι:=GMk) (λz=>Gk x z/\(z.e=0->zaK (zbu (16 - d).toNat z.l) ((out ++ [p.1]).map λf=>f.ty) x.l.length z.l.length/\∀ f ∈ out ++ [p.1],DOk f.dflt)) (λJ kk=>T.br (λh6=>?_) λ_=>kk _ (hfin p.2 u1.m (by rw [u1.l]) λez=>⟨u1.e ez,.inl u1.l⟩)) λz ⟨v1,v2⟩=>?_
    · have h6:=hb6 h6
      have er:=u1.e h6
      obtain ⟨e1,e2,t1,e3,e4⟩:=r2 er
      have hlt:=(List.getElem?_eq_some_iff.1 e3).1
      rw [u2,e1]
      refine T.cal (zor (x:=p.2) (i:=y2.l.length) (by rw [u1.l];exact hlt)) λs _ hs=>?_
      rw [hs]
      refine T.cal (znX (t:=t1) _ _ (λ_=>⟨by rw [u1.l];exact e3,by omega⟩)) λz _ ⟨w1,w2,w3⟩=>kk _ (hfin z (w1.trans u1.m) (by rw [w2,u1.l]) λez=>⟨er,?_⟩)
      obtain ⟨tg,k1,k2,k3⟩:=(w3 ez).2 t1 (by rw [u1.l];exact e3)
      exact .inr ⟨t1,tg,e3,by rw [k1,u1.l],k2,k3⟩
    · exact T.abl (by have:=(hA p.1).1;rw [zLa] at this;exact Nat.le_trans this (by decide)) (T.ck hA4 (hL2 _ ⟨hA2.1,hA2.2.1,v1,(hA _).2,v2⟩ hA3))
  · -- all are there
    refine T.br (λhe=>?_) λhe=>T.some ⟨p3.m.trans hm,p3.le,p3.lim,λh=>absurd h (zOF he)⟩
    have he:=zOT he
    have hfin:=hb2.2 hb3 he
    obtain ⟨k1,k2⟩:=p5 he
    have hti:((l0.length:Nat):Int).toNat=l0.length:=Int.toNat_natCast _
    have hle:=p3.le
    have hlim:=p3.lim
    have hget:y.l[l0.length]?=some t:=by
      rw [p3.pre he l0.length (by omega),hxl,List.getElem?_append_right (zNl _),Nat.sub_self];rfl
    have hget2:(y.l.set l0.length { t with fields:=out })[l0.length]?=some { t with fields:=out }:=List.getElem?_set_self (by omega)
    have hmono:∀ q,l0.length + 1 <= q->(y.l.set l0.length { t with fields:=out })[q]?=y.l[q]?:=λq hq=>List.getElem?_set_ne (by omega)
    have hkids:zaK (zbu (16 - d).toNat (y.l.set l0.length { t with fields:=out })) (out.map λf=>f.ty) x.l.length y.l.length:=KidsT.monoL (λq hq1 hq2=>hmono q (by omega)) k1
    refine T.asd ⟨by omega,by omega⟩ ?_
    rw [hti]
    refine T.eq hget (T.asd ⟨by omega,by rw [List.length_set];omega⟩ (T.eq hget2 ?_))
    have hpost:∀ z:GMk,Sm (GMk.mk y.m (y.l.set l0.length { t with fields:=out }) y.e) z->(z.m=m/\x.l.length <= z.l.length/\z.l.length <= 300/\(z.e=0->x.e=0/\(∀ p,p < l0.length->z.l[p]?=x.l[p]?)/\∃ fs,z.l[l0.length]?=some { t with fields:=fs }/\fs.length=n.fields.length/\zaK (zbu (16 - d).toNat z.l) (fs.map λf=>f.ty) x.l.length z.l.length/\∀ f ∈ fs,DOk f.dflt)):=by
      intro z hz
      have zl:=hz.l
      dsimp only at zl
      refine ⟨hz.m.trans (p3.m.trans hm),by rw [zl,List.length_set];exact hle,by rw [zl,List.length_set];exact hlim,λez=>⟨p3.e (hz.e ez),λq hq=>?_,out,by rw [zl];exact hget2,by omega,by rw [zl,List.length_set];exact hkids,k2⟩⟩
      rw [zl,List.getElem?_set_ne (by omega)]
      exact p3.pre he q (by omega)
    refine T.cal (zuJ (h:=(16 - d).toNat) (a:=x.l.length) (b:=y.l.length) (x:=GMk.mk y.m (y.l.set l0.length { t with fields:=out }) y.e) (t:={ t with fields:=out }) hkids (by omega) (by dsimp only;rw [List.length_set];omega) (by dsimp only;rw [List.length_set];exact zNl _) (by dsimp only;rw [htr];exact hok.root0) (λh7=>by dsimp only;rw [htr];have:=hok.fields (by omega);omega)) λr _ hr=>?_
    rw [hr]
    exact T.br (λ_=>T.eq (zlE _ _) (T.some (hpost _ (Sm.fl (by decide))))) λ_=>T.some (hpost _ (Sm.refl _))
theorem zvo {U V N p q c:Nat} (h:U + (c + 1) <= V) (h2:V + p <= N) (hp:0 < p) (hq:q <= c):U + q <= N - 1:=by omega
theorem zu6 (c:Nat) {u v N p q:Nat} (h:u < v) (h2:v * (c + 1) + p <= N) (hp:0 < p) (hq:q <= c):u * (c + 1) + q <= N - 1:=by
 have h3:=Nat.mul_le_mul_right (c + 1) (Nat.succ_le_of_lt h)
 rw [Nat.succ_mul] at h3
 exact zvo h3 h2 hp hq
theorem zxY {u v N p q:Nat} (h:u < v) (h2:v * 301 + p <= N) (hp:0 < p) (hq:q <= 300):u * 301 + q <= N - 1:=zu6 300 h h2 hp hq
theorem znJ {m:zaA} {rk:Int->Nat} {Fs Nd Md} {N:Nat} (E:Env m rk) (hN:N <= 50000) (hnd:∀ N',N' + 1=N->zr3 m rk Nd N') (hmd:zrL m rk Md N):zr3 m rk (zdp Fs Nd Md) N:=by
 intro x k j h a d hm hx3 hs hj hdn hN2 hd0 hd
 unfold zdp
 have hlt:=hs.lt
 obtain ⟨n,hn⟩:∃ n,m.nodes[k]?=some n:=⟨_,List.getElem?_eq_getElem (by omega)⟩
 refine T.br (λhb=>T.some ⟨Gk.refl hx3,λe=>absurd e (by simpa using hb)⟩) λhb=>?_
 refine T.get (Int.natCast_nonneg _) (by rw [hm];omega) λn' hn'=>?_
 rw [hm,Int.toNat_natCast,hn] at hn'
 cases hn'
 have hN0:1 <= N:=by omega
 refine T.jp (ι:=Int × GMk) (λr=>Gk x r.2/\(r.2.e=0->r.1=(x.l.length:Int)/\zbu (17 - d).toNat r.2.l x.l.length r.2.l.length/\∃ t,r.2.l[x.l.length]?=some t/\t.tags.length <= N)) (λJ kk=>T.br (λhk=>?_) λhk=>?_) λq ⟨q1,q2⟩=>?_
 ·have hk:=zOT hk
  obtain ⟨f0,f1⟩:=hdn k n (zNl _) hlt hn hk
  have hf2:fnd m.names n.name < m.names.length:=by
   rcases zmp m.names n.name with h | h
   ·omega
   ·exact h.2.1
  obtain ⟨c,dd,c1,c2,c3,c4⟩:=E.root _ f0 (by omega)
  have hrk:=E.ed _ _ f1
  have hwn:=E.wf.nodes
  have hc:=c2.lt
  have hNN:rk (fnd m.names n.name) * 301 + (dd - c) <= N - 1:=zxY hrk hN2 (Nat.sub_pos_of_lt hlt) (Nat.le_trans (Nat.sub_le _ _) (Nat.le_trans c3 hwn))
  refine T.eq (zrY x.m n.name (by rw [hm];have:=E.wf.names;omega)) (T.get (by rw [hm];exact f0) (by rw [hm,E.wf.types];omega) λy hy=>?_)
  rw [hm,c1] at hy
  cases hy
  exact T.cal (hnd (N - 1) (by omega) x c dd 17 _ d hm hx3 c2 c3 c4 hNN hd0 hd) λr _ ⟨r1,r2⟩=>kk _ ⟨r1,λe=>by
   obtain ⟨e1,e2,t,e3,e4⟩:=r2 e
   exact ⟨e1,e2,t,e3,Nat.le_trans e4 (by rw [Nat.sub_add_cancel hN0];exact zNl _)⟩⟩
 ·have hk:=zOF hk
  exact T.cal (hmd x n k j h a d hm hx3 hn hk hs hj hdn hN2 hd0 hd) λr _ ⟨r1,r2⟩=>kk _ ⟨r1,λe=>by
   obtain ⟨e1,e2,t,e3,e4⟩:=r2 e
   exact ⟨e1,e2,t,e3,Nat.le_trans e4 hN0⟩⟩
 have hNb:N < 100000:=by omega
 refine T.jp (λb=>b=true->q.2.e=0) (λJ kk=>T.br (λh5=>kk _ λ_=>zOT h5) λ_=>kk _ λh=>by cases h) λb hb3=>?_
 refine T.jp (ι:=GMk) (λz=>Gk x z/\(z.e=0->q.1=(x.l.length:Int)/\zbu (17 - d).toNat z.l x.l.length z.l.length/\∃ t,z.l[x.l.length]?=some t/\t.tags.length <= N + 1)) (λJ kk=>T.br (λh6=>?_) λ_=>kk _ ⟨q1,λe=>?_⟩) λz ⟨z1,z2⟩=>T.some ⟨z1,z2⟩
 ·have h6:=hb3 h6
  obtain ⟨e1,e2,t,e3,e4⟩:=q2 h6
  have hl1:=(List.getElem?_eq_some_iff.1 e3).1
  have hto:zkS t:=by
   cases hD:(17 - d).toNat with
   | zero=>rw [hD] at e2;exact e2.elim
   | succ D' =>
    rw [hD] at e2
    obtain ⟨t3,k6,k7,_⟩:=e2
    rw [e3] at k6;cases k6;exact k7
  refine T.jp (ι:=Int × GMk) (λp=>p.2=q.2) (λJ2 k2=>T.br (λ_=>k2 _ rfl) λ_=>T.jp (λ_=>True) (λJ3 k3=>T.br (λ_=>k3 _ trivial) λ_=>k3 _ trivial) λb4 _=>T.br (λ_=>?_) λ_=>k2 _ rfl) λp hp=>?_
  ·rw [e1]
   exact T.cal (zor hl1) λs _ hs=>k2 _ hs
  ·rw [hp,e1]
   refine T.cal (znX (t:=t) _ _ (λ_=>⟨e3,Nat.le_of_lt (Nat.lt_of_le_of_lt e4 hNb)⟩)) λz _ ⟨w1,w2,w3⟩=>kk _ ⟨⟨w1.trans q1.m,by rw [w2];exact q1.le,by rw [w2];exact q1.lim,λez=>q1.e (w3 ez).1,λez p hp=>?_⟩,λez=>?_⟩
   ·obtain ⟨tg,k1,k2,k3⟩:=(w3 ez).2 t e3
    rw [k1,List.getElem?_set_ne (Nat.ne_of_gt hp)]
    exact q1.pre h6 p hp
   ·obtain ⟨tg,k1,k2,k3⟩:=(w3 ez).2 t e3
    rw [w2,k1]
    exact ⟨e1,e2.set e3 (hto.tag k2 (Nat.le_trans k3 (Nat.succ_le_of_lt (Nat.lt_of_le_of_lt e4 hNb)))) rfl,_,List.getElem?_set_self hl1,Nat.le_trans k3 (Nat.succ_le_succ e4)⟩
 ·obtain ⟨e1,e2,t,e3,e4⟩:=q2 e
  exact ⟨e1,e2,t,e3,Nat.le_succ_of_le e4⟩
structure New (n:zh) (t:zg):Prop where
 kind:t.kind=n.kind
 root:t.root=n.root
 items:t.items=[]
 fields:t.fields=[]
 tags:t.kind ≠ 9->t.tags ≠ []
 tlen:t.tags.length <= 1
theorem New.ok {n:zh} {t:zg} (h:New n t) (hn:ziM n) (h3:n.kind ≠ 3) (h7:n.kind ≠ 7) (h8:n.kind ≠ 8) (h9:n.kind ≠ 9) (o:Int):zkS { t with of:=o }:=by
 have hk:=h.kind
 exact ⟨h.tags,by have:=h.tlen;show t.tags.length <= _;omega,by rw [h.root];exact hn.root0,λe=>by rcases e with e | e | e <;> (rw [hk] at e;contradiction),λe=>by rw [hk] at e;contradiction,λ_=>h.fields,λ_=>h.items,by show t.items.length <= _;rw [h.items];decide,λit hit=>(by dsimp only at hit;rw [h.items] at hit;cases hit),λf hf=>(by dsimp only at hf;rw [h.fields] at hf;cases hf),λ_ _=>(by dsimp only;rw [h.root];exact hn.rootZ h3 (by omega))⟩
theorem zmc {α:Type} (l:List α) (t:α):(l ++ [t])[l.length]?=some t:=by rw [List.getElem?_append_right (zNl _),Nat.sub_self];rfl
theorem zoE {m:zaA} {rk:Int->Nat} {Fs Nd Md} {N:Nat} (E:Env m rk) (hN:N <= 50000) (hnd:∀ N',N' + 1=N->zr3 m rk Nd N') (hfs:zl1 m rk Fs N):zrL m rk (zdm Fs Nd Md) N:=by
 intro x n k j h a d hm hx3 hn hk11 hs hj hdn hN2 hd0 hd
 unfold zdm
 have hlt:=hs.lt
 have hok:=E.wf.ok n (List.mem_of_getElem? hn)
 obtain ⟨h',rfl,hkid⟩:∃ h',h=h' + 1/\zaK (Sub h' m.nodes) (zeF n) (k + 1) j:=by
  cases h with
  | zero=>exact hs.elim
  | succ h' =>
   obtain ⟨n',e1,e2⟩:=hs
   rw [hn] at e1;cases e1
   exact ⟨h',rfl,e2⟩
 refine T.jp (λb=>b=false->d <= 16/\x.l.length < 300) (λJ kk=>T.br (λ_=>kk _ λh=>by cases h) λh1=>kk _ λh2=>?_) λb hb=>T.br (λ_=>T.eq (zlE _ _) (T.some ⟨Gk.sm (Sm.fl (by decide)) hx3,λe=>absurd e (zvJ (by decide))⟩)) λhb1=>?_
 ·have h1:=zOF h1
  have h2:=zOF h2
  omega
 obtain ⟨hd16,hx300⟩:=hb hb1
 obtain ⟨D,hD,hD2⟩:∃ D,(17 - d).toNat=D + 1/\(16 - d).toNat=D:=⟨(16 - d).toNat,by omega,rfl⟩
 refine T.jp (ι:=zg) (λt=>New n t) (λJ kk=>T.br (λ_=>T.cal (zvx _) λu _ _=>kk _ ⟨rfl,rfl,rfl,rfl,λ_=>by simp,by simp⟩) λh9=>kk _ ⟨rfl,rfl,rfl,rfl,λh=>absurd (by simpa using h9) h,by simp⟩) λt ht=>?_
 refine T.jp (ι:=GMk) (λy=>y=GMk.mk x.m (x.l ++ [t]) x.e) (λJ kk=>T.abl (by rw [zLs];omega) (kk _ rfl)) λy hy=>?_
 subst hy
 have hxl1:(x.l ++ [t]).length=x.l.length + 1:=by rw [zLa,zLs]
 have hkind:=ht.kind
 have g0:∀ y:GMk,Sm (GMk.mk x.m (x.l ++ [t]) x.e) y->Gk x y:=λy hy=>⟨hy.m,by rw [hy.l];dsimp only;omega,by rw [hy.l];dsimp only;omega,hy.e,λ_ q hq=>by rw [hy.l];exact List.getElem?_append_left hq⟩
 have hti:((x.l.length:Nat):Int).toNat=x.l.length:=Int.toNat_natCast _
 have hleaf:n.kind ≠ 3->n.kind ≠ 7->n.kind ≠ 8->n.kind ≠ 9->n.kind ≠ 10->∀ y:GMk,Sm (GMk.mk x.m (x.l ++ [t]) x.e) y->(y.e=0->zbu (17 - d).toNat y.l x.l.length y.l.length/\∃ t,y.l[x.l.length]?=some t/\t.tags.length <= 1):=λh3 h7 h8 h9 h10 y hy _=>by
  have hl:=hy.l
  dsimp only at hl
  rw [hl,hD,hxl1]
  refine ⟨⟨t,zmc _ _,ht.ok hok h3 h7 h8 h9 t.of,?_⟩,t,zmc _ _,ht.tlen⟩
  unfold zhn
  rw [ht.fields,if_neg (by rw [hkind];exact h10)]
  rfl
 refine T.jp (ι:=GMk) (λy=>Gk x y/\(y.e=0->zbu (17 - d).toNat y.l x.l.length y.l.length/\∃ t,y.l[x.l.length]?=some t/\t.tags.length <= 1)) (λJ kk=>?_) λy ⟨y1,y2⟩=>T.some ⟨y1,λe=>⟨rfl,y2 e⟩⟩
 refine T.jp (λb=>b=decide (n.kind=2 \/ n.kind=5 \/ n.kind=6 \/ n.kind=10)) (λJ1 k1=>T.br (λh1=>k1 _ ?_) λh1=>T.br (λh2=>k1 _ ?_) λh2=>T.br (λh3=>k1 _ ?_) λh3=>k1 _ ?_) λb hb=>?_
 ·have h1:=zOT h1
  rw [zDT h1,zDT (.inl h1)]
 ·have h2:=zOT h2
  rw [zDT h2,zDT (.inr (.inl h2))]
 ·have h3:=zOT h3
  rw [zDT h3,zDT (.inr (.inr (.inl h3)))]
 ·have h1:=zOF h1
  have h2:=zOF h2
  have h3:=zOF h3
  rw [decide_eq_decide];omega
 subst hb
 refine T.br (λhb=>?_) λhb=>?_
 · -- a leaf with bounds, or a list
  have hb:=zOT hb
  refine T.cal (zuf _ _) λce _ _=>T.jp (ι:=GMk) (λy=>Sm (GMk.mk x.m (x.l ++ [t]) x.e) y) (λJ1 k1=>T.br (λhc=>T.eq (zlE _ _) (k1 _ (Sm.fl (by simpa using hc)))) λ_=>k1 _ (Sm.refl _)) λy hy=>T.br (λh10=>?_) λh10=>kk _ ⟨g0 y hy,hleaf (by omega) (by omega) (by omega) (by omega) (zOF h10) y hy⟩
  have h10:=zOT h10
  have hko:zeF n=n.fields.map (λf=>f.ty) ++ [n.of]:=by unfold zeF;rw [if_neg hk11,if_pos h10]
  obtain ⟨c,dd,c1,c2,c3,c4⟩:=zaK.subs hkid (k:=n.of) (by rw [hko];simp)
  have hc:=c2.lt
  have hyl:=hy.l
  dsimp only at hyl
  refine T.ck (by omega) ?_
  rw [c1]
  refine T.cal (hnd (N - 1) (by omega) y c dd h' a (d + 1) (hy.m.trans hm) (by rw [hyl];omega) c2 (by omega) (hdn.part (by omega) c4) (by omega) (by omega) (by omega)) λr _ ⟨r1,r2⟩=>?_
  have g1:Gk x r.2:=(g0 y hy).trans r1
  refine T.br (λhe=>?_) λhe=>kk _ ⟨g1,λe=>absurd e (zOF he)⟩
  have he:=zOT he
  have hpre:=r1.pre he x.l.length (by rw [hyl];omega)
  rw [hyl,zmc] at hpre
  have hl1:=(List.getElem?_eq_some_iff.1 hpre).1
  have hr:=r2 he
  clear r2
  obtain ⟨e1,e2,_⟩:=hr
  refine T.asd ⟨by omega,by omega⟩ ?_
  rw [hti]
  refine T.eq hpre (kk _ ⟨⟨g1.m,by rw [List.length_set];exact g1.le,by rw [List.length_set];exact g1.lim,g1.e,λe q hq=>by dsimp only;rw [List.getElem?_set_ne (by omega)];exact g1.pre he q hq⟩,λ_=>?_⟩)
  dsimp only
  rw [hD,List.length_set]
  refine ⟨⟨_,List.getElem?_set_self hl1,ht.ok hok (by omega) (by omega) (by omega) (by omega) r.1,?_⟩,_,List.getElem?_set_self hl1,ht.tlen⟩
  unfold zhn
  dsimp only
  rw [ht.fields,if_pos (by rw [hkind];exact h10)]
  have hD3:(17 - (d + 1)).toNat=D:=by omega
  rw [hD3,hyl,hxl1] at e2
  rw [e1,hyl,hxl1]
  exact ⟨_,rfl,zbu.mono (λq hq _=>List.getElem?_set_ne (by omega)) e2,rfl⟩
 have hb:=zOF hb
 refine T.br (λh3=>?_) λh3=>?_
 · -- an enumerated type
  have h3:=zOT h3
  refine T.cal (zrG (GMk.mk x.m (x.l ++ [t]) x.e) n hok (hok.items h3)) λr _ ⟨r1,r2,r3⟩=>?_
  dsimp only at r1 r2 r3 ⊢
  refine T.asd (by rw [r2]) (T.asd ⟨by omega,by omega⟩ ?_)
  rw [hti]
  have hget:r.2.l[x.l.length]?=some t:=by rw [r2];exact zmc _ _
  have hrl:r.2.l.length=x.l.length + 1:=by rw [r2];exact hxl1
  refine T.eq hget (kk _ ⟨⟨r1,by dsimp only;rw [List.length_set];omega,by dsimp only;rw [List.length_set];omega,λe=>(r3 e).1,λe q hq=>by dsimp only;rw [List.getElem?_set_ne (by omega),r2];exact List.getElem?_append_left hq⟩,λe=>?_⟩)
  obtain ⟨e1,e2,e3⟩:=r3 e
  have hil:=hok.ilen
  dsimp only
  rw [hD,List.length_set]
  refine ⟨⟨_,List.getElem?_set_self (by omega),⟨ht.tags,by have:=ht.tlen;dsimp only;omega,by dsimp only;rw [ht.root];exact hok.root0,λe=>by dsimp only at e;rw [hkind] at e;omega,λ_=>by dsimp only;rw [ht.root,e2];exact hok.items h3,λ_=>ht.fields,λe=>by dsimp only at e;rw [hkind] at e;contradiction,by dsimp only;rw [e2];exact hil,e3,λf hf=>(by dsimp only at hf;rw [ht.fields] at hf;cases hf),λe=>absurd (by dsimp only;rw [hkind];exact h3) e⟩,?_⟩,_,List.getElem?_set_self (by omega),ht.tlen⟩
  unfold zhn
  dsimp only
  rw [ht.fields,if_neg (by rw [hkind];omega),hrl]
  rfl
 have h3:=zOF h3
 refine T.jp (λb=>b=decide (n.kind=7 \/ n.kind=8 \/ n.kind=9)) (λJ1 k1=>T.br (λh1=>k1 _ ?_) λh1=>T.br (λh2=>k1 _ ?_) λh2=>k1 _ ?_) λb hb2=>?_
 ·have h1:=zOT h1
  rw [zDT h1,zDT (.inl h1)]
 ·have h2:=zOT h2
  rw [zDT h2,zDT (.inr (.inl h2))]
 ·have h1:=zOF h1
  have h2:=zOF h2
  rw [decide_eq_decide];omega
 subst hb2
 refine T.br (λhb2=>?_) λhb2=>kk _ ⟨g0 _ (Sm.refl _),?_⟩
 · -- fields
  have hb2:=zOT hb2
  have hko:zeF n=n.fields.map (λf=>f.ty):=by unfold zeF;rw [if_neg hk11,if_neg (by omega),List.append_nil]
  rw [hko] at hkid
  refine T.cal (hfs (GMk.mk x.m (x.l ++ [t]) x.e) n k j h' a d x.l t hm rfl (by dsimp only;omega) hn hkid hj hdn hN2 hd0 hd16 hb2 hkind ht.root) λy _ ⟨y1,y2,y3,y4⟩=>kk _ ⟨⟨y1.trans hm.symm,by dsimp only at y2;omega,y3,λe=>(y4 e).1,λe q hq=>?_⟩,λe=>?_⟩
  ·rw [(y4 e).2.1 q hq];exact List.getElem?_append_left hq
  obtain ⟨e1,e2,fs,e3,e4,e5,e6⟩:=y4 e
  dsimp only at e5
  rw [hD]
  refine ⟨⟨_,e3,⟨ht.tags,by have:=ht.tlen;dsimp only;omega,by dsimp only;rw [ht.root];exact hok.root0,λ_=>by dsimp only;rw [ht.root,e4];exact hok.fields hb2,λe=>by dsimp only at e;rw [hkind] at e;contradiction,λe=>absurd (by dsimp only;rw [hkind];exact hb2) e,λ_=>ht.items,by dsimp only;rw [ht.items];decide,λit hit=>(by dsimp only at hit;rw [ht.items] at hit;cases hit),e6,λ_ e=>absurd (by dsimp only;rw [hkind];exact hb2) e⟩,?_⟩,_,e3,ht.tlen⟩
  unfold zhn
  dsimp only
  rw [if_neg (by rw [hkind];omega),List.append_nil]
  rw [hD2,hxl1] at e5
  exact e5
 ·have hb2:=zOF hb2
  exact hleaf h3 (by omega) (by omega) (by omega) (by omega) _ (Sm.refl _)
theorem zuE {m:zaA} {rk:Int->Nat} (E:Env m rk):∀ N,N <= 30000 ->
    (∀ n,3 * N + 1 <= n->zl1 m rk (zb2 n) N)/\(∀ n,3 * N + 2 <= n->zrL m rk (zcz n) N)/\(∀ n,3 * N + 3 <= n->zr3 m rk (zcx n) N):=by
  intro N
  induction N with
  | zero =>
    intro _
    have hf:∀ n,1 <= n->zl1 m rk (zb2 n) 0:=λn hn=>by
      obtain ⟨n,rfl⟩:∃ n',n=n' + 1:=⟨n - 1,by omega⟩
      exact zl4 (Fs:=(zV n).1) (Nd:=(zV n).2.1) (Md:=(zV n).2.2) E (by omega) λN' h=>by omega
    have hm:∀ n,2 <= n->zrL m rk (zcz n) 0:=λn hn=>by
      obtain ⟨n,rfl⟩:∃ n',n=n' + 1:=⟨n - 1,by omega⟩
      exact zoE (Fs:=(zV n).1) (Nd:=(zV n).2.1) (Md:=(zV n).2.2) E (by omega) (λN' h=>by omega) (hf n (by omega))
    refine ⟨λn hn=>hf n (by omega),λn hn=>hm n (by omega),λn hn=>?_⟩
    obtain ⟨n,rfl⟩:∃ n',n=n' + 1:=⟨n - 1,by omega⟩
    exact znJ (Fs:=(zV n).1) (Nd:=(zV n).2.1) (Md:=(zV n).2.2) E (by omega) (λN' h=>by omega) (hm n (by omega))
  | succ N ih =>
    intro hN
    obtain ⟨_,_,ihn⟩:=ih (by omega)
    have hf:∀ n,3 * (N + 1) + 1 <= n->zl1 m rk (zb2 n) (N + 1):=λn hn=>by
      obtain ⟨n,rfl⟩:∃ n',n=n' + 1:=⟨n - 1,by omega⟩
      exact zl4 (Fs:=(zV n).1) (Nd:=(zV n).2.1) (Md:=(zV n).2.2) E (by omega) λN' h=>by
        have:N'=N:=by omega
        subst this;exact ihn n (by omega)
    have hm:∀ n,3 * (N + 1) + 2 <= n->zrL m rk (zcz n) (N + 1):=λn hn=>by
      obtain ⟨n,rfl⟩:∃ n',n=n' + 1:=⟨n - 1,by omega⟩
      exact zoE (Fs:=(zV n).1) (Nd:=(zV n).2.1) (Md:=(zV n).2.2) E (by omega) (λN' h=>by
        have:N'=N:=by omega
        subst this;exact ihn n (by omega)) (hf n (by omega))
    refine ⟨hf,hm,λn hn=>?_⟩
    obtain ⟨n,rfl⟩:∃ n',n=n' + 1:=⟨n - 1,by omega⟩
    exact znJ (Fs:=(zV n).1) (Nd:=(zV n).2.1) (Md:=(zV n).2.2) E (by omega) (λN' h=>by
        have:N'=N:=by omega
        subst this;exact ihn n (by omega)) (hm n (by omega))
theorem zaK.find {S:Nat->Nat->Prop} {p:Nat}:∀ {r:List Int} {a b:Nat},zaK S r a b->a <= p->p < b->∃ (k:Int) (c d:Nat),k ∈ r/\k=(c:Int)/\S c d/\c <= p/\p < d:=by
 intro r
 induction r with
 | nil=>intro a b h h1 h2;cases h;omega
 | cons x r ih =>
  intro a b ⟨c,h0,h1,h2⟩ ha hb
  rcases Nat.lt_or_ge p c with h | h
  ·exact ⟨x,a,c,zMs,h0,h1,ha,h⟩
  ·obtain ⟨k,c',d',k1,k2,k3,k4,k5⟩:=ih h2 h hb
   exact ⟨k,c',d',zMm _ k1,k2,k3,k4,k5⟩
theorem zx5:∀ {h:Nat} {l:List zh} {c d p:Nat} {n:zh},Sub h l c d->c <= p->p < d->l[p]?=some n->n.kind=11->n.name ∈ nmx l h (c:Int):=by
 intro h
 induction h with
 | zero=>intro l c d p n hs;exact hs.elim
 | succ h ih =>
  intro l c d p n ⟨n0,h1,h2⟩ hc hd hn hk
  rw [zny h1]
  rcases Nat.eq_or_lt_of_le hc with e | e
  ·subst e
   rw [h1] at hn;cases hn
   rw [if_pos hk];exact zMo.2 rfl
  ·by_cases h0:n0.kind=11
   ·have:zeF n0=[]:=by unfold zeF;rw [if_pos h0]
    rw [this] at h2
    cases h2
    omega
   ·rw [if_neg h0]
    obtain ⟨k,c',d',k1,k2,k3,k4,k5⟩:=zaK.find h2 e hd
    refine List.mem_flatMap.2 ⟨k,k1,?_⟩
    rw [k2]
    exact ih k3 k4 k5 hn hk
theorem zxD {m:zaA} (h:(wr m).2=0):first (zl0 m) m.names.length 0=none:=by
 unfold wr at h
 split at h
 ·cases h
 ·split at h
  ·cases h
  ·assumption
theorem zwh {m:zaA} (h:(wr m).2=0):first (zpb m) m.names.length 0=none:=by
 unfold wr at h
 split at h
 ·cases h
 ·assumption
theorem zzD {m:zaA} (w:WF m) (h:(wr m).2=0):∃ rk:Int->Nat,Env m rk:=by
 obtain ⟨rk,r1,r2⟩:=zyz w h
 have hn:=w.names
 have ht:=w.types
 refine ⟨rk,w,λi=>Nat.le_trans (r1 i) hn,r2,λb b0 b1=>?_⟩
 obtain ⟨t,hbt⟩:∃ t,m.types[b.toNat]?=some t:=⟨_,List.getElem?_eq_getElem (by omega)⟩
 obtain ⟨c,d,e1,e2,e3,e4⟩:=zaK.subs w.forest (List.mem_of_getElem? hbt)
 subst e1
 refine ⟨c,d,hbt,e2,e4,λp n hp hq hpn hk=>?_⟩
 have hmem:n.name ∈ nms m (c:Int):=zx5 e2 hp hq hpn hk
 have hno:=zj2 (zxD h) b b0 (by omega)
 unfold zl0 at hno
 rw [hbt] at hno
 have hno:zqM m (c:Int)=false:=hno
 unfold zqM at hno
 have h1:=List.any_eq_false.1 hno _ hmem
 have h2:0 <= fnd m.names n.name:=by
  refine Classical.byContradiction λhc=>h1 (zDT (by omega))
 refine ⟨h2,b0,zmF m (c:Int),by unfold gr;rw [List.getElem?_map,hbt];rfl,?_⟩
 unfold zmF
 refine zrZ.2 (.inr (List.mem_filterMap.2 ⟨_,hmem,?_⟩))
 unfold idx
 rw [if_neg (by omega)]
theorem zbu.sub:∀ {h:Nat} {l:List zg} {r:List Int} {a b:Nat},zaK (zbu h l) r a b->∀ i,a <= i->i < b->∃ j,zbu h l i j:=by
 intro h
 induction h with
 | zero =>
  intro l r a b hk i h1 h2
  cases r with
  | nil=>cases hk;omega
  | cons k r=>obtain ⟨c,_,h,_⟩:=hk;exact h.elim
 | succ h ih =>
  intro l r a b hk i h1 h2
  obtain ⟨k,c,d,_,_,k3,k4,k5⟩:=zaK.find hk h1 h2
  rcases Nat.eq_or_lt_of_le k4 with e | e
  ·subst e;exact ⟨d,k3⟩
  ·obtain ⟨t,_,_,h3⟩:=k3
   obtain ⟨j,hj⟩:=ih h3 i e k5
   exact ⟨j,hj.up⟩
structure zdt (t:zZ):Prop where
 names:t.names.length <= 40
 roots:t.roots.length=t.names.length
 types:t.types.length <= 300
 kids:zaK (zbu 17 t.types) t.roots 0 t.types.length
 fnds:∀ (p:Nat) (s:Str),t.names[p]?=some s->fnd t.names s=(p:Int)
theorem zdt.empty (s:Str):zdt (zZ.mk s [] [] []):=⟨zNz _,rfl,zNz _,rfl,λp s h=>by simp at h⟩
theorem zvV {m:zaA} (w:WF m):T (λr=>zdt r.1/\(r.2.2=0->r.1.names=m.names/\r.1.name=m.name)) (zhl m):=by
 unfold zhl
 have hn:=w.names
 have ht:=w.types
 refine T.eq (zue w) (T.br (λhb=>T.some ⟨zdt.empty _,λh=>absurd h (by simpa using hb)⟩) λhb=>?_)
 have hw:(wr m).2=0:=by
  have hb:(zsz m).2.2=0:=by simpa using hb
  unfold zsz at hb
  split at hb
  ·assumption
  ·exact hb
 obtain ⟨rk,E⟩:=zzD w hw
 have hfn:∀ (p:Nat) (s:Str),m.names[p]?=some s->fnd m.names s=(p:Int):=λp s hp=>by
  have hlt:=(List.getElem?_eq_some_iff.1 hp).1
  have h1:=zj2 (zwh hw) (p:Int) (by omega) (by omega)
  unfold zpb at h1
  rw [Int.toNat_natCast,hp] at h1
  have h2:=zOF h1
  rcases zmp m.names s with h3 | h3
  ·exact absurd (List.mem_of_getElem? hp) h3.2
  ·rcases Int.lt_or_le (p:Int) (fnd m.names s) with h4 | h4
   ·exact absurd hp (h3.2.2.2 p (by omega))
   ·omega
 have hnode:=(zuE E 12400 (by omega)).2.2 fuel (by unfold fuel;omega)
 refine T.jp (ι:=zZ) (λt=>t=zZ.mk m.name m.names [] []) (λJ kk=>T.abl (by rw [zLn];omega) (kk _ (by rw [List.nil_append]))) λt htb=>?_
 subst htb
 refine T.lp (ι:=Int × zZ × GMk) (λq=>0 <= q.1/\q.1 <= m.names.length/\q.2.1.names=m.names/\q.2.1.name=m.name/\(q.2.1.roots.length:Int)=q.1/\q.2.2.m=m/\q.2.2.l.length <= 300/\zaK (zbu 17 q.2.2.l) q.2.1.roots 0 q.2.2.l.length) (λq=>((m.names.length:Int) - q.1).toNat) ⟨zIl _,by dsimp only;omega,rfl,rfl,rfl,rfl,zNz _,rfl⟩ (by dsimp only;omega) λL q ⟨q1,q2,q3,q4,q5,q6,q7,q8⟩ hL=>?_
 obtain ⟨i,t,y⟩:=q
 dsimp only at q1 q2 q3 q4 q5 q6 q7 q8 hL ⊢
 refine T.br (λhi=>?_) λhi=>T.some ⟨⟨by dsimp only;rw [q3];exact hn,by dsimp only;rw [q3];have:=zOF hi;omega,q7,q8,λp s h=>(by rw [q3] at h ⊢;exact hfn p s h)⟩,λ_=>⟨q3,q4⟩⟩
 have hi:=zOT hi
 obtain ⟨c,d,e1,e2,e3,e4⟩:=E.root i q1 hi
 have hwn:=w.nodes
 have hrk:=E.rk40 i
 have hcd:=e2.lt
 refine T.jp (ι:=zZ × GMk) (λp=>p.1.names=m.names/\p.1.name=m.name/\(p.1.roots.length:Int)=i + 1/\p.2.m=m/\p.2.l.length <= 300/\(p.2.e=0->zaK (zbu 17 p.2.l) p.1.roots 0 p.2.l.length)) (λJ kk=>T.get q1 (by omega) λy36 h36=>?_) λp ⟨p1,p2,p3,p4,p5,p6⟩=>?_
 ·rw [e1] at h36;cases h36
  have hNN:rk i * 301 + (d - c) <= 12400:=by
   have:=Nat.mul_le_mul_right 301 hrk
   have h2:d - c <= 300:=Nat.le_trans (Nat.sub_le _ _) (Nat.le_trans e3 hwn)
   exact Nat.le_trans (Nat.add_le_add this h2) (by decide)
  refine T.cal (hnode y c d 17 i 0 q6 q7 e2 e3 e4 hNN (zIl _) (by decide)) λr _ ⟨r1,r2⟩=>T.abl (by rw [zLs];omega) (kk _ ⟨q3,q4,by dsimp only;rw [zLa,zLs];omega,r1.m.trans q6,r1.lim,λe=>?_⟩)
  obtain ⟨k1,k2,_⟩:=r2 e
  dsimp only
  rw [k1]
  exact zaK.snoc (KidsT.monoL (λk _ hk=>r1.pre e k hk) q8) k2
 ·refine T.br (λhe=>T.some ⟨zdt.empty _,λh=>absurd h (by simpa using he)⟩) λhe=>T.ck (by omega) (hL _ ⟨by dsimp only;omega,by dsimp only;omega,p1,p2,p3,p4,p5,p6 (by simpa using he)⟩ (by dsimp only;omega))
theorem zum (s:Str):T (λr=>zdt r.1) (zck s):=by
 unfold zck
 refine T.br (λ_=>T.some (zdt.empty _)) λ_=>T.cal (zup s) λr _ hr=>T.br (λ_=>T.some (zdt.empty _)) λ_=>T.cal (zvV hr) λt _ ht=>T.jp (λ_=>True) (λJ kk=>T.br (λ_=>kk _ trivial) λ_=>kk _ trivial) λb _=>T.some ht.1
end Go.Proofs.Q
namespace Go.Sy
end Go.Sy

/- ValueSizes: whatever its arguments are, the law's model answers true. No condition. -/
import Derived.Test.YtnnijoepfgnlfaaGreatDoorVzA
import Derived.Test.YtnnijoepfgnlfaaGreatDoorVzB
import Derived.KernelRfl
set_option linter.unusedVariables false
set_option linter.unusedSimpArgs false

namespace Go.Proofs.Q
open Go.Sy
set_option linter.unusedVariables false

theorem tx {β:Type} {o:Option β} {x:β} (h:T (fun r=>r=x) o):o=some x:=by
  obtain ⟨r,h1,h2⟩:=h;rw [h1,h2]
def hd:List UInt8→UInt8
  | []=>0
  | c :: _=>c
theorem zpm (b:List UInt8) (n:Nat):hd (b.drop n)=(b[n]?).getD 0:=by
  rcases Nat.lt_or_ge n b.length with h | h
  · rw [List.drop_eq_getElem_cons h,List.getElem?_eq_getElem h];rfl
  · rw [List.drop_eq_nil_of_le h,List.getElem?_eq_none h];rfl
theorem dropc {b:List UInt8} {n:Nat} {y:UInt8} (h:b[n]?=some y):b.drop n=y :: b.drop (n + 1):=by
  obtain ⟨h1,h2⟩:=List.getElem?_eq_some_iff.1 h
  rw [List.drop_eq_getElem_cons h1,h2]
theorem zi5 (s:Str) (i:Int) (h:0 ≤ i):zea s i=some (hd (s.b.drop i.toNat)):=by
  obtain ⟨r,h1,h2⟩:=zgt s i
  rw [h1,h2,if_pos h,zpm]

/-! ### White -/
inductive Wst where
  | out
  | start
  | ins
  | fin
def isWh (c:UInt8):Bool:=decide (c=32) || decide (c=9) || decide (c=10) || decide (c=13)
def wh:Wst→List UInt8→List UInt8
  | _,[]=>[]
  | .out,c :: r=>bif isWh c then wh .out r else bif decide (c=45) && decide (hd r=45) then wh .start r else c :: r
  | .start,_ :: r=>wh .ins r
  | .ins,c :: r=>bif decide (c=10) then wh .out r else bif decide (c=45) && decide (hd r=45) then wh .fin r else wh .ins r
  | .fin,_ :: r=>wh .out r
theorem zpD {b:List UInt8} {n:Nat} (h:hd (b.drop n)=45):n < b.length:=by
  rcases Nat.lt_or_ge n b.length with h2 | h2
  · exact h2
  · rw [List.drop_eq_nil_of_le h2] at h;cases h
theorem skip1 {b:List UInt8} {n:Nat} (h:n < b.length):∃ c,b.drop n=c :: b.drop (n + 1):=⟨_,List.drop_eq_getElem_cons h⟩
theorem zof (s:Str) (i:Int) (h0:0 ≤ i) (h1:i ≤ s.b.length) (hl:s.b.length ≤ 1000000):zeA s i=some ((s.b.length:Int) - ((wh .out (s.b.drop i.toNat)).length:Int)):=by
  refine tx ?_
  unfold zeA
  refine T.lp (fun k=>i ≤ k∧k ≤ s.b.length∧wh .out (s.b.drop k.toNat)=wh .out (s.b.drop i.toNat)) (fun k=>(s.b.length - k).toNat) ⟨Int.le_refl _,h1,rfl⟩ (by omega) fun L k ⟨k1,k2,k3⟩ hL=>?_
  rw [← k3] at hL ⊢
  refine T.br (fun hb=>?_) (fun hb=>T.some ?_)
  rotate_left
  · have hb:=zOF hb
    rw [List.drop_eq_nil_of_le (by omega)]
    simp only [wh,List.length_nil];omega
  have hb:=zOT hb
  refine T.get (by omega) hb fun y hy=>?_
  have e:=dropc hy
  have e1:(k + 1).toNat=k.toNat + 1:=by omega
  refine T.jp (fun q=>q=(decide (y=32) || decide (y=9))) (fun J h=>T.br (fun h2=>h _ (by rw [h2];rfl)) fun h2=>T.get (by omega) hb fun y' hy'=>h _ (by rw [hy] at hy';cases hy';rw [h2];rfl)) fun q hq=>?_
  refine T.jp (fun q'=>q'=(q || decide (y=10))) (fun J h=>T.br (fun h2=>h _ (by rw [h2];rfl)) fun h2=>T.get (by omega) hb fun y' hy'=>h _ (by rw [hy] at hy';cases hy';rw [h2];rfl)) fun q' hq'=>?_
  refine T.jp (fun q2=>q2=(q' || decide (y=13))) (fun J h=>T.br (fun h2=>h _ (by rw [h2];rfl)) fun h2=>T.get (by omega) hb fun y' hy'=>h _ (by rw [hy] at hy';cases hy';rw [h2];rfl)) fun q2 hq2=>?_
  have hw:q2=isWh y:=by rw [hq2,hq',hq];rfl
  refine T.br (fun h2=>T.ck (by omega) ?_) fun h2=>?_
  · refine hL _ ⟨by omega,by omega,?_⟩ (by omega)
    rw [e1,e];simp only [wh,← hw,h2,cond_true]
  refine T.get (by omega) hb fun y' hy'=>?_
  rw [hy] at hy';cases hy'
  refine T.jp (fun q=>q=(decide (y=45) && decide (hd (s.b.drop (k.toNat + 1))=45))) (fun J h=>T.br (fun h3=>T.ck (by omega) (T.eq (zi5 s _ (by omega)) (h _ (by rw [h3,e1];rfl)))) fun h3=>h _ (by rw [h3];rfl)) fun q3 hq3=>?_
  refine T.br (fun h3=>T.ck (by omega) ?_) (fun h3=>T.some ?_)
  rotate_left
  · rw [e];simp only [wh,← hw,h2,cond_false,← hq3,h3,List.length_cons,List.length_drop];omega
  have h45:hd (s.b.drop (k.toNat + 1))=45:=by rw [hq3] at h3;simpa using (Bool.and_eq_true_iff.1 h3).2
  have hlt:=zpD h45
  obtain ⟨c,ec⟩:=skip1 hlt
  have e2:(k + 2).toNat=k.toNat + 1 + 1:=by omega
  have hins:wh .out (s.b.drop k.toNat)=wh .ins (s.b.drop (k + 2).toNat):=by
    rw [e,e2];simp only [wh,← hw,h2,cond_false,← hq3,h3,cond_true];rw [ec];simp only [wh]
  refine T.lp (fun j=>k + 2 ≤ j∧j ≤ s.b.length∧wh .out (s.b.drop k.toNat)=wh .ins (s.b.drop j.toNat)) (fun j=>(s.b.length - j).toNat) ⟨Int.le_refl _,by omega,hins⟩ (by omega) fun L2 j ⟨j1,j2,j3⟩ hL2=>?_
  refine T.jp (fun q=>(q=true→j < s.b.length∧∀ y,s.b[j.toNat]?=some y→y ≠ 10)∧(q=false→wh .out (s.b.drop j.toNat)=wh .ins (s.b.drop j.toNat))) (fun J h=>T.br (fun h4=>?_) fun h4=>h _ ⟨(fun h=>by cases h),fun _=>?_⟩) fun q hq=>?_
  · have h4:=zOT h4
    refine T.get (by omega) h4 fun y2 hy2=>h _ ⟨fun h5=>⟨h4,fun y3 hy3=>?_⟩,fun h5=>?_⟩
    · rw [hy2] at hy3;cases hy3;simpa using h5
    · have h6:y2=10:=by simpa using h5
      subst h6
      rw [dropc hy2]
      simp [wh,isWh]
  · have h4:=zOF h4
    rw [List.drop_eq_nil_of_le (by omega)];simp only [wh]
  refine T.br (fun h4=>?_) (fun h4=>hL _ ⟨by omega,j2,by rw [hq.2 h4,j3]⟩ (by omega))
  obtain ⟨hj,hne⟩:=hq.1 h4
  refine T.get (by omega) hj fun y2 hy2=>?_
  have hy10:=hne y2 hy2
  have f:=dropc hy2
  have f1:(j + 1).toNat=j.toNat + 1:=by omega
  refine T.jp (fun q=>q=(decide (y2=45) && decide (hd (s.b.drop (j.toNat + 1))=45))) (fun J h=>T.br (fun h3=>T.ck (by omega) (T.eq (zi5 s _ (by omega)) (h _ (by rw [h3,f1];rfl)))) fun h3=>h _ (by rw [h3];rfl)) fun q4 hq4=>?_
  refine T.br (fun h5=>T.ck (by omega) ?_) (fun h5=>T.ck (by omega) (hL2 _ ⟨by omega,by omega,?_⟩ (by omega)))
  · have h46:hd (s.b.drop (j.toNat + 1))=45:=by rw [hq4] at h5;simpa using (Bool.and_eq_true_iff.1 h5).2
    have hlt2:=zpD h46
    obtain ⟨c2,ec2⟩:=skip1 hlt2
    have f2:(j + 2).toNat=j.toNat + 1 + 1:=by omega
    refine hL _ ⟨by omega,by omega,?_⟩ (by omega)
    rw [j3,f,f2];simp only [wh,zDF hy10,cond_false,← hq4,h5,cond_true];rw [ec2];simp only [wh]
  · rw [j3,f,f1];simp only [wh,zDF hy10,cond_false,← hq4,h5]

/-! ### Names -/
def inName (c:UInt8) (r:List UInt8):Bool:=zaN c || isDigit c || (decide (c=45) && !decide (hd r=45))
def nm:List UInt8→Nat
  | []=>0
  | c :: r=>bif inName c r then nm r + 1 else 0
theorem zmN (c:UInt8) (r:List UInt8):nm (c :: r)=bif inName c r then nm r + 1 else 0:=rfl
theorem zl8:∀ b:List UInt8,nm b ≤ b.length
  | []=>Nat.le_refl _
  | c :: r=>by
    have:=zl8 r
    unfold nm
    cases inName c r <;> simp <;> omega
def nmBad (b:List UInt8):Bool:=decide ((b.take (nm b)).getLast?=some 45) || decide (60 < nm b)
theorem znG {b:List UInt8} {n:Nat} {y:UInt8} (hn:0 < n) (hy:b[n - 1]?=some y):(b.take n).getLast?=some y:=by
  have hlt:=(List.getElem?_eq_some_iff.1 hy).1
  rw [List.getLast?_eq_getElem?,List.length_take,List.getElem?_take,Nat.min_eq_left (by omega),if_pos (by omega),hy]
theorem zpq (s:Str) (i:Int) (h0:0 ≤ i) (h1:i < s.b.length) (hl:s.b.length ≤ 1000000) (hc:zaN (hd (s.b.drop i.toNat))=true) :
    zfr s i=some (bif nmBad (s.b.drop i.toNat) then -1 else i + nm (s.b.drop i.toNat)):=by
  refine tx ?_
  unfold zfr
  have hi0:0 < nm (s.b.drop i.toNat):=by
    obtain ⟨c,ec⟩:=skip1 (b:=s.b) (n:=i.toNat) (by omega)
    rw [ec] at hc ⊢
    unfold nm inName
    simp only [hd] at hc
    rw [hc];simp
  refine T.lp (fun k=>i ≤ k∧k ≤ s.b.length∧(nm (s.b.drop i.toNat):Int)=k - i + nm (s.b.drop k.toNat)) (fun k=>(s.b.length - k).toNat) ⟨Int.le_refl _,by omega,by omega⟩ (by omega) fun L k ⟨k1,k2,k3⟩ hL=>?_
  refine T.jp (fun q=>(q=true→k < s.b.length∧(nm (s.b.drop i.toNat):Int)=k + 1 - i + nm (s.b.drop (k + 1).toNat))∧(q=false→(nm (s.b.drop i.toNat):Int)=k - i)) (fun J h=>?_) fun q hq=>?_
  · refine T.br (fun hb=>?_) (fun hb=>h _ ⟨(fun h=>by cases h),fun _=>by
      have:=zOF hb
      rw [List.drop_eq_nil_of_le (as:=s.b) (i:=k.toNat) (by omega)] at k3
      simpa [nm] using k3⟩)
    have hb:=zOT hb
    refine T.get (by omega) hb fun y hy=>?_
    have e:=dropc hy
    have e1:(k + 1).toNat=k.toNat + 1:=by omega
    refine T.eq (zfb y) ?_
    refine T.jp (fun q=>q=(zaN y || isDigit y)) (fun J2 h2=>T.br (fun h3=>h2 _ (by rw [h3];rfl)) fun h3=>T.get (by omega) hb fun y2 hy2=>T.eq (zdE y2) (h2 _ (by rw [hy] at hy2;cases hy2;rw [h3];rfl))) fun q hq=>?_
    refine T.jp (fun q2=>q2=inName y (s.b.drop (k.toNat + 1))) (fun J2 h2=>T.br (fun h3=>h2 _ (by unfold inName;rw [← hq,h3];rfl)) fun h3=>T.get (by omega) hb fun y2 hy2=>?_) fun q2 hq2=>?_
    · rw [hy] at hy2;cases hy2
      refine T.jp (fun q3=>q3=(decide (y=45) && !decide (hd (s.b.drop (k.toNat + 1))=45))) (fun J3 h4=>T.br (fun h5=>T.ck (by omega) (T.eq (zi5 s _ (by omega)) (h4 _ (by rw [h5,e1];rfl)))) fun h5=>h4 _ (by rw [h5];rfl)) fun q3 hq3=>h2 _ ?_
      unfold inName;rw [← hq,h3,hq3];rfl
    · rw [e,zmN] at k3
      refine h _ ⟨fun h3=>⟨hb,?_⟩,fun h3=>?_⟩
      · rw [← hq2,h3,cond_true] at k3
        rw [e1];omega
      · rw [← hq2,h3,cond_false] at k3
        omega
  refine T.br (fun hb=>T.ck (by have:=hq.1 hb;omega) (hL _ ⟨by omega,by have:=hq.1 hb;omega,(hq.1 hb).2⟩ (by have:=hq.1 hb;omega))) fun hb=>?_
  have hn:=hq.2 hb
  refine T.ck (by omega) (T.get (by omega) (by omega) fun y hy=>?_)
  have hlast:((s.b.drop i.toNat).take (nm (s.b.drop i.toNat))).getLast?=some y:=by
    refine znG hi0 ?_
    rw [List.getElem?_drop]
    have:i.toNat + (nm (s.b.drop i.toNat) - 1)=(k - 1).toNat:=by omega
    rw [this,hy]
  refine T.jp (fun q=>q=nmBad (s.b.drop i.toNat)) (fun J h=>T.br (fun h3=>h _ ?_) fun h3=>T.ck (by omega) (h _ ?_)) fun q hq=>?_
  · unfold nmBad
    rw [hlast]
    have:=zOT h3
    subst this;rfl
  · unfold nmBad
    rw [hlast]
    have:=zOF h3
    have e:decide (some y=some (45:UInt8))=false:=by simpa using this
    rw [e,Bool.false_or,decide_eq_decide]
    omega
  · rw [← hq]
    exact T.br (fun h3=>T.some (by rw [h3];rfl)) fun h3=>T.some (by rw [h3,cond_false];omega)
end Go.Proofs.Q


namespace Go.Proofs.Q
open Go.Sy
set_option linter.unusedVariables false

theorem seg {b:List UInt8} {i k:Nat}:(b.take k).drop i=(b.drop i).take (k - i):=by rw [List.drop_take]
theorem zoh {b:List UInt8} {i n:Nat} {y:UInt8} (h:b[i + n]?=some y):(b.drop i)[n]?=some y:=by rw [List.getElem?_drop,h]
theorem znH {b:List UInt8} {n:Nat} {y:UInt8} (h:b[n]?=some y):b.take (n + 1)=b.take n ++ [y]:=by rw [List.take_add_one,h];rfl

/-! ### Numbers -/
def dg:List UInt8→Nat
  | []=>0
  | c :: r=>bif isDigit c then dg r + 1 else 0
theorem zmT (c:UInt8) (r:List UInt8):dg (c :: r)=bif isDigit c then dg r + 1 else 0:=rfl
theorem zn1:∀ b:List UInt8,dg b ≤ b.length
  | []=>Nat.le_refl _
  | c :: r=>by
    have:=zn1 r
    rw [zmT]
    cases isDigit c <;> simp <;> omega
def numBad (m:Bool) (d:List UInt8):Bool :=
  decide (dg d < 1) || decide (19 < dg d) || (decide (1 < dg d) && decide (hd d=48)) || (m && decide (hd d=48)) || zaN (hd (d.drop (dg d))) ||
    decide (9223372036854775808 < uval (d.take (dg d))) || (!m && decide (uval (d.take (dg d))=9223372036854775808))
def numLen (b:List UInt8):Option Nat :=
  bif decide (hd b=45) then bif numBad true (b.drop 1) then none else some (dg (b.drop 1) + 1)
  else bif numBad false b then none else some (dg b)
theorem zna (s:Str) (i:Int) (h0:0 ≤ i) (h1:i < s.b.length) (hl:s.b.length ≤ 1000000) :
    zdU s i=some (match numLen (s.b.drop i.toNat) with
      | none=>-1
      | some n=>i + (n:Int)):=by
  refine tx ?_
  unfold zdU
  refine T.get h0 h1 fun y1 hy1=>?_
  have hd1:hd (s.b.drop i.toNat)=y1:=by rw [dropc hy1];rfl
  refine T.jp (fun f=>i ≤ f∧f ≤ i + 1∧numLen (s.b.drop i.toNat)=(bif numBad (decide (y1=45)) (s.b.drop f.toNat) then none else some (dg (s.b.drop f.toNat) + (f - i).toNat))) (fun J h=>T.br (fun hb=>T.ck (by omega) (h _ ⟨by omega,by omega,?_⟩)) fun hb=>h _ ⟨by omega,by omega,?_⟩) fun f ⟨f1,f2,f3⟩=>?_
  · have e1:(i + 1).toNat=i.toNat + 1:=by omega
    have e2:(i + 1 - i).toNat=1:=by omega
    unfold numLen
    rw [hd1,hb,cond_true,e1,e2,List.drop_drop]
  · have e2:(i - i).toNat=0:=by omega
    unfold numLen
    rw [hd1,hb,cond_false,e2,Nat.add_zero]
  have hfl:f ≤ s.b.length:=by omega
  have hgoal:∀ k:Int,(dg (s.b.drop f.toNat):Int)=k - f→(match numLen (s.b.drop i.toNat) with
      | none=>-1
      | some n=>i + (n:Int))=bif numBad (decide (y1=45)) (s.b.drop f.toNat) then -1 else k:=by
    intro k hk
    rw [f3]
    cases numBad (decide (y1=45)) (s.b.drop f.toNat) with
    | true=>rfl
    | false =>
      show i + ((dg (s.b.drop f.toNat) + (f - i).toNat:Nat):Int)=k
      omega
  refine T.lp (ι:=Int × UInt64) (fun q=>f ≤ q.1∧q.1 ≤ s.b.length∧(dg (s.b.drop f.toNat):Int)=q.1 - f + dg (s.b.drop q.1.toNat)∧(q.1 - f ≤ 19→q.2=uval ((s.b.drop f.toNat).take (q.1.toNat - f.toNat)))) (fun q=>(s.b.length - q.1).toNat)
    ⟨Int.le_refl _,hfl,by dsimp only;omega,fun _=>by rw [Nat.sub_self];rfl⟩ (by simp only;omega) fun L q hq hL=>?_
  obtain ⟨k,v⟩:=q
  obtain ⟨hq1,hq2,hq3,hq4⟩:=hq
  simp only at hq1 hq2 hq3 hq4 ⊢
  refine T.jp (fun b=>(b=true→k < s.b.length∧(dg (s.b.drop f.toNat):Int)=k + 1 - f + dg (s.b.drop (k + 1).toNat))∧(b=false→(dg (s.b.drop f.toNat):Int)=k - f)) (fun J h=>?_) fun b hb=>?_
  · refine T.br (fun h2=>?_) fun h2=>h _ ⟨(fun h=>by cases h),fun _=>?_⟩
    · have h2:=zOT h2
      have ek:(k + 1).toNat=k.toNat + 1:=by omega
      refine T.get (by omega) h2 fun y hy=>T.eq (zdE y) (h _ ?_)
      rw [dropc hy,zmT] at hq3
      rw [ek]
      refine ⟨fun hd=>⟨h2,?_⟩,fun hd=>?_⟩
      · rw [hd,cond_true] at hq3;omega
      · rw [hd,cond_false] at hq3;omega
    · have h2:=zOF h2
      rw [List.drop_eq_nil_of_le (as:=s.b) (i:=k.toNat) (by omega)] at hq3
      simpa [dg] using hq3
  refine T.br (fun h2=>?_) fun h2=>?_
  · obtain ⟨hk,hd⟩:=hb.1 h2
    obtain ⟨y,hy⟩:∃ y,s.b[k.toNat]?=some y:=⟨_,List.getElem?_eq_getElem (by omega)⟩
    have hsn:=znH (b:=s.b.drop f.toNat) (n:=k.toNat - f.toNat) (y:=y) (zoh (by rw [show f.toNat + (k.toNat - f.toNat)=k.toNat by omega,hy]))
    have hk1:(k + 1).toNat - f.toNat=k.toNat - f.toNat + 1:=by omega
    refine T.ck (by omega) (T.jp (fun u=>k - f < 19→u=10 * v + (y - 48).toUInt64) (fun J h=>T.br (fun _=>?_) fun h3=>h _ fun h4=>by have:=zOF h3;omega) fun u hu=>T.ck (by omega) (hL _ ?_ (by simp only;omega)))
    · exact T.get (by omega) hk fun y' hy'=>h _ fun _=>by rw [hy] at hy';cases hy';rfl
    · refine ⟨by simp only;omega,by simp only;omega,hd,fun h19=>?_⟩
      simp only at h19 ⊢
      rw [hk1,hsn,zhr,hu (by omega),hq4 (by omega)]
  have hn:=hb.2 h2
  rw [hgoal k hn]
  refine T.ck (by omega) ?_
  have hdn:dg (s.b.drop f.toNat)=k.toNat - f.toNat:=by omega
  have hyf:1 ≤ k - f→∀ y,s.b[f.toNat]?=some y→hd (s.b.drop f.toNat)=y:=fun _ y hy=>by rw [dropc hy];rfl
  refine T.jp (fun b=>b=(decide (dg (s.b.drop f.toNat) < 1) || decide (19 < dg (s.b.drop f.toNat)))) (fun J h=>T.br (fun h3=>h _ ?_) fun h3=>h _ ?_) fun b1 hb1=>?_
  · have:=zOT h3;rw [zDT (by omega)];rfl
  · have:=zOF h3;rw [zDF (show ¬ dg (s.b.drop f.toNat) < 1 by omega),Bool.false_or,decide_eq_decide];omega
  refine T.jp (fun b=>b=(b1 || (decide (1 < dg (s.b.drop f.toNat)) && decide (hd (s.b.drop f.toNat)=48)))) (fun J h=>T.br (fun h3=>h _ (by rw [h3];rfl)) fun h3=>?_) fun b2 hb2=>?_
  · refine T.jp (fun b=>b=(decide (1 < dg (s.b.drop f.toNat)) && decide (hd (s.b.drop f.toNat)=48))) (fun J3 h4=>T.br (fun h5=>?_) fun h5=>h4 _ ?_) fun b hb=>h _ (by rw [h3,hb];rfl)
    · have h5:=zOT h5
      exact T.get (by omega) (by omega) fun y hy=>h4 _ (by rw [zDT (show 1 < dg (s.b.drop f.toNat) by omega),hyf (by omega) y hy];rfl)
    · have h5:=zOF h5
      rw [zDF (show ¬ 1 < dg (s.b.drop f.toNat) by omega)];rfl
  refine T.jp (fun b=>b=(b2 || (decide (y1=45) && decide (hd (s.b.drop f.toNat)=48)))) (fun J h=>T.br (fun h3=>h _ (by rw [h3];rfl)) fun h3=>?_) fun b3 hb3=>?_
  · have hge:1 ≤ k - f:=by
      have e1:=(Bool.or_eq_false_iff.1 (hb2.symm.trans h3)).1
      have:=zOF (Bool.or_eq_false_iff.1 (hb1.symm.trans e1)).1
      omega
    refine T.jp (fun b=>b=(decide (y1=45) && decide (hd (s.b.drop f.toNat)=48))) (fun J3 h4=>T.br (fun h5=>?_) fun h5=>h4 _ (by rw [h5];rfl)) fun b hb=>h _ (by rw [h3,hb];rfl)
    exact T.get (by omega) (by omega) fun y hy=>h4 _ (by rw [h5,hyf hge y hy];rfl)
  have hat:zea s k=some (hd ((s.b.drop f.toNat).drop (dg (s.b.drop f.toNat)))):=by
    rw [zi5 s k (by omega),List.drop_drop,hdn]
    congr 3;omega
  refine T.jp (fun b=>b=(b3 || zaN (hd ((s.b.drop f.toNat).drop (dg (s.b.drop f.toNat)))))) (fun J h=>T.br (fun h3=>h _ (by rw [h3];rfl)) fun h3=>T.eq hat (T.eq (zfb _) (h _ (by rw [h3];rfl)))) fun b4 hb4=>?_
  have hv:b4=false→v=uval ((s.b.drop f.toNat).take (dg (s.b.drop f.toNat))):=fun h=>by
    have e3:=(Bool.or_eq_false_iff.1 (hb4.symm.trans h)).1
    have e2:=(Bool.or_eq_false_iff.1 (hb3.symm.trans e3)).1
    have e1:=(Bool.or_eq_false_iff.1 (hb2.symm.trans e2)).1
    have:=zOF (Bool.or_eq_false_iff.1 (hb1.symm.trans e1)).2
    rw [hdn];exact hq4 (by omega)
  refine T.jp (fun b=>b=(b4 || decide (9223372036854775808 < uval ((s.b.drop f.toNat).take (dg (s.b.drop f.toNat)))))) (fun J h=>T.br (fun h3=>h _ (by rw [h3];rfl)) fun h3=>h _ (by rw [h3,hv h3];rfl)) fun b5 hb5=>?_
  refine T.jp (fun b=>b=(b5 || (!decide (y1=45) && decide (uval ((s.b.drop f.toNat).take (dg (s.b.drop f.toNat)))=9223372036854775808)))) (fun J h=>T.br (fun h3=>h _ (by rw [h3];rfl)) fun h3=>?_) fun b6 hb6=>?_
  · have e4:=(Bool.or_eq_false_iff.1 (hb5.symm.trans h3)).1
    refine T.jp (fun b=>b=(!decide (y1=45) && decide (uval ((s.b.drop f.toNat).take (dg (s.b.drop f.toNat)))=9223372036854775808))) (fun J3 h4=>T.br (fun h5=>h4 _ (by rw [h5,hv e4];rfl)) fun h5=>h4 _ (by rw [h5];rfl)) fun b hb=>h _ (by rw [h3,hb];rfl)
  have hall:b6=numBad (decide (y1=45)) (s.b.drop f.toNat):=by
    rw [hb6,hb5,hb4,hb3,hb2,hb1];rfl
  rw [← hall]
  exact T.br (fun h3=>T.some (by rw [h3];rfl)) fun h3=>T.some (by rw [h3];rfl)

/-! ### Hexes -/
def isHex (c:UInt8):Bool:=isDigit c || (decide (65 ≤ c) && decide (c ≤ 70))
def hx:List UInt8→Nat
  | []=>0
  | c :: r=>bif isHex c then hx r + 1 else 0
theorem zpi (c:UInt8) (r:List UInt8):hx (c :: r)=bif isHex c then hx r + 1 else 0:=rfl
def hexBad (r:List UInt8):Bool:=!decide (hx r % 2=0) || !decide (hd (r.drop (hx r))=39) || !decide (hd (r.drop (hx r + 1))=72)
theorem zoy {b:List UInt8} {n:Nat} (h:hd (b.drop n) ≠ 0):n < b.length:=by
  rcases Nat.lt_or_ge n b.length with h2 | h2
  · exact h2
  · rw [List.drop_eq_nil_of_le h2] at h;exact absurd rfl h
theorem zpL (s:Str) (i:Int) (h0:0 ≤ i) (h1:i < s.b.length) (hl:s.b.length ≤ 1000000) :
    zgp s i=some (bif hexBad (s.b.drop (i.toNat + 1)) then (-1,⟨[]⟩) else (i + 1 + (hx (s.b.drop (i.toNat + 1)):Int) + 2,⟨(s.b.drop (i.toNat + 1)).take (hx (s.b.drop (i.toNat + 1)))⟩)):=by
  refine tx ?_
  unfold zgp
  have e0:(i + 1).toNat=i.toNat + 1:=by omega
  refine T.ck (by omega) (T.lp (fun (k:Int)=>i + 1 ≤ k∧k ≤ (s.b.length:Int)∧(hx (s.b.drop (i.toNat + 1)):Int)=k - (i + 1) + hx (s.b.drop k.toNat)) (fun (k:Int)=>((s.b.length:Int) - k).toNat) ⟨Int.le_refl _,by omega,by rw [e0];omega⟩ (by omega) fun L k ⟨k1,k2,k3⟩ hL=>?_)
  refine T.jp (fun b=>(b=true→k < s.b.length∧(hx (s.b.drop (i.toNat + 1)):Int)=k + 1 - (i + 1) + hx (s.b.drop (k + 1).toNat))∧(b=false→(hx (s.b.drop (i.toNat + 1)):Int)=k - (i + 1))) (fun J h=>T.br (fun h2=>?_) fun h2=>h _ ⟨(fun h=>by cases h),fun _=>?_⟩) fun b hb=>?_
  · have h2:=zOT h2
    refine T.get (by omega) h2 fun y hy=>T.eq (zdE y) ?_
    have ek:(k + 1).toNat=k.toNat + 1:=by omega
    refine T.jp (fun q=>q=isHex y) (fun J2 h3=>T.br (fun h4=>h3 _ (by unfold isHex;rw [h4];rfl)) fun h4=>T.get (by omega) h2 fun y' hy'=>?_) fun q hq=>h _ ?_
    · rw [hy] at hy';cases hy'
      refine T.jp (fun q=>q=(decide (65 ≤ y) && decide (y ≤ 70))) (fun J4 h5=>T.br (fun h6=>T.get (by omega) h2 fun y' hy'=>h5 _ (by rw [hy] at hy';cases hy';rw [h6];rfl)) fun h6=>h5 _ (by rw [h6];rfl)) fun q hq=>h3 _ (by unfold isHex;rw [h4,hq];rfl)
    · subst hq
      rw [dropc hy,zpi] at k3
      rw [ek]
      refine ⟨fun hd=>⟨h2,?_⟩,fun hd=>?_⟩
      · rw [hd,cond_true] at k3;omega
      · rw [hd,cond_false] at k3;omega
  · have h2:=zOF h2
    rw [List.drop_eq_nil_of_le (as:=s.b) (i:=k.toNat) (by omega)] at k3
    simpa [hx] using k3
  refine T.br (fun h2=>T.ck (by have:=hb.1 h2;omega) (hL _ ⟨by have:=hb.1 h2;omega,by have:=hb.1 h2;omega,(hb.1 h2).2⟩ (by have:=hb.1 h2;omega))) fun h2=>?_
  have hn:=hb.2 h2
  have hdk:(s.b.drop (i.toNat + 1)).drop (hx (s.b.drop (i.toNat + 1)))=s.b.drop k.toNat:=by rw [List.drop_drop];congr 1;omega
  have hdk1:(s.b.drop (i.toNat + 1)).drop (hx (s.b.drop (i.toNat + 1)) + 1)=s.b.drop (k + 1).toNat:=by rw [List.drop_drop];congr 1;omega
  refine T.ck (by omega) (T.asr rfl ?_)
  have hmod:decide ((k - (i + 1)).tmod 2=0)=decide (hx (s.b.drop (i.toNat + 1)) % 2=0):=by
    rw [decide_eq_decide,Int.tmod_eq_emod_of_nonneg (by omega)]
    omega
  refine T.jp (fun b=>b=(!decide (hx (s.b.drop (i.toNat + 1)) % 2=0) || !decide (hd (s.b.drop k.toNat)=39))) (fun J h=>T.br (fun h3=>h _ (by rw [← hmod,h3];rfl)) fun h3=>T.eq (zi5 s k (by omega)) (h _ (by rw [← hmod,h3];rfl))) fun b1 hb1=>?_
  refine T.jp (fun b=>b=hexBad (s.b.drop (i.toNat + 1))) (fun J h=>T.br (fun h3=>h _ ?_) fun h3=>T.ck (by omega) (T.eq (zi5 s (k + 1) (by omega)) (h _ ?_))) fun b2 hb2=>?_
  · unfold hexBad;rw [hdk,← hb1,h3];rfl
  · unfold hexBad;rw [hdk,hdk1,← hb1,h3];rfl
  rw [← hb2]
  refine T.br (fun h3=>T.some (by rw [h3];rfl)) fun h3=>?_
  have hlt:k + 1 < s.b.length:=by
    rw [h3] at hb2
    unfold hexBad at hb2
    have:=(Bool.or_eq_false_iff.1 hb2.symm).2
    have h72:hd (s.b.drop (k + 1).toNat)=72:=by rw [hdk1] at this;simpa using this
    have:=zoy (b:=s.b) (n:=(k + 1).toNat) (by rw [h72];decide)
    omega
  refine T.ck (by omega) (T.asd (by omega) (T.some ?_))
  rw [h3,cond_false,seg,e0]
  have e5:k.toNat - (i.toNat + 1)=hx (s.b.drop (i.toNat + 1)):=by omega
  rw [e5,hn]
  have e6:i + 1 + (k - (i + 1)) + 2=k + 2:=by omega
  rw [e6]

/-! ### Strings -/
def qd:Bool→List UInt8→List UInt8→Option (List UInt8 × List UInt8)
  | _,[],_=>none
  | true,_ :: r,acc=>qd false r (acc ++ [34])
  | false,c :: r,acc=>bif decide (c=34) then bif decide (hd r=34) then qd true r acc else bif Lib.validD acc then some (acc,r) else none else qd false r (acc ++ [c])
theorem zm5 (s:Str) (i:Int) (h0:0 ≤ i) (h1:i < s.b.length) (hl:s.b.length ≤ 1000000) :
    zdP s i=some (match qd false (s.b.drop (i.toNat + 1)) [] with
      | none=>(-1,⟨[]⟩)
      | some (t,r)=>((s.b.length:Int) - (r.length:Int),⟨t⟩)):=by
  refine tx ?_
  unfold zdP
  have e0:(i + 1).toNat=i.toNat + 1:=by omega
  refine T.ck (by omega) (T.lp (ι:=Int × Str) (fun q=>i + 1 ≤ q.1∧q.1 ≤ s.b.length + 1∧(q.2.b.length:Int) < q.1∧qd false (s.b.drop (i.toNat + 1)) []=qd false (s.b.drop q.1.toNat) q.2.b) (fun q=>(s.b.length + 1 - q.1).toNat) ⟨Int.le_refl _,by dsimp only;omega,by dsimp only;simp only [List.length_nil];omega,by dsimp only;rw [e0]⟩ (by dsimp only;omega) fun L q hq hL=>?_)
  obtain ⟨k,o⟩:=q
  obtain ⟨hq1,hq2,hq3,hq4⟩:=hq
  simp only at hq1 hq2 hq3 hq4 ⊢
  rw [hq4] at hL ⊢
  refine T.br (fun h2=>?_) fun h2=>T.some ?_
  rotate_left
  · have h2:=zOF h2
    rw [List.drop_eq_nil_of_le (by omega)];simp only [qd]
  have h2:=zOT h2
  have ek:(k + 1).toNat=k.toNat + 1:=by omega
  refine T.jp (fun (q:Int × Str)=>k ≤ q.1∧q.1 < (s.b.length:Int)∧(q.2.b.length:Int) < q.1 + 1∧qd false (s.b.drop k.toNat) o.b=qd false (s.b.drop (q.1 + 1).toNat) q.2.b) (fun J h=>?_) fun q hq=>?_
  · refine T.get (by omega) h2 fun y hy=>T.br (fun h3=>?_) fun h3=>?_
    · have h34:decide (y=34)=false:=by simpa using h3
      have ey:(s.b.take (k + 1).toNat).drop k.toNat=[y]:=by
        rw [seg,ek,dropc hy,show k.toNat + 1 - k.toNat=1 by omega];rfl
      refine T.ck (by omega) (T.asd (by omega) (T.abl ?_ (h _ ⟨Int.le_refl _,h2,?_,?_⟩)))
      · simp only [List.length_drop,List.length_take];omega
      · simp only [List.length_append,List.length_drop,List.length_take];omega
      · dsimp only
        rw [ey,ek]
        conv=>lhs;rw [dropc hy]
        simp only [qd,h34,cond_false]
    · have h34:decide (y=34)=true:=by simpa using h3
      refine T.ck (by omega) (T.eq (zi5 s (k + 1) (by omega)) (T.br (fun h4=>?_) fun h4=>?_))
      · have hn:decide (hd (s.b.drop (k.toNat + 1))=34)=false:=by rw [ek] at h4;simpa using h4
        refine T.eq rfl (T.br (fun h5=>T.some ?_) fun h5=>T.ck (by omega) (T.some ?_))
        · have h5:Lib.validD o.b=false:=by simpa using h5
          conv=>rhs;rw [dropc hy]
          simp only [qd,h34,cond_true,hn,cond_false,h5]
        · have h5:Lib.validD o.b=true:=by simpa using h5
          conv=>rhs;rw [dropc hy]
          simp only [qd,h34,cond_true,hn,cond_false,h5,List.length_drop]
          congr 1;omega
      · have hn:hd (s.b.drop (k.toNat + 1))=34:=by rw [ek] at h4;simpa using h4
        have hlt:=zoy (b:=s.b) (n:=k.toNat + 1) (by rw [hn];decide)
        obtain ⟨c,ec⟩:=skip1 hlt
        refine T.abl ?_ (T.ck (by omega) (h _ ⟨by dsimp only;omega,by dsimp only;omega,?_,?_⟩))
        · simp only [List.length_cons,List.length_nil];omega
        · simp only [List.length_append,List.length_cons,List.length_nil];omega
        · dsimp only
          rw [show (k + 1 + 1).toNat=k.toNat + 1 + 1 by omega]
          conv=>lhs;rw [dropc hy]
          simp only [qd,h34,cond_true,zDT hn]
          rw [ec];simp only [qd]
  · exact T.ck (by omega) (hL _ ⟨by dsimp only;omega,by dsimp only;omega,hq.2.2.1,hq.2.2.2⟩ (by dsimp only;omega))
end Go.Proofs.Q


namespace Go.Proofs.Q
open Go.Sy
set_option linter.unusedVariables false

/-! ### Signs -/
def isPre:List UInt8→List UInt8→Bool
  | [],_=>true
  | _ :: _,[]=>false
  | p :: ps,c :: r=>bif decide (p=c) then isPre ps r else false
def sgF:List (List UInt8)→List UInt8→Nat
  | [],_=>0
  | p :: ps,b=>bif isPre p b then p.length else sgF ps b
def sgs:List (List UInt8):=[[58,58,61],[46,46,46],[46,46],[91,91],[93,93],[123],[125],[91],[93],[40],[41],[44],[58]]
def sg (b:List UInt8):Nat:=sgF sgs b
theorem zhj:∀ (p b:List UInt8),isPre p b=true ↔ p.length ≤ b.length∧b.take p.length=p
  | [],b=>by simp [isPre]
  | _ :: _,[]=>by simp [isPre]
  | p :: ps,c :: r=>by
    have ih:=zhj ps r
    unfold isPre
    by_cases h:p=c
    · subst h;simp [ih]
    · simp only [zDF h,cond_false,List.length_cons,List.take_succ_cons,List.cons.injEq]
      exact ⟨(fun h=>by cases h),fun h2=>absurd h2.2.1.symm h⟩
theorem zpz {k:Nat} {y:Str} (h:([(Str.mk [58,58,61]),(Str.mk [46,46,46]),(Str.mk [46,46]),(Str.mk [91,91]),(Str.mk [93,93]),(Str.mk [123]),(Str.mk [125]),(Str.mk [91]),(Str.mk [93]),(Str.mk [40]),(Str.mk [41]),(Str.mk [44]),(Str.mk [58])]:List Str)[k]?=some y):sgs.drop k=y.b :: sgs.drop (k + 1):=by
  have e:([(Str.mk [58,58,61]),(Str.mk [46,46,46]),(Str.mk [46,46]),(Str.mk [91,91]),(Str.mk [93,93]),(Str.mk [123]),(Str.mk [125]),(Str.mk [91]),(Str.mk [93]),(Str.mk [40]),(Str.mk [41]),(Str.mk [44]),(Str.mk [58])]:List Str)=sgs.map Str.mk:=rfl
  rw [e,List.getElem?_map] at h
  obtain ⟨z,h1,h2⟩:=Option.map_eq_some_iff.1 h
  subst h2
  obtain ⟨h3,h4⟩:=List.getElem?_eq_some_iff.1 h1
  rw [List.drop_eq_getElem_cons h3,h4]
theorem zo1 (s:Str) (i:Int) (h0:0 ≤ i) (h1:i < s.b.length) (hl:s.b.length ≤ 1000000):zfw s i=some ((sg (s.b.drop i.toNat):Nat):Int):=by
  refine tx ?_
  unfold zfw
  refine T.asd (by omega) (T.lp (fun (k:Int)=>0 ≤ k∧k ≤ 13∧sgF (sgs.drop k.toNat) (s.b.drop i.toNat)=sg (s.b.drop i.toNat)) (fun (k:Int)=>(13 - k).toNat) ⟨Int.le_refl _,by omega,rfl⟩ (by omega) fun L k ⟨k1,k2,k3⟩ hL=>?_)
  have er:(s.b.take ((s.b.length:Int)).toNat).drop i.toNat=s.b.drop i.toNat:=by rw [List.take_of_length_le (by omega)]
  refine T.br (fun h2=>?_) fun h2=>T.some ?_
  rotate_left
  · have h2:¬ k < 13:=zOF h2
    have:k=13:=by omega
    subst this
    rw [← k3];rfl
  have h2:=zOT h2
  refine T.get k1 h2 fun y hy=>?_
  have hs:=zpz hy
  rw [hs] at k3
  unfold sgF at k3
  rw [er]
  refine T.jp (fun b=>b=isPre y.b (s.b.drop i.toNat)) (fun J h=>T.br (fun h3=>?_) fun h3=>h _ ?_) fun b hb=>?_
  · have h3:=zOT h3
    refine T.asd ⟨Int.le_refl _,by omega,h3⟩ (T.get k1 h2 fun y2 hy2=>h _ ?_)
    rw [hy] at hy2;cases hy2
    have h4:y.b.length ≤ (s.b.drop i.toNat).length:=by simp only [List.length_drop] at h3 ⊢;omega
    rw [Bool.eq_iff_iff,decide_eq_true_eq,zhj]
    constructor
    · intro h5
      refine ⟨h4,?_⟩
      have:=congrArg Str.b h5
      simpa using this
    · intro h5
      obtain ⟨yb⟩:=y
      simp only [Str.mk.injEq]
      simpa using h5.2
  · have h3:=zOF h3
    symm
    rw [Bool.eq_false_iff]
    intro h5
    have:=(zhj _ _).1 h5
    simp only [List.length_drop] at h3 this
    omega
  · rw [hb]
    refine T.br (fun h3=>T.some ?_) fun h3=>T.ck (by have h2:k < 13:=h2;omega) (hL _ ⟨by omega,by have h2:k < 13:=h2;omega,?_⟩ (by have h2:k < 13:=h2;omega))
    · rw [h3,cond_true] at k3;rw [← k3]
    · rw [h3,cond_false] at k3
      have e:(k + 1).toNat=k.toNat + 1:=by omega
      rw [e,k3]

/-! ### Words -/
def wordsL:List Str:=[(Str.mk [68,69,70,73,78,73,84,73,79,78,83]),(Str.mk [69,88,80,76,73,67,73,84]),(Str.mk [73,77,80,76,73,67,73,84]),(Str.mk [65,85,84,79,77,65,84,73,67]),(Str.mk [84,65,71,83]),(Str.mk [66,69,71,73,78]),(Str.mk [69,78,68]),(Str.mk [66,79,79,76,69,65,78]),(Str.mk [73,78,84,69,71,69,82]),(Str.mk [69,78,85,77,69,82,65,84,69,68]),(Str.mk [78,85,76,76]),(Str.mk [79,67,84,69,84]),(Str.mk [83,84,82,73,78,71]),(Str.mk [85,84,70,56,83,116,114,105,110,103]),(Str.mk [83,69,81,85,69,78,67,69]),(Str.mk [83,69,84]),(Str.mk [67,72,79,73,67,69]),(Str.mk [79,70]),(Str.mk [79,80,84,73,79,78,65,76]),(Str.mk [68,69,70,65,85,76,84]),(Str.mk [83,73,90,69]),(Str.mk [77,73,78]),(Str.mk [77,65,88]),(Str.mk [84,82,85,69]),(Str.mk [70,65,76,83,69])]
def sameB:List UInt8→List UInt8→Bool
  | [],[]=>true
  | a :: r,b :: t=>bif decide (a=b) then sameB r t else false
  | _,_=>false
theorem zi0:∀ a b:List UInt8,sameB a b=true ↔ a=b
  | [],[]=>by simp [sameB]
  | [],_ :: _=>by simp [sameB]
  | _ :: _,[]=>by simp [sameB]
  | a :: r,b :: t=>by
    have ih:=zi0 r t
    unfold sameB
    by_cases h:a=b
    · subst h;simp [ih]
    · simp [h]
def isWord (t:List UInt8):Bool:=wordsL.any fun w=>sameB w.b t
theorem zpj (s:Str):zfx s=some (isWord s.b):=by
  refine tx ?_
  unfold zfx
  refine T.eq (y:=wordsL) rfl (T.cal (zfP wordsL s (by decide)) fun y _ hy=>T.some ?_)
  rw [hy,Bool.eq_iff_iff,decide_eq_true_eq]
  unfold isWord
  rw [List.any_eq_true]
  constructor
  · intro h;exact ⟨s,h,(zi0 _ _).2 rfl⟩
  · rintro ⟨w,h1,h2⟩
    have:=(zi0 _ _).1 h2
    obtain ⟨wb⟩:=w;obtain ⟨sb⟩:=s
    simp only at this;subst this;exact h1

/-! ### One sign, all signs -/
/-- The kind and the text of what comes first, and what is left behind it. -/
def oneS (b:List UInt8):Option (Int × List UInt8 × List UInt8) :=
  let c:=hd b
  bif zaN c then bif nmBad b then none else some (bif isWord (b.take (nm b)) then 5 else bif decide (c ≤ 90) then 1 else 2,b.take (nm b),b.drop (nm b))
  else bif isDigit c || (decide (c=45) && isDigit (hd (b.drop 1))) then match numLen b with
    | none=>none
    | some n=>some (3,b.take n,b.drop n)
  else bif decide (c=39) then bif hexBad (b.drop 1) then none else some (4,(b.drop 1).take (hx (b.drop 1)),(b.drop 1).drop (hx (b.drop 1) + 2))
  else bif decide (c=34) then match qd false (b.drop 1) [] with
    | none=>none
    | some (t,r)=>some (7,t,r)
  else bif decide (0 < sg b) then some (6,b.take (sg b),b.drop (sg b)) else none
theorem zln:∀ (b:List UInt8) (f:Bool) (acc t r:List UInt8),qd f b acc=some (t,r)→r.length < b.length
  | [],f,acc,t,r,h=>by cases f <;> simp [qd] at h
  | c :: b,true,acc,t,r,h=>by
    simp only [qd] at h
    have:=zln b _ _ _ _ h
    simp;omega
  | c :: b,false,acc,t,r,h=>by
    simp only [qd] at h
    by_cases h1:c=34
    · simp only [zDT h1,cond_true] at h
      by_cases h2:hd b=34
      · simp only [zDT h2,cond_true] at h
        have:=zln b _ _ _ _ h
        simp;omega
      · simp only [zDF h2,cond_false] at h
        cases hv:Lib.validD acc with
        | true=>rw [hv] at h;simp at h;rw [← h.2];simp
        | false=>rw [hv] at h;cases h
    · simp only [zDF h1,cond_false] at h
      have:=zln b _ _ _ _ h
      simp;omega
theorem zko {b:List UInt8} {n:Nat} (h:numLen b=some n):0 < n∧n ≤ b.length:=by
  unfold numLen at h
  by_cases h1:hd b=45
  · simp only [zDT h1,cond_true] at h
    cases hb:numBad true (b.drop 1) with
    | true=>rw [hb] at h;cases h
    | false =>
      rw [hb] at h;simp only [cond_false,Option.some.injEq] at h
      have:=zn1 (b.drop 1)
      rw [List.length_drop] at this
      have:b ≠ []:=fun e=>by rw [e] at h1;cases h1
      have:=List.length_pos_iff.2 this
      omega
  · simp only [zDF h1,cond_false] at h
    cases hb:numBad false b with
    | true=>rw [hb] at h;cases h
    | false =>
      rw [hb] at h;simp at h
      have:=zn1 b
      have:decide (dg b < 1)=false:=by
        unfold numBad at hb
        simp only [Bool.or_eq_false_iff] at hb
        exact hb.1.1.1.1.1.1
      have:=zOF this
      omega
theorem zpT {b:List UInt8} (h:zaN (hd b)=true):0 < nm b:=by
  cases b with
  | nil=>simp [hd,zaN] at h
  | cons c r =>
    rw [zmN]
    simp only [hd] at h
    unfold inName
    rw [h];simp
theorem zot:∀ (l:List (List UInt8)) (b:List UInt8),sgF l b ≤ b.length
  | [],b=>Nat.zero_le _
  | p :: ps,b=>by
    unfold sgF
    cases h:isPre p b with
    | true=>exact ((zhj _ _).1 h).1
    | false=>exact zot ps b
theorem zly {b t r:List UInt8} {k:Int} (h:oneS b=some (k,t,r)):r.length < b.length:=by
  unfold oneS at h
  simp only at h
  cases h1:zaN (hd b) with
  | true =>
    rw [h1,cond_true] at h
    cases h2:nmBad b with
    | true=>rw [h2] at h;cases h
    | false =>
      rw [h2] at h
      simp only [cond_false,Option.some.injEq,Prod.mk.injEq] at h
      rw [← h.2.2,List.length_drop]
      have:=zpT h1
      have:=zl8 b
      omega
  | false =>
    rw [h1,cond_false] at h
    cases h2:isDigit (hd b) || (decide (hd b=45) && isDigit (hd (b.drop 1))) with
    | true =>
      rw [h2,cond_true] at h
      cases h3:numLen b with
      | none=>rw [h3] at h;cases h
      | some n =>
        rw [h3] at h
        simp only [Option.some.injEq,Prod.mk.injEq] at h
        have:=zko h3
        rw [← h.2.2,List.length_drop];omega
    | false =>
      rw [h2,cond_false] at h
      by_cases h3:hd b=39
      · rw [zDT h3,cond_true] at h
        cases h4:hexBad (b.drop 1) with
        | true=>rw [h4] at h;cases h
        | false =>
          rw [h4] at h
          simp only [cond_false,Option.some.injEq,Prod.mk.injEq] at h
          have:b ≠ []:=fun e=>by rw [e] at h3;cases h3
          have:=List.length_pos_iff.2 this
          rw [← h.2.2,List.length_drop,List.length_drop];omega
      · rw [zDF h3,cond_false] at h
        by_cases h4:hd b=34
        · rw [zDT h4,cond_true] at h
          cases h5:qd false (b.drop 1) [] with
          | none=>rw [h5] at h;cases h
          | some q =>
            rw [h5] at h
            obtain ⟨t',r'⟩:=q
            simp only [Option.some.injEq,Prod.mk.injEq] at h
            have:=zln _ _ _ _ _ h5
            rw [List.length_drop] at this
            rw [← h.2.2];omega
        · rw [zDF h4,cond_false] at h
          by_cases h5:0 < sg b
          · rw [zDT h5,cond_true] at h
            simp only [Option.some.injEq,Prod.mk.injEq] at h
            have:=zot sgs b
            have e:sgF sgs b=sg b:=rfl
            rw [← h.2.2,List.length_drop];omega
          · rw [zDF h5] at h;cases h
theorem zpW (s:Str) (i:Int) (h0:0 ≤ i) (h1:i < s.b.length) (hl:s.b.length ≤ 1000000) :
    T (fun (q:GTok × Int)=>match oneS (s.b.drop i.toNat) with
      | none=>q.2 < 0
      | some (k,t,r)=>q=(⟨k,⟨t⟩,i⟩,(s.b.length:Int) - (r.length:Int))) (zgg s i):=by
  unfold zgg
  refine T.get h0 h1 fun y hy=>?_
  have ed:=dropc hy
  have hy0:hd (s.b.drop i.toNat)=y:=by rw [ed];rfl
  have ed1:(s.b.drop i.toNat).drop 1=s.b.drop (i.toNat + 1):=by rw [List.drop_drop]
  have elen:(s.b.drop i.toNat).length=s.b.length - i.toNat:=List.length_drop
  have etake:∀ (n:Nat),(s.b.take (i + (n:Int)).toNat).drop i.toNat=(s.b.drop i.toNat).take n:=fun n=>by
    rw [seg];congr 1;omega
  have erest:∀ (n:Nat),n ≤ (s.b.drop i.toNat).length→i + (n:Int)=(s.b.length:Int) - (((s.b.drop i.toNat).drop n).length:Int):=fun n hn=>by
    rw [List.length_drop,elen];rw [elen] at hn;omega
  refine T.jp (ι:=Int × GTok) (fun (q:Int × GTok)=>match oneS (s.b.drop i.toNat) with
      | none=>q.1 < 0
      | some (k,t,r)=>(q.2,q.1)=(⟨k,⟨t⟩,i⟩,(s.b.length:Int) - (r.length:Int))) (fun J h=>?_) fun q hq=>T.some hq
  unfold oneS at h ⊢
  simp only [hy0] at h ⊢
  refine T.eq (zfb y) (T.br (fun hle=>?_) fun hle=>T.eq (zdE y) ?_)
  · rw [hle,cond_true] at h ⊢
    have hcl:zaN (hd (s.b.drop i.toNat))=true:=by rw [hy0];exact hle
    refine T.eq (zpq s i h0 h1 hl hcl) ?_
    cases hb:nmBad (s.b.drop i.toNat) with
    | true =>
      rw [hb,cond_true] at h
      simp only [cond_true] at h ⊢
      exact T.br (fun _=>T.some (by dsimp only;omega)) fun hn=>by have:=zOF hn;omega
    | false =>
      rw [hb,cond_false] at h
      simp only [cond_false] at h ⊢
      have hnl:=zl8 (s.b.drop i.toNat)
      rw [elen] at hnl
      refine T.br (fun hn=>by have:=zOT hn;omega) fun _=>T.asd (by omega) ?_
      rw [etake]
      refine T.jp (ι:=GTok) (fun t=>t=⟨bif decide (y ≤ 90) then 1 else 2,⟨(s.b.drop i.toNat).take (nm (s.b.drop i.toNat))⟩,i⟩) (fun J2 h2=>T.br (fun h3=>h2 _ (by rw [h3];rfl)) fun h3=>h2 _ (by rw [h3];rfl)) fun t ht=>?_
      subst ht
      refine T.eq (zpj _) (T.br (fun h3=>h _ ?_) fun h3=>h _ ?_)
      · dsimp only at h3 ⊢;rw [h3,← erest _ (zl8 _)];rfl
      · dsimp only at h3 ⊢;rw [h3,← erest _ (zl8 _)];rfl
  · rw [hle, cond_false] at h ⊢
    refine T.jp (fun b=>b=(isDigit y || (decide (y=45) && isDigit (hd ((s.b.drop i.toNat).drop 1))))) (fun J2 h2=>T.br (fun h3=>h2 _ (by rw [h3];rfl)) fun h3=>?_) fun b hb=>?_
    · refine T.jp (fun b=>b=(decide (y=45) && isDigit (hd ((s.b.drop i.toNat).drop 1)))) (fun J3 h4=>T.br (fun h5=>T.ck (by omega) (T.eq (zi5 s (i + 1) (by omega)) (T.eq (zdE _) (h4 _ ?_)))) fun h5=>h4 _ (by rw [h5];rfl)) fun b hb=>h2 _ (by rw [h3,hb];rfl)
      rw [h5,ed1,show (i + 1).toNat=i.toNat + 1 by omega];rfl
    rw [← hb] at h ⊢
    refine T.br (fun h3=>T.eq (zna s i h0 h1 hl) ?_) fun h3=>?_
    · rw [h3,cond_true] at h ⊢
      cases hn:numLen (s.b.drop i.toNat) with
      | none =>
        simp only [hn] at h ⊢
        exact T.br (fun _=>T.some (by dsimp only;omega)) fun hn=>by have:=zOF hn;omega
      | some n =>
        simp only [hn] at h ⊢
        have hbd:=zko hn
        have hbd2:=hbd.2
        rw [elen] at hbd2
        refine T.br (fun hn=>by have:=zOT hn;omega) fun _=>T.asd (by omega) (h _ ?_)
        rw [etake,← erest n hbd.2]
    · rw [h3,cond_false] at h ⊢
      refine T.br (fun h4=>T.eq (zpL s i h0 h1 hl) (h _ ?_)) fun h4=>?_
      · rw [h4,cond_true,ed1]
        cases hb:hexBad (s.b.drop (i.toNat + 1)) with
        | true=>simp only [cond_true];omega
        | false =>
          simp only [cond_false]
          have h5:hx (s.b.drop (i.toNat + 1)) + 1 < (s.b.drop (i.toNat + 1)).length:=by
            unfold hexBad at hb
            have:=(Bool.or_eq_false_iff.1 hb).2
            have h72:hd ((s.b.drop (i.toNat + 1)).drop (hx (s.b.drop (i.toNat + 1)) + 1))=72:=by simpa using this
            exact zoy (by rw [h72];decide)
          rw [List.length_drop] at h5
          rw [List.length_drop,List.length_drop]
          have e:i + 1 + (hx (s.b.drop (i.toNat + 1)):Int) + 2=(s.b.length:Int) - ((s.b.length - (i.toNat + 1) - (hx (s.b.drop (i.toNat + 1)) + 2):Nat):Int):=by omega
          rw [e]
      · rw [h4,cond_false] at h ⊢
        refine T.br (fun h5=>T.eq (zm5 s i h0 h1 hl) (h _ ?_)) fun h5=>?_
        · rw [h5,cond_true,ed1]
          cases hq:qd false (s.b.drop (i.toNat + 1)) [] with
          | none=>simp only;omega
          | some q=>rfl
        · rw [h5,cond_false] at h ⊢
          refine T.eq (zo1 s i h0 h1 hl) (T.br (fun h6=>?_) fun h6=>h _ ?_)
          · have h6:=zOT h6
            have hsl:=zot sgs (s.b.drop i.toNat)
            have esg:sgF sgs (s.b.drop i.toNat)=sg (s.b.drop i.toNat):=rfl
            have hpos:0 < sg (s.b.drop i.toNat):=by omega
            have hsl2:=hsl
            rw [elen] at hsl2
            refine T.ck (by omega) (T.asd (by omega) (T.ck (by omega) (h _ ?_)))
            rw [zDT hpos,cond_true]
            dsimp only
            rw [etake,← erest (sg (s.b.drop i.toNat)) hsl]
          · have h6:=zOF h6
            rw [zDF (show ¬ 0 < sg (s.b.drop i.toNat) by omega)]
            simp only [cond_false];omega

def toksF (n:Nat):Nat→List UInt8→List GTok→List GTok × Int × Int
  | 0,_,_=>([],0,0)
  | f + 1,b,acc=>match wh .out b with
    | []=>(acc ++ [⟨0,⟨[]⟩,(n:Int)⟩],0,0)
    | c :: r=>match oneS (c :: r) with
      | none=>([],(n:Int) - ((c :: r).length:Int),6)
      | some (k,t,r')=>toksF n f r' (acc ++ [⟨k,⟨t⟩,(n:Int) - ((c :: r).length:Int)⟩])
theorem zh4 (n f:Nat) (b:List UInt8) (acc:List GTok):toksF n (f + 1) b acc=match wh .out b with
    | []=>(acc ++ [⟨0,⟨[]⟩,(n:Int)⟩],0,0)
    | c :: r=>match oneS (c :: r) with
      | none=>([],(n:Int) - ((c :: r).length:Int),6)
      | some (k,t,r')=>toksF n f r' (acc ++ [⟨k,⟨t⟩,(n:Int) - ((c :: r).length:Int)⟩]):=rfl
def toks (b:List UInt8):List GTok × Int × Int:=bif decide (8000 < b.length) then ([],0,5) else toksF b.length (b.length + 1) b []
theorem zgc:∀ (b:List UInt8) (st:Wst),(wh st b).length ≤ b.length
  | [],st=>by cases st <;> simp [wh]
  | c :: r,.out=>by
    have h1:=zgc r .out
    have h2:=zgc r .start
    simp only [wh]
    cases isWh c <;> simp only [cond_true,cond_false]
    · cases decide (c=45) && decide (hd r=45) <;> simp only [cond_true,cond_false,List.length_cons] <;> omega
    · simp only [List.length_cons];omega
  | c :: r,.start=>by have:=zgc r .ins;simp only [wh,List.length_cons];omega
  | c :: r,.ins=>by
    have h1:=zgc r .out
    have h2:=zgc r .fin
    have h3:=zgc r .ins
    simp only [wh,List.length_cons]
    cases decide (c=10) <;> simp only [cond_true,cond_false]
    · cases decide (c=45) && decide (hd r=45) <;> simp only [cond_true,cond_false] <;> omega
    · omega
  | c :: r,.fin=>by have:=zgc r .out;simp only [wh,List.length_cons];omega
theorem zg4:∀ (b:List UInt8) (st:Wst),∃ n,wh st b=b.drop n
  | [],st=>⟨0,by cases st <;> simp [wh]⟩
  | c :: r,.out=>by
    obtain ⟨n1,h1⟩:=zg4 r .out
    obtain ⟨n2,h2⟩:=zg4 r .start
    simp only [wh]
    cases isWh c <;> simp only [cond_true,cond_false]
    · cases decide (c=45) && decide (hd r=45) <;> simp only [cond_true,cond_false]
      · exact ⟨0,rfl⟩
      · exact ⟨n2 + 1,h2⟩
    · exact ⟨n1 + 1,h1⟩
  | c :: r,.start=>by obtain ⟨n,h⟩:=zg4 r .ins;exact ⟨n + 1,h⟩
  | c :: r,.ins=>by
    obtain ⟨n1,h1⟩:=zg4 r .out
    obtain ⟨n2,h2⟩:=zg4 r .fin
    obtain ⟨n3,h3⟩:=zg4 r .ins
    simp only [wh]
    cases decide (c=10) <;> simp only [cond_true,cond_false]
    · cases decide (c=45) && decide (hd r=45) <;> simp only [cond_true,cond_false]
      · exact ⟨n3 + 1,h3⟩
      · exact ⟨n2 + 1,h2⟩
    · exact ⟨n1 + 1,h1⟩
  | c :: r,.fin=>by obtain ⟨n,h⟩:=zg4 r .out;exact ⟨n + 1,h⟩
theorem zkM:∀ (b:List UInt8) (f:Bool) (acc t r:List UInt8),qd f b acc=some (t,r)→∃ n,r=b.drop n
  | [],f,acc,t,r,h=>by cases f <;> simp [qd] at h
  | c :: b,true,acc,t,r,h=>by
    simp only [qd] at h
    obtain ⟨n,e⟩:=zkM b _ _ _ _ h
    exact ⟨n + 1,e⟩
  | c :: b,false,acc,t,r,h=>by
    simp only [qd] at h
    by_cases h1:c=34
    · simp only [zDT h1,cond_true] at h
      by_cases h2:hd b=34
      · simp only [zDT h2,cond_true] at h
        obtain ⟨n,e⟩:=zkM b _ _ _ _ h
        exact ⟨n + 1,e⟩
      · simp only [zDF h2,cond_false] at h
        cases hv:Lib.validD acc with
        | true=>rw [hv] at h;simp at h;exact ⟨1,h.2.symm⟩
        | false=>rw [hv] at h;cases h
    · simp only [zDF h1,cond_false] at h
      obtain ⟨n,e⟩:=zkM b _ _ _ _ h
      exact ⟨n + 1,e⟩
theorem zn0 {b t r:List UInt8} {k:Int} (h:oneS b=some (k,t,r)):∃ n,r=b.drop n:=by
  unfold oneS at h
  simp only at h
  cases h1:zaN (hd b) with
  | true =>
    rw [h1,cond_true] at h
    cases h2:nmBad b with
    | true=>rw [h2] at h;cases h
    | false =>
      rw [h2] at h
      simp only [cond_false,Option.some.injEq,Prod.mk.injEq] at h
      exact ⟨_,h.2.2.symm⟩
  | false =>
    rw [h1,cond_false] at h
    cases h2:isDigit (hd b) || (decide (hd b=45) && isDigit (hd (b.drop 1))) with
    | true =>
      rw [h2,cond_true] at h
      cases h3:numLen b with
      | none=>rw [h3] at h;cases h
      | some n =>
        rw [h3] at h
        simp only [Option.some.injEq,Prod.mk.injEq] at h
        exact ⟨_,h.2.2.symm⟩
    | false =>
      rw [h2,cond_false] at h
      by_cases h3:hd b=39
      · rw [zDT h3,cond_true] at h
        cases h4:hexBad (b.drop 1) with
        | true=>rw [h4] at h;cases h
        | false =>
          rw [h4] at h
          simp only [cond_false,Option.some.injEq,Prod.mk.injEq,List.drop_drop] at h
          exact ⟨_,h.2.2.symm⟩
      · rw [zDF h3,cond_false] at h
        by_cases h4:hd b=34
        · rw [zDT h4,cond_true] at h
          cases h5:qd false (b.drop 1) [] with
          | none=>rw [h5] at h;cases h
          | some q =>
            rw [h5] at h
            obtain ⟨t',r'⟩:=q
            simp only [Option.some.injEq,Prod.mk.injEq] at h
            obtain ⟨n,e⟩:=zkM _ _ _ _ _ h5
            rw [List.drop_drop] at e
            exact ⟨_,h.2.2.symm.trans e⟩
        · rw [zDF h4,cond_false] at h
          by_cases h5:0 < sg b
          · rw [zDT h5,cond_true] at h
            simp only [Option.some.injEq,Prod.mk.injEq] at h
            exact ⟨_,h.2.2.symm⟩
          · rw [zDF h5] at h;cases h
theorem zl4 {b r:List UInt8} {n:Nat} (h:r=b.drop n):b.drop (b.length - r.length)=r:=by
  subst h
  rw [List.length_drop]
  rcases Nat.lt_or_ge b.length n with h2 | h2
  · rw [List.drop_eq_nil_of_le (show b.length ≤ n by omega),List.drop_eq_nil_of_le (by omega)]
  · congr 1;omega

theorem ziW (s:Str):zdg s=some (toks s.b):=by
  refine tx ?_
  unfold zdg toks
  refine T.br (fun h=>T.some ?_) fun h=>?_
  · have h:=zOT h
    rw [zDT (show 8000 < s.b.length by omega)];rfl
  have hl:=zOF h
  rw [zDF (show ¬ 8000 < s.b.length by omega),cond_false]
  refine T.lp (ι:=List GTok × Int) (fun (q:List GTok × Int)=>0 ≤ q.2∧q.2 ≤ (s.b.length:Int)∧(q.1.length:Int) ≤ q.2∧∃ f,(s.b.drop q.2.toNat).length < f∧toksF s.b.length (s.b.length + 1) s.b []=toksF s.b.length f (s.b.drop q.2.toNat) q.1) (fun (q:List GTok × Int)=>((s.b.length:Int) - q.2).toNat) ⟨Int.le_refl _,by dsimp only;omega,by simp,s.b.length + 1,by simp,rfl⟩ (by dsimp only;omega) fun L q hq hL=>?_
  obtain ⟨l,k⟩:=q
  obtain ⟨h1,h2,h3,f,h4,h5⟩:=hq
  simp only at h1 h2 h3 h4 h5 ⊢
  rw [h5] at hL ⊢
  cases f with
  | zero=>omega
  | succ f =>
    have hwl:=zgc (s.b.drop k.toNat) .out
    rw [List.length_drop] at hwl h4
    obtain ⟨nw,hw⟩:=zg4 (s.b.drop k.toNat) .out
    rw [List.drop_drop] at hw
    have hsw:=zl4 hw
    refine T.eq (zof s k h1 h2 (by omega)) ?_
    rw [zh4] at hL ⊢
    cases hwh:wh .out (s.b.drop k.toNat) with
    | nil =>
      simp only [hwh] at hL ⊢
      refine T.br (fun _=>T.abl (by simp only [List.length_cons,List.length_nil];omega) (T.some rfl)) fun h6=>?_
      have:=zOF h6
      simp at this
    | cons c r =>
      simp only [hwh] at hL ⊢ 
      rw [hwh] at hwl hsw
      have hcl:0 < (c :: r).length:=by simp
      refine T.br (fun h6=>by have:=zOT h6;omega) fun _=>?_
      have hi:((s.b.length:Int) - ((c :: r).length:Int)).toNat=s.b.length - (c :: r).length:=by omega
      refine T.cal (zpW s ((s.b.length:Int) - ((c :: r).length:Int)) (by omega) (by omega) (by omega)) fun q _ hq=>?_
      rw [hi,hsw] at hq
      cases ho:oneS (c :: r) with
      | none =>
        rw [ho] at hq
        simp only [ho] at hL ⊢
        simp only at hq
        exact T.br (fun _=>T.some rfl) fun h7=>by have:=zOF h7;omega
      | some p =>
        obtain ⟨kd,t,r'⟩:=p
        rw [ho] at hq
        simp only [ho] at hL ⊢
        simp only at hq
        subst hq
        have hol:=zly ho
        obtain ⟨no,hso⟩:=zn0 ho
        have hso2:r'=s.b.drop (s.b.length - (c :: r).length + no):=by rw [hso,← List.drop_drop,hsw]
        have hsd:=zl4 hso2
        refine T.br (fun h7=>by have:=zOT h7;dsimp only at this;omega) fun _=>T.abl (by simp only [List.length_cons,List.length_nil];omega) (hL _ ⟨by dsimp only;omega,by dsimp only;omega,?_,f,?_,?_⟩ (by dsimp only;omega))
        · dsimp only;rw [List.length_append,List.length_singleton];omega
        · dsimp only
          rw [show ((s.b.length:Int) - (r'.length:Int)).toNat=s.b.length - r'.length by omega,hsd]
          omega
        · dsimp only
          rw [show ((s.b.length:Int) - (r'.length:Int)).toNat=s.b.length - r'.length by omega,hsd]
end Go.Proofs.Q


namespace Go.Proofs.Q
open Go.Sy
set_option linter.unusedVariables false

inductive KT:List UInt8→List (Int × List UInt8)→Prop
  | fin {b:List UInt8}:wh .out b=[]→KT b []
  | tok {b r r' t:List UInt8} {c:UInt8} {k:Int} {ks:List (Int × List UInt8)}:wh .out b=c :: r→oneS (c :: r)=some (k,t,r')→KT r' ks→KT b ((k,t) :: ks)
def kt (t:GTok):Int × List UInt8:=(t.kind,t.text.b)
theorem zoV {n:Nat} {b:List UInt8} {ks:List (Int × List UInt8)} (h:KT b ks):∀ f acc,b.length < f→∃ l,toksF n f b acc=(acc ++ l,0,0)∧l.map kt=ks ++ [(0,[])]:=by
  induction h with
  | @fin b h =>
    intro f acc hf
    obtain ⟨f,rfl⟩:∃ g,f=g + 1:=⟨f - 1,by omega⟩
    rw [zh4,h]
    exact ⟨_,rfl,rfl⟩
  | @tok b r r' t c k ks h1 h2 _ ih =>
    intro f acc hf
    obtain ⟨f,rfl⟩:∃ g,f=g + 1:=⟨f - 1,by omega⟩
    have h3:=zly h2
    have h4:=zgc b .out
    rw [h1] at h4
    obtain ⟨l,e1,e2⟩:=ih f (acc ++ [⟨k,⟨t⟩,(n:Int) - ((c :: r).length:Int)⟩]) (by omega)
    rw [zh4,h1]
    simp only [h2]
    rw [e1]
    exact ⟨⟨k,⟨t⟩,(n:Int) - ((c :: r).length:Int)⟩ :: l,by rw [List.append_assoc];rfl,by rw [List.map_cons,e2];rfl⟩
theorem zpB {b:List UInt8} {ks:List (Int × List UInt8)} (h:KT b ks) (hl:b.length ≤ 8000):∃ l,toks b=(l,0,0)∧l.map kt=ks ++ [(0,[])]:=by
  unfold toks
  rw [zDF (show ¬ 8000 < b.length by omega),cond_false]
  obtain ⟨l,e1,e2⟩:=zoV (n:=b.length) h (b.length + 1) [] (by omega)
  exact ⟨l,by rw [e1,List.nil_append],e2⟩

/-! ### White -/
theorem KT.sp {b:List UInt8} {ks:List (Int × List UInt8)} (h:KT b ks):KT (32 :: b) ks:=by
  cases h with
  | fin h=>exact .fin h
  | tok h1 h2 h3=>exact .tok h1 h2 h3
theorem zll {c:UInt8} {r:List UInt8} (h1:isWh c=false) (h2:c ≠ 45 ∨ hd r ≠ 45):wh .out (c :: r)=c :: r:=by
  have e:(decide (c=45) && decide (hd r=45))=false:=by
    rcases h2 with h | h
    · rw [zDF h];rfl
    · rw [zDF h,Bool.and_false]
  show (bif isWh c then wh .out r else bif decide (c=45) && decide (hd r=45) then wh .start r else c :: r)=_
  rw [h1,e];rfl
theorem zpI {w x:List UInt8}:hd (w ++ x)=hd (w ++ [hd x]):=by
  cases w with
  | nil=>rfl
  | cons c w=>rfl

/-! ### Names -/
def nmAll:List UInt8→UInt8→Bool
  | [],_=>true
  | c :: w,d=>inName c (w ++ [d]) && nmAll w d
def stopN:List UInt8→Bool
  | []=>true
  | d :: r=>!inName d r
theorem znJ {c:UInt8} {r s:List UInt8} (h:hd r=hd s):inName c r=inName c s:=by unfold inName;rw [h]
theorem zn3 {x:List UInt8} (hs:stopN x=true):∀ {w:List UInt8},nmAll w (hd x)=true→nm (w ++ x)=w.length
  | [], _=>by
    cases x with
    | nil=>rfl
    | cons d r =>
      have:inName d r=false:=by
        have hs2:(!inName d r)=true:=hs
        cases h:inName d r with
        | true=>rw [h] at hs2;cases hs2
        | false=>rfl
      show (bif inName d r then nm r + 1 else 0)=0
      rw [this];rfl
  | c :: w,h=>by
    unfold nmAll at h
    rw [Bool.and_eq_true] at h
    show (bif inName c (w ++ x) then nm (w ++ x) + 1 else 0)=w.length + 1
    rw [znJ zpI,h.1,zn3 hs h.2];rfl
def kindN (w:List UInt8):Int:=bif isWord w then 5 else bif decide (hd w ≤ 90) then 1 else 2
theorem zge {w x:List UInt8} (h:w ≠ []):hd (w ++ x)=hd w:=by
  cases w with
  | nil=>exact absurd rfl h
  | cons c w=>rfl
theorem zk5 {w:List UInt8} (h:zaN (hd w)=true):w ≠ []:=fun e=>by subst e;cases h
theorem znY {w x:List UInt8} (h0:zaN (hd w)=true) (h1:nmAll w (hd x)=true) (h2:stopN x=true) (h3:w.getLast? ≠ some 45) (h4:w.length ≤ 60):oneS (w ++ x)=some (kindN w,w,x):=by
  have hn:=zn3 h2 h1
  have hb:nmBad (w ++ x)=false:=by
    unfold nmBad
    rw [hn,List.take_left,zDF h3,zDF (by omega)];rfl
  unfold oneS
  simp only
  rw [zge (zk5 h0),h0,hb,hn,List.take_left,List.drop_left]
  rfl
theorem znM {c:UInt8} (h:zaN c=true):isWh c=false∧c ≠ 45:=by
  unfold zaN at h
  unfold isWh
  simp only [Bool.or_eq_true,Bool.and_eq_true,decide_eq_true_eq,UInt8.le_iff_toNat_le] at h
  have e:∀ n:UInt8,n.toNat ≤ 45→c ≠ n:=fun n hn e=>by
    subst e
    have e1:(97:UInt8).toNat=97:=rfl
    have e2:(65:UInt8).toNat=65:=rfl
    omega
  rw [zDF (e 32 (by decide)),zDF (e 9 (by decide)),zDF (e 10 (by decide)),zDF (e 13 (by decide))]
  exact ⟨rfl,e 45 (by decide)⟩
theorem KT.name {w x:List UInt8} {ks:List (Int × List UInt8)} (h0:zaN (hd w)=true) (h1:nmAll w (hd x)=true) (h2:stopN x=true) (h3:w.getLast? ≠ some 45) (h4:w.length ≤ 60) (h:KT x ks):KT (w ++ x) ((kindN w,w) :: ks):=by
  cases hw:w with
  | nil=>rw [hw] at h0;cases h0
  | cons c r =>
    have hc:zaN c=true:=by rw [hw] at h0;exact h0
    obtain ⟨e1,e2⟩:=znM hc
    have:=znY h0 h1 h2 h3 h4
    rw [hw] at this
    exact .tok (zll e1 (.inl e2)) this h

/-! ### Numbers -/
def digs2 (d:List UInt8):Bool:=d.all isDigit
theorem zla {x:List UInt8} (hs:isDigit (hd x)=false):∀ {d:List UInt8},digs2 d=true→dg (d ++ x)=d.length
  | [],_=>by
    cases x with
    | nil=>rfl
    | cons c r =>
      show (bif isDigit c then dg r + 1 else 0)=0
      have:isDigit c=false:=hs
      rw [this];rfl
  | c :: d,h=>by
    unfold digs2 at h
    rw [List.all_cons,Bool.and_eq_true] at h
    show (bif isDigit c then dg (d ++ x) + 1 else 0)=d.length + 1
    rw [h.1,zla hs h.2];rfl
def numOk (m:Bool) (d:List UInt8):Bool:=digs2 d && decide (1 ≤ d.length) && decide (d.length ≤ 19) && (decide (d.length ≤ 1) || !decide (hd d=48)) && (!m || !decide (hd d=48)) && decide ((uval d).toNat ≤ (if m then 9223372036854775808 else 9223372036854775807))
theorem zjQ {m:Bool} {d x:List UInt8} (h:numOk m d=true) (h1:isDigit (hd x)=false) (h2:zaN (hd x)=false):numBad m (d ++ x)=false:=by
  unfold numOk at h
  simp only [Bool.and_eq_true,decide_eq_true_eq] at h
  obtain ⟨⟨⟨⟨⟨h3,h4⟩,h5⟩,h6⟩,h7⟩,h8⟩:=h
  have hne:d ≠ []:=fun e=>by subst e;simp at h4
  have hn:=zla h1 h3
  unfold numBad
  rw [hn,zge hne,List.drop_left,List.take_left,h2,zDF (show ¬ d.length < 1 by omega),zDF (show ¬ 19 < d.length by omega)]
  have e1:(decide (1 < d.length) && decide (hd d=48))=false:=by
    rw [Bool.or_eq_true] at h6
    rcases h6 with h | h
    · rw [zDF (by have:=zOT h;omega)];rfl
    · have:decide (hd d=48)=false:=by simpa using h
      rw [this,Bool.and_false]
  have e2:(m && decide (hd d=48))=false:=by
    rw [Bool.or_eq_true] at h7
    rcases h7 with h | h
    · have:m=false:=by simpa using h
      rw [this];rfl
    · have:decide (hd d=48)=false:=by simpa using h
      rw [this,Bool.and_false]
  have e3:decide ((9223372036854775808:UInt64) < uval d)=false:=by
    refine zDF fun h=>?_
    have h:=UInt64.lt_iff_toNat_lt.1 h
    have e:(9223372036854775808:UInt64).toNat=9223372036854775808:=rfl
    cases m with
    | true=>rw [if_pos rfl] at h8;omega
    | false=>rw [if_neg (by decide)] at h8;omega
  have e4:(!m && decide (uval d=9223372036854775808))=false:=by
    cases m with
    | true=>rfl
    | false =>
      rw [if_neg (by decide)] at h8
      have:¬ uval d=9223372036854775808:=fun e=>by
        rw [e] at h8
        have e:(9223372036854775808:UInt64).toNat=9223372036854775808:=rfl
        omega
      rw [zDF this];rfl
  rw [e1,e2,e3,e4];rfl
theorem ziJ {c:UInt8} (h:isDigit c=true):zaN c=false∧isWh c=false∧c ≠ 45:=by
  unfold isDigit at h
  simp only [Bool.and_eq_true,decide_eq_true_eq,UInt8.le_iff_toNat_le] at h
  have a1:(48:UInt8).toNat=48:=rfl
  have a2:(57:UInt8).toNat=57:=rfl
  have e:∀ n:UInt8,n.toNat ≤ 45→c ≠ n:=fun n hn e=>by subst e;omega
  refine ⟨?_,?_,e 45 (by decide)⟩
  · unfold zaN
    have b1:(97:UInt8).toNat=97:=rfl
    have b2:(65:UInt8).toNat=65:=rfl
    rw [zDF (show ¬ (97:UInt8) ≤ c from fun h=>by have:=UInt8.le_iff_toNat_le.1 h;omega),zDF (show ¬ (65:UInt8) ≤ c from fun h=>by have:=UInt8.le_iff_toNat_le.1 h;omega)];rfl
  · unfold isWh
    rw [zDF (e 32 (by decide)),zDF (e 9 (by decide)),zDF (e 10 (by decide)),zDF (e 13 (by decide))];rfl
theorem zeJ {m:Bool} {d:List UInt8} (h:numOk m d=true):d ≠ []:=fun e=>by subst e;cases m <;> cases h
theorem zg3 {m:Bool} {d:List UInt8} (h:numOk m d=true):isDigit (hd d)=true:=by
  cases d with
  | nil=>exact absurd rfl (zeJ h)
  | cons c r =>
    unfold numOk digs2 at h
    simp only [Bool.and_eq_true,List.all_cons] at h
    exact h.1.1.1.1.1.1
theorem zpp {d x:List UInt8} (h:numOk false d=true) (h1:isDigit (hd x)=false) (h2:zaN (hd x)=false):oneS (d ++ x)=some (3,d,x):=by
  have hc:=zg3 h
  obtain ⟨e1,e2,e3⟩:=ziJ hc
  have hn:numLen (d ++ x)=some d.length:=by
    unfold numLen
    have hd2:digs2 d=true:=by
      unfold numOk at h
      simp only [Bool.and_eq_true] at h
      exact h.1.1.1.1.1
    rw [zge (zeJ h),zDF e3,cond_false,zjQ h h1 h2,cond_false,zla h1 hd2]
  unfold oneS
  simp only
  rw [zge (zeJ h),e1,hc,Bool.true_or,cond_true,cond_false,hn]
  simp only [List.take_left,List.drop_left]
theorem zpy {d x:List UInt8} (h:numOk true d=true) (h1:isDigit (hd x)=false) (h2:zaN (hd x)=false):oneS (45 :: (d ++ x))=some (3,45 :: d,x):=by
  have hc:=zg3 h
  have hn:numLen (45 :: (d ++ x))=some (d.length + 1):=by
    unfold numLen
    have hd2:digs2 d=true:=by
      unfold numOk at h
      simp only [Bool.and_eq_true] at h
      exact h.1.1.1.1.1
    show (bif numBad true (d ++ x) then none else some (dg (d ++ x) + 1))=_
    rw [zjQ h h1 h2,cond_false,zla h1 hd2]
  unfold oneS
  have e:isDigit (hd ((45 :: (d ++ x)).drop 1))=true:=by
    show isDigit (hd (d ++ x))=true
    rw [zge (zeJ h)];exact hc
  simp only
  rw [show zaN (hd (45 :: (d ++ x)))=false from rfl,show isDigit (hd (45 :: (d ++ x)))=false from rfl,show decide (hd (45 :: (d ++ x))=45)=true from rfl,e,hn]
  show some (3,(45 :: (d ++ x)).take (d.length + 1),(45 :: (d ++ x)).drop (d.length + 1))=_
  rw [List.take_succ_cons,List.drop_succ_cons,List.take_left,List.drop_left]
theorem KT.num {d x:List UInt8} {ks:List (Int × List UInt8)} (h:numOk false d=true) (h1:isDigit (hd x)=false) (h2:zaN (hd x)=false) (hk:KT x ks):KT (d ++ x) ((3,d) :: ks):=by
  have:=zpp h h1 h2
  have hc:=zg3 h
  cases hw:d with
  | nil=>exact absurd hw (zeJ h)
  | cons c r =>
    rw [hw] at this hc
    obtain ⟨_,e2,e3⟩:=ziJ hc
    exact .tok (zll e2 (.inl e3)) this hk
theorem KT.neg {d x:List UInt8} {ks:List (Int × List UInt8)} (h:numOk true d=true) (h1:isDigit (hd x)=false) (h2:zaN (hd x)=false) (hk:KT x ks):KT (45 :: (d ++ x)) ((3,45 :: d) :: ks):=by
  have hc:=zg3 h
  refine .tok (zll rfl (.inr ?_)) (zpy h h1 h2) hk
  rw [zge (zeJ h)]
  exact (ziJ hc).2.2

/-! ### Signs -/
/-- May that stand behind a sign? -/
def sgN (s:List UInt8) (d:UInt8):Bool:=!(decide (s=[91]) && decide (d=91)) && !(decide (s=[93]) && decide (d=93)) && !(decide (s=[46,46]) && decide (d=46)) && !(decide (s=[58]) && decide (d=58))
theorem zpR {s:List UInt8} (hs:s ∈ sgs) {x:List UInt8} (h:sgN s (hd x)=true):sg (s ++ x)=s.length:=by
  have n1:∀ (p c:UInt8) (r:List UInt8),hd r ≠ c→isPre [p,c] (p :: r)=false:=fun p c r h=>by
    cases r with
    | nil=>show (bif decide (p=p) then false else false)=false;cases decide (p=p) <;> rfl
    | cons d r =>
      have:¬ c=d:=fun e=>h e.symm
      show (bif decide (p=p) then (bif decide (c=d) then true else false) else false)=false
      rw [zDF this];cases decide (p=p) <;> rfl
  have n2:∀ (p q c:UInt8) (r:List UInt8),hd r ≠ c→isPre [p,q,c] (p :: q :: r)=false:=fun p q c r h=>by
    cases r with
    | nil=>show (bif decide (p=p) then (bif decide (q=q) then false else false) else false)=false;cases decide (p=p) <;> cases decide (q=q) <;> rfl
    | cons d r =>
      have:¬ c=d:=fun e=>h e.symm
      show (bif decide (p=p) then (bif decide (q=q) then (bif decide (c=d) then true else false) else false) else false)=false
      rw [zDF this];cases decide (p=p) <;> cases decide (q=q) <;> rfl
  have n3:∀ (p q c:UInt8) (r:List UInt8),hd r ≠ q→isPre [p,q,c] (p :: r)=false:=fun p q c r h=>by
    cases r with
    | nil=>show (bif decide (p=p) then false else false)=false;cases decide (p=p) <;> rfl
    | cons d r =>
      have:¬ q=d:=fun e=>h e.symm
      show (bif decide (p=p) then (bif decide (q=d) then isPre [c] r else false) else false)=false
      rw [zDF this];cases decide (p=p) <;> rfl
  unfold sgN at h
  simp only [Bool.and_eq_true] at h
  obtain ⟨⟨⟨h1,h2⟩,h3⟩,h4⟩:=h
  have sp:∀ {s':List UInt8} {d:UInt8},s=s'→(!(decide (s=s') && decide (hd x=d)))=true→hd x ≠ d:=fun {s' d} e h hd=>by
    rw [zDT e,zDT hd] at h;cases h
  simp only [sgs,List.mem_cons,List.not_mem_nil,or_false] at hs
  rcases hs with e | e | e | e | e | e | e | e | e | e | e | e | e
  · subst e;rfl
  · subst e;rfl
  · have:=sp e h3
    subst e
    show (bif isPre [46,46,46] (46 :: 46 :: x) then 3 else 2)=2
    rw [n2 _ _ _ _ this];rfl
  · subst e;rfl
  · subst e;rfl
  · subst e;rfl
  · subst e;rfl
  · have:=sp e h1
    subst e
    show (bif isPre [91,91] (91 :: x) then 2 else 1)=1
    rw [n1 _ _ _ this];rfl
  · have:=sp e h2
    subst e
    show (bif isPre [93,93] (93 :: x) then 2 else 1)=1
    rw [n1 _ _ _ this];rfl
  · subst e;rfl
  · subst e;rfl
  · subst e;rfl
  · have:=sp e h4
    subst e
    show (bif isPre [58,58,61] (58 :: x) then 3 else 1)=1
    rw [n3 _ _ _ _ this];rfl
theorem zn2 {s:List UInt8} (hs:s ∈ sgs) {x:List UInt8} (h:sgN s (hd x)=true):oneS (s ++ x)=some (6,s,x)∧wh .out (s ++ x)=s ++ x:=by
  have hg:=zpR hs h
  have hl:0 < s.length:=by
    simp only [sgs,List.mem_cons,List.not_mem_nil,or_false] at hs
    rcases hs with e | e | e | e | e | e | e | e | e | e | e | e | e <;> subst e <;> decide
  have key:(bif decide (0 < sg (s ++ x)) then some ((6:Int),(s ++ x).take (sg (s ++ x)),(s ++ x).drop (sg (s ++ x))) else none)=some (6,s,x):=by
    rw [hg,zDT hl,cond_true,List.take_left,List.drop_left]
  simp only [sgs,List.mem_cons,List.not_mem_nil,or_false] at hs
  rcases hs with e | e | e | e | e | e | e | e | e | e | e | e | e <;> subst e <;> exact ⟨key,rfl⟩
theorem KT.sign {s:List UInt8} (hs:s ∈ sgs) {x:List UInt8} {ks:List (Int × List UInt8)} (h:sgN s (hd x)=true) (hk:KT x ks):KT (s ++ x) ((6,s) :: ks):=by
  obtain ⟨h1,h2⟩:=zn2 hs h
  cases hw:s ++ x with
  | nil=>rw [hw] at h1;cases h1
  | cons c r =>
    rw [hw] at h1 h2
    exact .tok h2 h1 hk

def esc:List UInt8→List UInt8
  | []=>[]
  | c :: s=>if c=34 then 34 :: 34 :: esc s else c :: esc s
theorem zma {x:List UInt8} (hx:hd x ≠ 34):∀ (s acc:List UInt8),qd false (esc s ++ 34 :: x) acc=bif Lib.validD (acc ++ s) then some (acc ++ s,x) else none
  | [],acc=>by
    show (bif decide ((34:UInt8)=34) then bif decide (hd x=34) then qd true x acc else bif Lib.validD acc then some (acc,x) else none else _)=_
    rw [zDF hx,List.append_nil];rfl
  | c :: s,acc=>by
    by_cases hc:c=34
    · subst hc
      have:=zma hx s (acc ++ [34])
      rw [List.append_assoc] at this
      exact this
    · have:=zma hx s (acc ++ [c])
      rw [List.append_assoc] at this
      unfold esc
      rw [if_neg hc]
      show (bif decide (c=34) then _ else qd false (esc s ++ 34 :: x) (acc ++ [c]))=_
      rw [zDF hc]
      exact this
theorem zpu {s x:List UInt8} (hx:hd x ≠ 34) (hv:Lib.validD s=true):oneS (34 :: (esc s ++ 34 :: x))=some (7,s,x):=by
  have:=zma hx s []
  rw [List.nil_append,hv,cond_true] at this
  show (match qd false (esc s ++ 34 :: x) [] with
    | none=>none
    | some (t,r)=>some ((7:Int),t,r))=_
  rw [this]
theorem KT.str {s x:List UInt8} {ks:List (Int × List UInt8)} (hx:hd x ≠ 34) (hv:Lib.validD s=true) (hk:KT x ks):KT (34 :: (esc s ++ 34 :: x)) ((7,s) :: ks) :=
  .tok (zll rfl (.inl (by decide))) (zpu hx hv) hk
end Go.Proofs.Q


namespace Go.Proofs.Q
open Go.Sy
set_option linter.unusedVariables false

abbrev KS:=List (Int × List UInt8)
structure Sg (L:List GTok) (a:Int) (ks:KS):Prop where
  a0:0 ≤ a
  len:L.length ≤ 9000
  dr:(L.drop a.toNat).map kt=ks ++ [(0,[])]
theorem Sg.get {L a k ks} (h:Sg L a (k :: ks)):∃ t,L[a.toNat]?=some t∧kt t=k:=by
  have h1:=h.dr
  cases hd:L.drop a.toNat with
  | nil=>rw [hd] at h1;cases h1
  | cons t r =>
    rw [hd] at h1
    have e:L[a.toNat]?=some t:=by
      have:=List.getElem?_drop (xs:=L) (i:=a.toNat) (j:=0)
      rw [hd] at this
      simpa using this.symm
    exact ⟨t,e,(List.cons.inj h1).1⟩
theorem Sg.end_ {L a} (h:Sg L a []):∃ t,L[a.toNat]?=some t∧t.kind=0:=by
  have h1:=h.dr
  cases hd:L.drop a.toNat with
  | nil=>rw [hd] at h1;cases h1
  | cons t r =>
    rw [hd] at h1
    have e:L[a.toNat]?=some t:=by
      have:=List.getElem?_drop (xs:=L) (i:=a.toNat) (j:=0)
      rw [hd] at this
      simpa using this.symm
    exact ⟨t,e,congrArg Prod.fst (List.cons.inj h1).1⟩
theorem Sg.size {L a ks} (h:Sg L a ks):a.toNat + ks.length + 1=L.length:=by
  have h1:=congrArg List.length h.dr
  simp only [List.length_map,List.length_drop,List.length_append,List.length_singleton] at h1
  omega
theorem Sg.tl {L a k ks} (h:Sg L a (k :: ks)):Sg L (a + 1) ks:=by
  refine ⟨by have:=h.a0;omega,h.len,?_⟩
  have h1:=h.dr
  have e:(a + 1).toNat=a.toNat + 1:=by have:=h.a0;omega
  rw [e,← List.drop_drop,List.map_drop,h1];rfl
theorem Sg.app {L a}:∀ {xs ks:KS},Sg L a (xs ++ ks)→Sg L (a + xs.length) ks:=by
  intro xs
  induction xs generalizing a with
  | nil=>intro ks h;simpa using h
  | cons x xs ih =>
    intro ks h
    have:=ih (ks:=ks) (Sg.tl (k:=x) h)
    rw [List.length_cons]
    rw [show a + ((xs.length + 1:Nat):Int)=a + 1 + (xs.length:Int) by omega];exact this
theorem zmS {t:GTok} {k s} (h:kt t=(k,s)):t.kind=k∧t.text=⟨s⟩:=by
  unfold kt at h
  injection h with h1 h2
  exact ⟨h1,by cases ht:t.text with | mk b=>rw [ht] at h2;exact congrArg Str.mk h2⟩
theorem zhy {α:Type} {L:List α} {a:Int} {t:α} (h0:0 ≤ a) (h:L[a.toNat]?=some t):getI L a=some t:=by
  unfold getI
  cases a with
  | ofNat n=>exact h
  | negSucc n=>omega

section small
variable {L:List GTok} {a:Int} {m:GMod} {ks:KS} {k:Int} {s t:List UInt8} {p:Int}
theorem zgu (h:Sg L a ((k,t) :: ks)) {e:Int}:∃ y,zat ⟨L,a,m,e,p⟩=some (y,⟨L,a,m,e,p⟩)∧y.kind=k∧y.text=⟨t⟩:=by
  obtain ⟨y,h1,h2⟩:=h.get
  refine ⟨y,?_,zmS h2⟩
  unfold zat
  dsimp only
  rw [zhy h.a0 h1];rfl
theorem zmJ (h:Sg L a ((k,t) :: ks)) {e:Int}:∃ y,zaX ⟨L,a,m,e,p⟩=some (y,⟨L,a + 1,m,e,p⟩)∧y.kind=k∧y.text=⟨t⟩:=by
  obtain ⟨y,h1,h2⟩:=h.get
  refine ⟨y,?_,zmS h2⟩
  have hs:=h.size
  have h0:=h.a0
  have hl:=h.len
  simp only [List.length_cons] at hs
  refine T.fin ?_
  unfold zaX
  refine T.eq (zhy h.a0 h1) (T.ck (by dsimp only;omega) (T.jp0 (T.br (fun _=>T.ck (by dsimp only;omega) (T.some rfl)) fun h3=>?_)))
  have h3:=zOF h3
  exact absurd (by dsimp only;omega) h3
def isK (k:Int) (t s:List UInt8):Bool:=(decide (k=5) || decide (k=6)) && decide (t=s)
theorem zdD (h:Sg L a ((k,t) :: ks)) (hn:isK k t s=false):zK ⟨L,a,m,0,p⟩ ⟨s⟩=some (false,⟨L,a,m,0,p⟩):=by
  obtain ⟨y,h1,h2,h3⟩:=zgu (m:=m) (p:=p) (e:=0) h
  unfold isK at hn
  refine T.fin ?_
  unfold zK
  refine T.eq h1 ?_
  dsimp only
  rw [h2,h3]
  refine T.jp (fun b=>b=(decide (k=5) || decide (k=6))) (fun J hJ=>T.br (fun _=>T.jp0 (T.br (fun h=>hJ _ (by rw [h];rfl)) fun h=>hJ _ (by rw [h];rfl))) fun h=>by cases h) fun b hb=>?_
  subst hb
  refine T.jp (fun b=>b=false) (fun J hJ=>T.br (fun h=>hJ _ ?_) fun h=>hJ _ rfl) fun b hb=>?_
  · rw [h] at hn
    refine zDF fun e=>?_
    injection e with e
    rw [zDT e] at hn;cases hn
  · subst hb;exact T.some rfl
theorem zev (h:Sg L a ((k,s) :: ks)) (hk:(decide (k=5) || decide (k=6))=true):zK ⟨L,a,m,0,p⟩ ⟨s⟩=some (true,⟨L,a + 1,m,0,p⟩):=by
  obtain ⟨y,h1,h2,h3⟩:=zgu (m:=m) (p:=p) (e:=0) h
  obtain ⟨y',h4,_⟩:=zmJ (m:=m) (p:=p) (e:=0) h
  refine T.fin ?_
  unfold zK
  refine T.eq h1 ?_
  dsimp only
  rw [h2,h3]
  refine T.jp (fun b=>b=true) (fun J hJ=>T.br (fun _=>T.jp0 (T.br (fun h=>hJ _ rfl) fun h=>hJ _ (by rw [h] at hk;simpa using hk))) fun h=>by cases h) fun b hb=>?_
  subst hb
  refine T.jp (fun b=>b=true) (fun J hJ=>T.br (fun h=>hJ _ (zDT rfl)) fun h=>by cases h) fun b hb=>?_
  subst hb
  refine T.br (fun _=>T.eq h4 (T.some rfl)) fun h=>by cases h
theorem zco (h:Sg L a ((k,s) :: ks)) (hk:(decide (k=5) || decide (k=6))=true):zU ⟨L,a,m,0,p⟩ ⟨s⟩=some ⟨L,a + 1,m,0,p⟩:=by
  refine T.fin ?_
  unfold zU
  refine T.jp0 (T.br (fun _=>T.eq (zev h hk) ?_) fun h=>by cases h)
  exact T.br (fun h=>by cases h) fun _=>T.some rfl
theorem zjU (h:Sg L a ((k,s) :: ks)):zaY ⟨L,a,m,0,p⟩ k=some (⟨s⟩,⟨L,a + 1,m,0,p⟩):=by
  obtain ⟨y,h1,h2,h3⟩:=zgu (m:=m) (p:=p) (e:=0) h
  obtain ⟨y',h4,h5,h6⟩:=zmJ (m:=m) (p:=p) (e:=0) h
  refine T.fin ?_
  unfold zaY
  refine T.eq h1 ?_
  dsimp only
  rw [h2]
  refine T.jp (fun b=>b=false) (fun J hJ=>T.br (fun h=>by cases h) fun _=>hJ _ (by rw [zDT rfl];rfl)) fun b hb=>?_
  subst hb
  refine T.br (fun h=>by cases h) fun _=>T.eq h4 (T.some ?_)
  rw [h6]
theorem zkc {v:Int} (h:Sg L a ((3,s) :: ks)) (hs:s ≠ []) (hv:zdw ⟨s⟩=some v):za8 ⟨L,a,m,0,p⟩=some (v,⟨L,a + 1,m,0,p⟩):=by
  refine T.fin ?_
  unfold za8
  refine T.eq (zjU h) (T.br (fun h=>?_) fun _=>T.eq hv (T.some rfl))
  have h:=zOT h
  injection h with h
  exact absurd h hs
end small

/-! ### Bounds and sizes -/
section bounds
variable {L:List GTok} {a:Int} {m:GMod} {ks:KS}
structure Num (s:List UInt8) (v:Int):Prop where
  ne:s ≠ []
  val:zdw ⟨s⟩=some v
def dotsT (more:Bool):KS:=if more then [(6,[44]),(6,[46,46,46])] else []
def spanT (lo hi:List UInt8) (more:Bool):KS:=(3,lo) :: (6,[46,46]) :: (3,hi) :: dotsT more
theorem zjh {lo hi:List UInt8} {l h:Int} {more:Bool} (hA:Sg L a (spanT lo hi more ++ (6,[41]) :: ks)) (h1:Num lo l) (h2:Num hi h) :
    zbA ⟨L,a,m,0,0⟩=some (⟨true,true,true,more,l,h⟩,⟨L,a + (spanT lo hi more).length,m,0,0⟩):=by
  have a1:=hA.tl
  have a2:=a1.tl
  have a3:Sg L (a + 1 + 1 + 1) (dotsT more ++ (6,[41]) :: ks):=a2.tl
  refine T.fin ?_
  unfold zbA
  refine T.eq (zdD hA rfl) (T.jp0 (T.br (fun _=>T.eq (zkc hA h1.ne h1.val) ?_) fun h=>by cases h))
  refine T.jp0 (T.eq (zev a1 rfl) (T.br (fun _=>T.eq (zdD a2 rfl) (T.br (fun _=>T.eq (zkc a2 h2.ne h2.val) ?_) fun h=>by cases h)) fun h=>by cases h))
  cases more with
  | true =>
    rw [show a + ((spanT lo hi true).length:Int)=a + 1 + 1 + 1 + 1 + 1 from by show a + (5:Int)=_;omega]
    exact T.eq (zev a3 rfl) (T.jp0 (T.br (fun _=>T.eq (zco a3.tl rfl) (T.some rfl)) fun h=>by cases h))
  | false =>
    rw [show a + ((spanT lo hi false).length:Int)=a + 1 + 1 + 1 from by show a + (3:Int)=_;omega]
    exact T.eq (zdD a3 rfl) (T.jp0 (T.br (fun h=>by cases h) fun _=>T.some rfl))
def sizeT (lo hi:List UInt8) (more:Bool):KS:=(6,[40]) :: (5,[83,73,90,69]) :: (6,[40]) :: (spanT lo hi more ++ [(6,[41]),(6,[41])])
theorem zkt {lo hi:List UInt8} {l h:Int} {more:Bool} (hA:Sg L a (sizeT lo hi more ++ ks)) (h1:Num lo l) (h2:Num hi h) :
    zbH ⟨L,a,m,0,0⟩=some (⟨true,true,true,more,l,h⟩,⟨L,a + (sizeT lo hi more).length,m,0,0⟩):=by
  have a1:Sg L (a + 1 + 1 + 1) (spanT lo hi more ++ (6,[41]) :: (6,[41]) :: ks):=by
    have:=hA.tl.tl.tl
    simpa using this
  have a2:=a1.app
  refine T.fin ?_
  unfold zbH
  refine T.eq (zev hA rfl) (T.br (fun h=>by cases h) fun _=>T.eq (zco hA.tl rfl) (T.eq (zco hA.tl.tl rfl) (T.eq (zjh a1 h1 h2) (T.eq (zco a2 rfl) (T.eq (zco a2.tl rfl) (T.some ?_))))))
  have:a + (sizeT lo hi more).length=a + 1 + 1 + 1 + (spanT lo hi more).length + 1 + 1:=by
    unfold sizeT;simp only [List.length_cons,List.length_append,List.length_nil];omega
  rw [this]
end bounds
end Go.Proofs.Q


namespace Go.Proofs.Q
open Go.Sy
set_option linter.unusedVariables false

def zm (μ:GMark):GNode:=⟨0,⟨[]⟩,μ,⟨false,false,false,false,0,0⟩,[],[],0,false,0⟩
@[reducible] def noM:GMark:=⟨false,0,0⟩
def addN (m:GMod) (ns:List GNode):GMod:=⟨m.name,m.tagging,m.names,m.types,m.nodes ++ ns⟩
theorem zj4 (m:GMod):addN m []=m:=by unfold addN;rw [List.append_nil]
theorem znz (m:GMod) (a b:List GNode):addN (addN m a) b=addN m (a ++ b):=by unfold addN;dsimp only;rw [List.append_assoc]
theorem zlt (m:GMod) (a:List GNode):(addN m a).nodes.length=m.nodes.length + a.length:=by unfold addN;dsimp only;rw [List.length_append]

structure TypK (h:Nat) (ts:KS) (sz:Nat) (ns:Nat→List GNode):Prop where
  len:∀ i,(ns i).length=sz
  go:∀ {n:Nat} {d:Int} {L:List GTok} {a:Int} {m:GMod} {k:Int} {t:List UInt8} {ks:KS},4 * h ≤ n→0 ≤ d→d + h ≤ 17→Sg L a (ts ++ (k,t) :: ks)→isK k t [40]=false→m.nodes.length + sz ≤ 300 →
    za0 n ⟨L,a,m,0,0⟩ d=some ((m.nodes.length:Int),⟨L,a + ts.length,addN m (ns m.nodes.length),0,0⟩)
structure BaseK (h:Nat) (ts:KS) (sz:Nat) (ns:Nat→List GNode) (f:GMark→Nat→GNode):Prop where
  len:∀ i,(ns i).length=sz
  go:∀ {n:Nat} {d:Int} {L:List GTok} {a:Int} {m:GMod} {k:Int} {t:List UInt8} {ks:KS} (μ:GMark),4 * h + 3 ≤ n→0 ≤ d→d + h ≤ 16→Sg L a (ts ++ (k,t) :: ks)→isK k t [40]=false→m.nodes.length + sz ≤ 300 →
    zbf n ⟨L,a,m,0,0⟩ (zm μ) d=some (⟨L,a + ts.length,addN m (ns m.nodes.length),0,0⟩,f μ m.nodes.length)
def Beg (k:Int) (t:List UInt8):Prop:=∀ y:GTok,y.kind=k→y.text=⟨t⟩→zeE y=some true
theorem znZ {α:Type} (p:List α) (x y:α) (r:List α):(p ++ x :: r).set p.length y=p ++ y :: r:=by
  rw [List.set_append_right _ _ (Nat.le_refl _),Nat.sub_self];rfl
theorem zmD {α:Type} (p:List α) (x:α) (r:List α):(p ++ x :: r)[p.length]?=some x:=by
  rw [List.getElem?_append_right (Nat.le_refl _),Nat.sub_self];rfl
theorem zo2 (n:Nat):za0 (n + 1)=zb3 (zbw n) (za0 n) (zbf n) (zbB n):=rfl
theorem zo0 {h:Nat} {bts:KS} {sz:Nat} {ns:Nat→List GNode} {f:GMark→Nat→GNode} (hb:BaseK h bts sz ns f) {n:Nat} {d:Int} {L:List GTok} {a:Int} {m:GMod} {k:Int} {t:List UInt8} {ks:KS} (μ:GMark) (h1:4 * h + 3 ≤ n) (h2:0 ≤ d) (h3:d + h ≤ 16) (hA:Sg L a (bts ++ (k,t) :: ks)) (hk:isK k t [40]=false) (hm:m.nodes.length + (sz + 1) ≤ 300) (z:GNode) :
    T (fun r=>r=((m.nodes.length:Int),(⟨L,a + bts.length,addN m (f μ (m.nodes.length + 1) :: ns (m.nodes.length + 1)),0,0⟩:GPar)))
      (cal (zbf n ⟨L,a,addN m [z],0,0⟩ (zm μ) d) fun y63=>br (!decide (y63.1.e=(0:Int))) (some ((0:Int),y63.1)) (asr (decide (0 ≤ ((m.nodes.length:Nat):Int)∧((m.nodes.length:Nat):Int) < ((y63.1.m.nodes.length:Nat):Int))) <| cal (y63.1.m.nodes[((m.nodes.length:Nat):Int).toNat]?) fun y74=>some (((m.nodes.length:Nat):Int),(GPar.mk y63.1.l y63.1.at_ (GMod.mk y63.1.m.name y63.1.m.tagging y63.1.m.names y63.1.m.types (y63.1.m.nodes.set (((m.nodes.length:Nat):Int).toNat) y63.2)) y63.1.e y63.1.p)))):=by
  have e1:(addN m [z]).nodes.length=m.nodes.length + 1:=by rw [zlt];rfl
  have hg:=hb.go μ h1 h2 h3 hA hk (m:=addN m [z]) (by rw [e1];omega)
  rw [e1,znz] at hg
  refine T.eq hg (T.brF rfl (T.asd ⟨by omega,?_⟩ ?_))
  · dsimp only
    rw [zlt];simp only [List.length_append,List.length_cons];omega
  · have e2:(addN m ([z] ++ ns (m.nodes.length + 1))).nodes=m.nodes ++ z :: ns (m.nodes.length + 1):=rfl
    dsimp only
    rw [Int.toNat_natCast,e2,zmD,znZ]
    exact T.some rfl
theorem zli {h:Nat} {k0:Int} {t0:List UInt8} {bts:KS} {sz:Nat} {ns:Nat→List GNode} {f:GMark→Nat→GNode} (hb:BaseK h ((k0,t0) :: bts) sz ns f) (hg:Beg k0 t0) (hn:isK k0 t0 [91]=false) :
    TypK (h + 1) ((k0,t0) :: bts) (sz + 1) (fun i=>f noM (i + 1) :: ns (i + 1)):=by
  refine ⟨fun i=>by rw [List.length_cons,hb.len],?_⟩
  intro n d L a m k t ks h1 h2 h3 hA hk hm
  obtain ⟨n,rfl⟩:∃ n',n=n' + 1:=⟨n - 1,by omega⟩
  rw [zo2]
  obtain ⟨y,e1,e2,e3⟩:=zgu (m:=m) (p:=0) (e:=0) hA
  refine T.fin ?_
  unfold zb3
  refine T.brF rfl (T.eq e1 (T.eq (hg y e2 e3) (T.brF rfl ?_)))
  refine T.jp (fun b=>b=false) (fun J hJ=>T.brF (zDF (by omega)) (hJ _ (zDF (by dsimp only;omega)))) fun b hb'=>T.brF hb' ?_
  refine T.abl (by dsimp only;simp only [List.length_singleton];omega) (T.eq (zdD hA hn) (T.jp0 (T.brF rfl ?_)))
  exact zo0 hb noM (by omega) h2 (by omega) hA hk (by omega) _
/-! ### Bases -/
section bases
variable {n:Nat}
theorem zij (n:Nat):zbf (n + 1)=za9 (zbw n) (za0 n) (zbf n) (zbB n):=rfl
theorem znh:BaseK 0 [(5,[78,85,76,76])] 0 (fun _=>[]) (fun μ _=>{ zm μ with kind:=4 }):=by
  refine ⟨fun _=>rfl,?_⟩
  intro n d L a m k t ks μ h1 h2 h3 hA hk hm
  obtain ⟨n,rfl⟩:∃ n',n=n' + 1:=⟨n - 1,by omega⟩
  rw [zij,zj4]
  obtain ⟨y,e1,e2,e3⟩:=zgu (m:=m) (p:=0) (e:=0) hA
  refine T.fin ?_
  unfold za9
  exact T.eq e1 (T.brF rfl (T.eq (zdD hA rfl) (T.brF rfl (T.eq (zev hA rfl) (T.brT rfl (T.some rfl))))))
theorem zoU {lo hi:List UInt8} {l h:Int} {more:Bool} (hl:Num lo l) (hh:Num hi h):BaseK 0 ((5,[73,78,84,69,71,69,82]) :: (6,[40]) :: (spanT lo hi more ++ [(6,[41])])) 0 (fun _=>[]) (fun μ _=>{ zm μ with kind:=2,con:=⟨true,true,true,more,l,h⟩ }):=by
  refine ⟨fun _=>rfl,?_⟩
  intro n d L a m k t ks μ h1 h2 h3 hA hk hm
  obtain ⟨n,rfl⟩:∃ n',n=n' + 1:=⟨n - 1,by omega⟩
  rw [zij,zj4]
  obtain ⟨y,e1,e2,e3⟩:=zgu (m:=m) (p:=0) (e:=0) hA
  have a1:=Sg.tl hA
  have a2:Sg L (a + 1 + 1) (spanT lo hi more ++ (6,[41]) :: (k,t) :: ks):=by
    have:=Sg.tl a1
    simpa using this
  refine T.fin ?_
  unfold za9
  refine T.eq e1 (T.brF rfl (T.eq (zdD hA rfl) (T.brF rfl (T.eq (zdD hA rfl) (T.brF rfl (T.eq (zdD hA rfl) (T.brF rfl (T.eq (zev hA rfl) (T.brT rfl (T.eq (zev a1 rfl) (T.brT rfl (T.eq (zjh a2 hl hh) (T.eq (zco a2.app rfl) (T.some ?_))))))))))))))
  have e:a + (((5,[73,78,84,69,71,69,82]) :: (6,[40]) :: (spanT lo hi more ++ [(6,[41])]):KS).length:Int)=a + 1 + 1 + ((spanT lo hi more).length:Int) + 1:=by
    simp only [List.length_cons,List.length_append,List.length_nil];omega
  rw [e]
theorem zlx {lo hi:List UInt8} {l h:Int} {more:Bool} (hl:Num lo l) (hh:Num hi h):BaseK 0 ((5,[79,67,84,69,84]) :: (5,[83,84,82,73,78,71]) :: sizeT lo hi more) 0 (fun _=>[]) (fun μ _=>{ zm μ with kind:=5,con:=⟨true,true,true,more,l,h⟩ }):=by
  refine ⟨fun _=>rfl,?_⟩
  intro n d L a m k t ks μ h1 h2 h3 hA hk hm
  obtain ⟨n,rfl⟩:∃ n',n=n' + 1:=⟨n - 1,by omega⟩
  rw [zij,zj4]
  obtain ⟨y,e1,e2,e3⟩:=zgu (m:=m) (p:=0) (e:=0) hA
  have a1:=Sg.tl hA
  have a2:Sg L (a + 1 + 1) (sizeT lo hi more ++ (k,t) :: ks):=Sg.tl a1
  refine T.fin ?_
  unfold za9
  refine T.eq e1 (T.brF rfl (T.eq (zdD hA rfl) (T.brF rfl (T.eq (zdD hA rfl) (T.brF rfl (T.eq (zdD hA rfl) (T.brF rfl (T.eq (zdD hA rfl) (T.brF rfl (T.eq (zev hA rfl) (T.brT rfl (T.eq (zco a1 rfl) (T.eq (zkt a2 hl hh) (T.some ?_))))))))))))))
  have e:a + (((5,[79,67,84,69,84]) :: (5,[83,84,82,73,78,71]) :: sizeT lo hi more:KS).length:Int)=a + 1 + 1 + ((sizeT lo hi more).length:Int):=by
    simp only [List.length_cons];omega
  rw [e]
theorem znS {h sz:Nat} {ts:KS} {ns:Nat→List GNode} (hT:TypK h ts sz ns) {lo hi:List UInt8} {l hh:Int} {more:Bool} (hl:Num lo l) (hh':Num hi hh):BaseK h ((5,[83,69,81,85,69,78,67,69]) :: (sizeT lo hi more ++ (5,[79,70]) :: ts)) sz ns (fun μ i=>{ zm μ with kind:=10,con:=⟨true,true,true,more,l,hh⟩,of:=(i:Int) }):=by
  refine ⟨hT.len,?_⟩
  intro n d L a m k t ks μ h1 h2 h3 hA hk hm
  obtain ⟨n,rfl⟩:∃ n',n=n' + 1:=⟨n - 1,by omega⟩
  rw [zij]
  obtain ⟨y,e1,e2,e3⟩:=zgu (m:=m) (p:=0) (e:=0) hA
  have a1:Sg L (a + 1) (sizeT lo hi more ++ (5,[79,70]) :: (ts ++ (k,t) :: ks)):=by
    have:=Sg.tl hA
    simpa using this
  have a2:=a1.app
  have a3:Sg L (a + 1 + (sizeT lo hi more).length + 1) (ts ++ (k,t) :: ks):=Sg.tl a2
  have no:∀ s:List UInt8,isK 5 [83,69,81,85,69,78,67,69] s=false→zK ⟨L,a,m,0,0⟩ ⟨s⟩=some (false,⟨L,a,m,0,0⟩):=fun s hs=>zdD hA hs
  refine T.fin ?_
  unfold za9
  refine T.eq e1 (T.brF rfl (T.eq (no _ rfl) (T.brF rfl (T.eq (no _ rfl) (T.brF rfl (T.eq (no _ rfl) (T.brF rfl (T.eq (no _ rfl) (T.brF rfl (T.eq (no _ rfl) (T.brF rfl (T.eq (no _ rfl) (T.brF rfl (T.eq (no _ rfl) (T.brF rfl (T.eq (no _ rfl) (T.brF rfl (T.eq (zev hA rfl) (T.brT rfl (T.eq (zdD a1 rfl) (T.brF rfl (T.eq (zkt a1 hl hh') (T.eq (zco a2 rfl) (T.ck (by omega) (T.eq (hT.go (by omega) (by omega) (by omega) a3 hk hm) (T.some ?_))))))))))))))))))))))))))
  have e:a + (((5,[83,69,81,85,69,78,67,69]) :: (sizeT lo hi more ++ (5,[79,70]) :: ts):KS).length:Int)=a + 1 + ((sizeT lo hi more).length:Int) + 1 + (ts.length:Int):=by
    simp only [List.length_cons,List.length_append];omega
  rw [e]
end bases
end Go.Proofs.Q


namespace Go.Proofs.Q
open Go.Sy
set_option linter.unusedVariables false

structure Fl where
  name:List UInt8
  ts:KS
  sz:Nat
  ns:Nat→List GNode
  tail:KS
  opt:Bool
  has:Bool
  df:Val
def Fl.toks (f:Fl):KS:=(2,f.name) :: (f.ts ++ f.tail)
def Fl.fl (f:Fl) (g:Int) (i:Nat):GFld:=⟨⟨f.name⟩,(i:Int),f.opt,f.has,f.df,g⟩
@[reducible] def zv:Val:=Val.mk 0 0 [] [] 0 []
def addF (n:GNode) (f:GFld):GNode:=⟨n.kind,n.name,n.mark,n.con,n.items,n.fields ++ [f],n.root,n.more,n.of⟩
structure Sep (k:Int) (t:List UInt8):Prop where
  par:isK k t [40]=false
  opt:isK k t [79,80,84,73,79,78,65,76]=false
  dft:isK k t [68,69,70,65,85,76,84]=false
structure FldK (h:Nat) (kind:Int) (f:Fl):Prop where
  len:∀ i,(f.ns i).length=f.sz
  go:∀ {n:Nat} {d:Int} {L:List GTok} {a:Int} {m:GMod} {k:Int} {t:List UInt8} {ks:KS} {nd:GNode} {g:Int},4 * h + 1 ≤ n→0 ≤ d→d + h ≤ 16→Sg L a (f.toks ++ (k,t) :: ks)→Sep k t→m.nodes.length + f.sz ≤ 300→nd.kind=kind→nd.fields.length ≤ 1000 →
    zbw n ⟨L,a,m,0,0⟩ nd d g=some (⟨L,a + f.toks.length,addN m (f.ns m.nodes.length),0,0⟩,addF nd (f.fl g m.nodes.length))
/-! ### Some of them, with commas -/
def sepK:List KS→KS
  | []=>[]
  | [x]=>x
  | x :: y :: r=>x ++ (6,[44]) :: sepK (y :: r)
/-! ### What stands within a bracket -/
inductive FI where
  | one (x:Fl)
  | dots
  | grp (l:List Fl)
def FI.toks:FI→KS
  | .one x=>x.toks
  | .dots=>[(6,[46,46,46])]
  | .grp l=>(6,[91,91]) :: (sepK (l.map Fl.toks) ++ [(6,[93,93])])
end Go.Proofs.Q


namespace Go.Proofs.Q
open Go.Sy
set_option linter.unusedVariables false

/-! ### Modules -/
structure As where
  name:List UInt8
  ts:KS
  sz:Nat
  ns:Nat→List GNode
  h:Nat
structure AsK (x:As):Prop where
  t:TypK x.h x.ts x.sz x.ns
  h:x.h ≤ 17
def As.toks (x:As):KS:=(1,x.name) :: (6,[58,58,61]) :: x.ts
def typesA:List As→Nat→List Int
  | [],_=>[]
  | x :: r,i=>(i:Int) :: typesA r (i + x.sz)
def nodesA:List As→Nat→List GNode
  | [],_=>[]
  | x :: r,i=>x.ns i ++ nodesA r (i + x.sz)
def szA (l:List As):Nat:=(l.map As.sz).sum
def tagT (g:Int):KS:=if g=1 then [(5,[73,77,80,76,73,67,73,84]),(5,[84,65,71,83])] else if g=2 then [(5,[65,85,84,79,77,65,84,73,67]),(5,[84,65,71,83])] else if g=3 then [(5,[69,88,80,76,73,67,73,84]),(5,[84,65,71,83])] else []
def tagOf (g:Int):Int:=if g=1 then 1 else if g=2 then 2 else 0
def modT (nm:List UInt8) (g:Int) (l:List As):KS:=(1,nm) :: (5,[68,69,70,73,78,73,84,73,79,78,83]) :: (tagT g ++ (6,[58,58,61]) :: (5,[66,69,71,73,78]) :: (l.flatMap As.toks ++ [(5,[69,78,68])]))
def modM (nm:List UInt8) (g:Int) (l:List As):GMod:=⟨⟨nm⟩,tagOf g,l.map fun x=>⟨x.name⟩,typesA l 0,nodesA l 0⟩
theorem zi9:∀ {a:List As} {x:As} {i:Nat},typesA (a ++ [x]) i=typesA a i ++ [((i + szA a:Nat):Int)]
  | [],x,i=>by show [(i:Int)]=[] ++ [((i + 0:Nat):Int)];rfl
  | y :: r,x,i=>by
    show (i:Int) :: typesA (r ++ [x]) (i + y.sz)=(i:Int) :: (typesA r (i + y.sz) ++ _)
    rw [zi9]
    have:szA (y :: r)=y.sz + szA r:=by unfold szA;simp
    rw [this,Nat.add_assoc]
theorem zi3:∀ {a:List As} {x:As} {i:Nat},nodesA (a ++ [x]) i=nodesA a i ++ x.ns (i + szA a)
  | [],x,i=>by show x.ns i ++ []=[] ++ x.ns (i + 0);rw [List.append_nil];rfl
  | y :: r,x,i=>by
    show y.ns i ++ nodesA (r ++ [x]) (i + y.sz)=y.ns i ++ nodesA r (i + y.sz) ++ _
    rw [zi3]
    have:szA (y :: r)=y.sz + szA r:=by unfold szA;simp
    rw [this,Nat.add_assoc,List.append_assoc]
theorem zjM:∀ {a:List As} {i:Nat},(∀ x ∈ a,AsK x)→(nodesA a i).length=szA a
  | [],_,_=>rfl
  | y :: r,i,h=>by
    have:=zjM (a:=r) (i:=i + y.sz) fun x hx=>h x (List.mem_cons_of_mem _ hx)
    show (y.ns i ++ nodesA r (i + y.sz)).length=_
    rw [List.length_append,this,(h y (List.mem_cons_self ..)).t.len];unfold szA;simp
theorem znb {s:Str} {nm:List UInt8} {g:Int} (hg:0 ≤ g∧g ≤ 3) {l:List As} (hk:KT s.b (modT nm g l)) (hs:s.b.length ≤ 8000) (hl:l.length ≤ 40) (hz:szA l ≤ 300) (hF:∀ x ∈ l,AsK x) :
    zcN s=some (modM nm g l,0,0):=by
  obtain ⟨ts,e1,e2⟩:=zpB hk hs
  have htk:=(zjR s).get? (ziW s) (by rw [e1])
  rw [e1] at htk
  have hlen:ts.length ≤ 8001:=htk.len
  have hA:Sg ts 0 (modT nm g l):=⟨Int.le_refl _,by omega,by rw [show (0:Int).toNat=0 from rfl,List.drop_zero];exact e2⟩
  refine T.fin ?_
  unfold zcN
  refine T.eq (ziW s) ?_
  rw [e1]
  have a1:=Sg.tl hA
  have a2:=Sg.tl a1
  refine T.brF rfl (T.eq (zjU hA) (T.eq (zco a1 rfl) ?_))
  have a3:=Sg.app (L:=ts) (xs:=tagT g) a2
  refine T.jp (fun x=>x=(⟨ts,0 + 1 + 1 + (tagT g).length,⟨⟨nm⟩,tagOf g,[],[],[]⟩,0,0⟩:GPar)) (fun J hJ=>?_) fun x hx=>?_
  · have hc:g=0 ∨ g=1 ∨ g=2 ∨ g=3:=by omega
    rcases hc with rfl | rfl | rfl | rfl
    · have b:Sg ts (0 + 1 + 1) ((6,[58,58,61]) :: (5,[66,69,71,73,78]) :: (l.flatMap As.toks ++ [(5,[69,78,68])])):=a2
      exact T.eq (zdD b rfl) (T.brF rfl (T.eq (zdD b rfl) (T.brF rfl (T.eq (zdD b rfl) (T.brF rfl (hJ _ rfl))))))
    · have b:Sg ts (0 + 1 + 1) ((5,[73,77,80,76,73,67,73,84]) :: (5,[84,65,71,83]) :: (6,[58,58,61]) :: (5,[66,69,71,73,78]) :: (l.flatMap As.toks ++ [(5,[69,78,68])])):=a2
      exact T.eq (zdD b rfl) (T.brF rfl (T.eq (zev b rfl) (T.brT rfl (T.eq (zco b.tl rfl) (hJ _ rfl)))))
    · have b:Sg ts (0 + 1 + 1) ((5,[65,85,84,79,77,65,84,73,67]) :: (5,[84,65,71,83]) :: (6,[58,58,61]) :: (5,[66,69,71,73,78]) :: (l.flatMap As.toks ++ [(5,[69,78,68])])):=a2
      exact T.eq (zdD b rfl) (T.brF rfl (T.eq (zdD b rfl) (T.brF rfl (T.eq (zev b rfl) (T.brT rfl (T.eq (zco b.tl rfl) (hJ _ rfl)))))))
    · have b:Sg ts (0 + 1 + 1) ((5,[69,88,80,76,73,67,73,84]) :: (5,[84,65,71,83]) :: (6,[58,58,61]) :: (5,[66,69,71,73,78]) :: (l.flatMap As.toks ++ [(5,[69,78,68])])):=a2
      exact T.eq (zev b rfl) (T.brT rfl (T.eq (zco b.tl rfl) (hJ _ rfl)))
  subst hx
  have a4:=Sg.tl a3
  have a5:=Sg.tl a4
  refine T.eq (zco a3 rfl) (T.eq (zco a4 rfl) ?_)
  generalize hb:(0:Int) + 1 + 1 + ((tagT g).length:Int) + 1 + 1=b at a5
  have hb0:=a5.a0
  have hbz:=a5.size
  refine T.lp (ι:=GPar) (fun x=>∃ (dn rest:List As) (a:Int),l=dn ++ rest∧x=⟨ts,a,⟨⟨nm⟩,tagOf g,dn.map fun x=>⟨x.name⟩,typesA dn 0,nodesA dn 0⟩,0,0⟩∧Sg ts a (rest.flatMap As.toks ++ [(5,[69,78,68])])) (fun x=>((ts.length:Int) - x.at_).toNat) ⟨[],l,b,rfl,rfl,a5⟩ (by dsimp only;omega) fun L x hx hL=>?_
  obtain ⟨dn,rest,a,hdr,rfl,ha⟩:=hx
  dsimp only at hL ⊢
  cases rest with
  | nil =>
    rw [List.append_nil] at hdr
    subst hdr
    have ha':Sg ts a [(5,[69,78,68])]:=ha
    refine T.jp0 (T.brT rfl (T.eq (zev ha' rfl) (T.brF rfl ?_)))
    obtain ⟨y,y1,y2⟩:=ha'.tl.end_
    refine T.jp0 (T.brT rfl (T.eq (y:=(y,(⟨ts,a + 1,⟨⟨nm⟩,tagOf g,l.map fun x=>⟨x.name⟩,typesA l 0,nodesA l 0⟩,0,0⟩:GPar))) (by unfold zat;dsimp only;rw [zhy ha'.tl.a0 y1];rfl) ?_))
    refine T.jp0 (T.brF (by dsimp only;rw [y2];rfl) (T.brF rfl (T.some rfl)))
  | cons x rest =>
    have hx:=hF x (by rw [hdr];exact List.mem_append_right _ (List.mem_cons_self ..))
    have hll:dn.length + (rest.length + 1) ≤ 40:=by rw [hdr,List.length_append,List.length_cons] at hl;exact hl
    have hzz:szA dn + x.sz ≤ 300:=by
      have:szA l=szA dn + (x.sz + szA rest):=by rw [hdr];unfold szA;simp
      omega
    have hdk:∀ y ∈ dn,AsK y:=fun y hy=>hF y (by rw [hdr];exact List.mem_append_left _ hy)
    have hnl:(nodesA dn 0).length=szA dn:=zjM hdk
    have htl:(typesA dn 0).length=dn.length:=by
      have:∀ (a:List As) (i:Nat),(typesA a i).length=a.length:=fun a=>by
        induction a with
        | nil=>intro i;rfl
        | cons y r ih=>intro i;show (typesA r (i + y.sz)).length + 1=_;rw [ih];rfl
      exact this _ _
    have ha1:Sg ts a ((1,x.name) :: (6,[58,58,61]) :: (x.ts ++ (rest.flatMap As.toks ++ [(5,[69,78,68])]))):=by
      have e:(x :: rest).flatMap As.toks ++ [(5,[69,78,68])]=(1,x.name) :: (6,[58,58,61]) :: (x.ts ++ (rest.flatMap As.toks ++ [(5,[69,78,68])])):=by
        show As.toks x ++ rest.flatMap As.toks ++ _=_
        unfold As.toks;simp
      rw [e] at ha;exact ha
    have ha2:=Sg.tl ha1
    have ha3:=Sg.tl ha2
    have hnx:∃ k t ks',rest.flatMap As.toks ++ [(5,[69,78,68])]=(k,t) :: ks'∧isK k t [40]=false:=by
      cases rest with
      | nil=>exact ⟨5,[69,78,68],[],rfl,rfl⟩
      | cons y r=>exact ⟨1,y.name,_,rfl,rfl⟩
    obtain ⟨k,t,ks',ek,hkt⟩:=hnx
    have ha3':=ha3
    rw [ek] at ha3'
    obtain ⟨y,f1,f2,f3⟩:=zgu (m:=⟨⟨nm⟩,tagOf g,dn.map fun x=>⟨x.name⟩,typesA dn 0,nodesA dn 0⟩) (p:=0) (e:=0) ha1
    have hty:=hx.t.go (n:=fuel) (d:=0) (m:=⟨⟨nm⟩,tagOf g,dn.map fun x=>⟨x.name⟩,typesA dn 0,nodesA dn 0⟩) (by have:=hx.h;unfold fuel;omega) (Int.le_refl _) (by have:=hx.h;omega) ha3' hkt (by dsimp only;rw [hnl];exact hzz)
    dsimp only at hty
    rw [hnl] at hty
    have hsz:=ha3.size
    have hal:=ha3.app.size
    have ha0:=ha1.a0
    refine T.jp0 (T.brT rfl (T.eq (zdD ha1 rfl) (T.brT rfl (T.eq f1 (T.eq (zjU ha1) ?_)))))
    refine T.jp (fun b=>b=false) (fun J hJ=>T.brT rfl (hJ _ (zDF (by dsimp only;rw [List.length_map];omega)))) fun b hb2=>?_
    subst hb2
    refine T.jp0 (T.brF rfl (T.eq (zco ha2 rfl) (T.eq hty (T.abl ?_ (T.abl ?_ (hL _ ⟨dn ++ [x],rest,a + 1 + 1 + (x.ts.length:Int),by rw [hdr,List.append_assoc];rfl,?_,ha3.app⟩ ?_))))))
    · show (dn.map fun x=>(⟨x.name⟩:Str)).length + 1 ≤ _;rw [List.length_map];omega
    · show (typesA dn 0).length + 1 ≤ _;rw [htl];omega
    · dsimp only
      rw [List.map_append,zi9,zi3,Nat.zero_add];rfl
    · dsimp only;omega
end Go.Proofs.Q


namespace Go.Proofs.Q
open Go.Sy
set_option linter.unusedVariables false
set_option maxRecDepth 4000

def dgl (v:Nat):List UInt8:=match zcp 20 (UInt64.ofNat v) with
  | some s=>s.b
  | none=>[]
def nameOk (w:List UInt8) (k:Int):Bool:=zaN (hd w) && nmAll w 32 && !decide (w.getLast?=some 45) && decide (w.length ≤ 60) && decide (kindN w=k)
def dgOk (v:Nat):Bool:=(match zcp 20 (UInt64.ofNat v) with
  | some s=>decide (s.b=dgl v)
  | none=>false) && numOk false (dgl v) && decide (zdw ⟨dgl v⟩=some (v:Int)) && decide ((dgl v).length ≤ 3) && nameOk (102 :: dgl v) 2 && nameOk (84 :: dgl v) 1 && nameOk (105 :: dgl v) 2 && nameOk (97 :: dgl v) 2 && decide (dval (dgl v)=v)
theorem zpN:(List.range 256).all dgOk=true:=by kernel_rfl
structure Dg (v:Nat):Prop where
  eq:zcp fuel (UInt64.ofNat v)=some ⟨dgl v⟩
  num:numOk false (dgl v)=true
  val:Num (dgl v) v
  len:(dgl v).length ≤ 3
  f:nameOk (102 :: dgl v) 2=true
  t:nameOk (84 :: dgl v) 1=true
  i:nameOk (105 :: dgl v) 2=true
  a:nameOk (97 :: dgl v) 2=true
  inj:dval (dgl v)=v
theorem zjb:∀ {n m:Nat} {v:UInt64} {s:Str},zcp n v=some s→n ≤ m→zcp m v=some s
  | 0,_,_,_,h,_=>by cases h
  | n + 1,m,v,s,h,hm=>by
    obtain ⟨m,rfl⟩:∃ m',m=m' + 1:=⟨m - 1,by omega⟩
    have h:zeu (zcp n) v=some s:=h
    show zeu (zcp m) v=some s
    unfold zeu at h ⊢
    cases hb:decide (v < (10:UInt64)) with
    | true=>rw [hb] at h;exact h
    | false =>
      rw [hb] at h
      have h:jp (ι:=Str) (fun J3=>asr (!decide ((10:UInt64)=0)) <| asr (!decide ((10:UInt64)=0)) <| cal (zcp n (v / (10:UInt64))) fun y6=>asr (Nat.ble (y6.b.length + (Str.mk ([((48:UInt64) + (v % (10:UInt64))).toUInt8]:(List UInt8))).b.length) 4611686018427387904) <| J3 ((Str.mk (y6.b ++ (Str.mk ([((48:UInt64) + (v % (10:UInt64))).toUInt8]:(List UInt8))).b)))) (fun q2=>some (q2))=some s:=h
      refine zpU h fun J hJ h=>zaf h fun h1 h=>zaf h fun h2 h=>zb h fun y hy h=>?_
      subst hJ
      have:=zjb hy (by omega:n ≤ m)
      show asr (!decide ((10:UInt64)=0)) (asr (!decide ((10:UInt64)=0)) (cal (zcp m (v / (10:UInt64))) _))=_
      rw [this]
      exact h
theorem dgs (v:Nat) (hv:v < 256):Dg v:=by
  have h:=List.all_eq_true.1 zpN v (List.mem_range.2 hv)
  unfold dgOk at h
  simp only [Bool.and_eq_true,decide_eq_true_eq] at h
  obtain ⟨⟨⟨⟨⟨⟨⟨⟨h1,h2⟩,h3⟩,h4⟩,h5⟩,h6⟩,h7⟩,h8⟩,h9⟩:=h
  have he:zcp 20 (UInt64.ofNat v)=some ⟨dgl v⟩:=by
    cases hd:zcp 20 (UInt64.ofNat v) with
    | none=>rw [hd] at h1;cases h1
    | some s =>
      rw [hd] at h1
      have:s.b=dgl v:=zOT h1
      rw [← this]
  exact ⟨zjb he (by unfold fuel;omega),h2,⟨zeJ h2,h3⟩,h4,h5,h6,h7,h8,h9⟩
theorem KT.word {w x:List UInt8} {k:Int} {ks:KS} (h:nameOk w k=true) (hx:KT (32 :: x) ks):KT (w ++ 32 :: x) ((k,w) :: ks):=by
  unfold nameOk at h
  simp only [Bool.and_eq_true,decide_eq_true_eq,Bool.not_eq_true',decide_eq_false_iff_not] at h
  obtain ⟨⟨⟨⟨h1,h2⟩,h3⟩,h4⟩,h5⟩:=h
  have:=KT.name (x:=32 :: x) h1 h2 rfl h3 h4 hx
  rw [h5] at this
  exact this
theorem KT.dgt {v:Nat} {x:List UInt8} {ks:KS} (hv:v < 256) (h1:isDigit (hd x)=false) (h2:zaN (hd x)=false) (hx:KT x ks):KT (dgl v ++ x) ((3,dgl v) :: ks):=KT.num (dgs v hv).num h1 h2 hx
end Go.Proofs.Q


namespace Go.Proofs.Q
open Go.Sy
set_option linter.unusedVariables false

structure N10 (m:GMod) (k:Int) (h:Nat) (sz:Nat) (tt:Nat→List GTyp):Prop where
  len:∀ i,(tt i).length=sz
  go:∀ {n:Nat} {d:Int} {l:List GTyp},3 * h ≤ n→0 ≤ d→d + h ≤ 17→l.length + sz ≤ 300→zcr n ⟨m,l,0⟩ k d=some ((l.length:Int),⟨m,l ++ tt l.length,0⟩)
structure M10 (m:GMod) (nd:GNode) (h:Nat) (sz:Nat) (t:Nat→GTyp) (tt:Nat→List GTyp):Prop where
  len:∀ i,(tt i).length=sz
  go:∀ {n:Nat} {d:Int} {l:List GTyp},3 * h + 2 ≤ n→0 ≤ d→d + h ≤ 16→l.length + (sz + 1) ≤ 300→zdm n ⟨m,l,0⟩ nd d=some ((l.length:Int),⟨m,l ++ t l.length :: tt l.length,0⟩)
theorem zmf (n:Nat):zcr (n + 1)=zcO (zex n) (zcr n) (zdm n):=rfl
theorem zih (n:Nat):zdm (n + 1)=zcl (zex n) (zcr n) (zdm n):=rfl
theorem zjm {m:GMod} {k:Nat} {nd:GNode} (hk:m.nodes[k]?=some nd) (h11:nd.kind ≠ 11) (hm:nd.mark.has=false) {h sz:Nat} {t:Nat→GTyp} {tt:Nat→List GTyp} (hM:M10 m nd h sz t tt):N10 m (k:Int) (h + 1) (sz + 1) (fun i=>t i :: tt i):=by
  refine ⟨fun i=>by rw [List.length_cons,hM.len],?_⟩
  intro n d l h1 h2 h3 h4
  obtain ⟨n,rfl⟩:∃ n',n=n' + 1:=⟨n - 1,by omega⟩
  rw [zmf]
  refine T.fin ?_
  unfold zcO
  refine T.brF rfl (T.eq (zhy (by omega) (by rw [Int.toNat_natCast];exact hk)) (T.jp0 (T.brF (zDF h11) (T.eq (hM.go (by omega) h2 (by omega) h4) ?_))))
  refine T.jp0 (T.brT rfl (T.jp0 ?_))
  dsimp only
  rw [hm]
  exact T.brF rfl (T.some rfl)
/-! ### Leaves -/
def fldT (nd:GNode) (tg:List Tag) (fs:List GFld):GTyp:=⟨nd.kind,tg,nd.con,[],fs,nd.root,nd.more,0⟩
def univ (k:Int):Tag:=⟨0,if k=1 then 1 else if k=2 then 2 else if k=5 then 4 else if k=4 then 5 else if k=10 then 16 else if k=7 then 16 else 17⟩
theorem zpd {k:Int} (hk:k=1 ∨ k=2 ∨ k=4 ∨ k=5 ∨ k=7 ∨ k=8 ∨ k=10):zeI k=some (univ k):=by
  rcases hk with e | e | e | e | e | e | e <;> subst e <;> rfl
def tgs (k:Int):List Tag:=if k=9 then [] else [univ k]
theorem zhV {m:GMod} {nd:GNode} {F Nd Md} {d:Int} {l:List GTyp} (hk:nd.kind=1 ∨ nd.kind=2 ∨ nd.kind=4 ∨ nd.kind=5 ∨ nd.kind=7 ∨ nd.kind=8 ∨ nd.kind=9 ∨ nd.kind=10) (hd:d ≤ 16) (hl:l.length < 300) {R:Int × GMk→Prop}
    (h:T R (jp (ι:=GMk) (fun J21=>jp (ι:=Bool) (fun J23=>br (decide (nd.kind=(2:Int))) (J23 ((decide (nd.kind=(2:Int))))) (br (decide (nd.kind=(5:Int))) (J23 ((decide (nd.kind=(5:Int))))) (br (decide (nd.kind=(6:Int))) (J23 ((decide (nd.kind=(6:Int))))) (J23 ((decide (nd.kind=(10:Int)))))))) (fun q22=>br q22 (cal (zc1 nd.con (!decide (nd.kind=(2:Int)))) fun y24=>jp (ι:=GMk) (fun J26=>br (!decide (y24=(0:Int))) (cal (zbe ⟨m,l ++ [fldT nd (tgs nd.kind) []],0⟩ y24) fun y27=>J26 (y27)) (J26 (⟨m,l ++ [fldT nd (tgs nd.kind) []],0⟩))) (fun q25=>br (decide (nd.kind=(10:Int))) (ck ((d + (1:Int))) <| cal (Nd q25 nd.of (d + (1:Int))) fun y29=>br (decide (y29.2.e=(0:Int))) (asr (decide (0 ≤ ((l.length:Nat):Int)∧((l.length:Nat):Int) < ((y29.2.l.length:Nat):Int))) <| cal (y29.2.l[((l.length:Nat):Int).toNat]?) fun y32=>J21 ((GMk.mk y29.2.m (y29.2.l.set (((l.length:Nat):Int).toNat) ({ y32 with of:=y29.1 })) y29.2.e))) (J21 (y29.2))) (J21 (q25)))) (br (decide (nd.kind=(3:Int))) (cal (zdH ⟨m,l ++ [fldT nd (tgs nd.kind) []],0⟩ nd) fun y33=>asr (decide (y33.2.l.length=(l ++ [fldT nd (tgs nd.kind) []]).length)) <| asr (decide (0 ≤ ((l.length:Nat):Int)∧((l.length:Nat):Int) < (((l ++ [fldT nd (tgs nd.kind) []]).length:Nat):Int))) <| cal (y33.2.l[((l.length:Nat):Int).toNat]?) fun y36=>J21 ((GMk.mk y33.2.m (y33.2.l.set (((l.length:Nat):Int).toNat) ({ y36 with items:=y33.1 })) y33.2.e))) (jp (ι:=Bool) (fun J38=>br (decide (nd.kind=(7:Int))) (J38 ((decide (nd.kind=(7:Int))))) (br (decide (nd.kind=(8:Int))) (J38 ((decide (nd.kind=(8:Int))))) (J38 ((decide (nd.kind=(9:Int))))))) (fun q37=>br q37 (cal (F ⟨m,l ++ [fldT nd (tgs nd.kind) []],0⟩ ((l.length:Nat):Int) nd d) fun y39=>J21 (y39)) (J21 (⟨m,l ++ [fldT nd (tgs nd.kind) []],0⟩))))))) (fun q20=>some (((l.length:Nat):Int),q20)))) :
    T R (zcl F Nd Md ⟨m,l,0⟩ nd d):=by
  unfold zcl
  refine T.jp (fun b=>b=false) (fun J hJ=>T.brF (zDF (by omega)) (hJ _ (zDF (by dsimp only;omega)))) fun b hb=>T.brF hb ?_
  refine T.jp (ι:=GTyp) (fun q=>q=fldT nd (tgs nd.kind) []) (fun J hJ=>T.br (fun h9=>?_) fun h9=>hJ _ ?_) fun q hq=>?_
  · have h9:¬ nd.kind=9:=by simpa using h9
    exact T.eq (zpd (by omega)) (hJ _ (by unfold tgs;rw [if_neg h9];rfl))
  · have h9:nd.kind=9:=by simpa using h9
    unfold tgs;rw [if_pos h9];rfl
  · subst hq
    exact T.jp0 (T.abl (by dsimp only;simp only [List.length_singleton];omega) h)
theorem znN {m:GMod} {nd:GNode} (hk:nd.kind=1 ∨ nd.kind=4):M10 m nd 0 0 (fun _=>fldT nd (tgs nd.kind) []) (fun _=>[]):=by
  refine ⟨fun _=>rfl,?_⟩
  intro n d l h1 h2 h3 h4
  obtain ⟨n,rfl⟩:∃ n',n=n' + 1:=⟨n - 1,by omega⟩
  rw [zih]
  refine T.fin (zhV (by omega) (by omega) (by omega) ?_)
  refine T.jp0 (T.jp (fun b=>b=false) (fun J hJ=>T.brF (zDF (by omega)) (T.brF (zDF (by omega)) (T.brF (zDF (by omega)) (hJ _ (zDF (by omega)))))) fun b hb=>T.brF hb (T.brF (zDF (by omega)) ?_))
  exact T.jp (fun b=>b=false) (fun J hJ=>T.brF (zDF (by omega)) (T.brF (zDF (by omega)) (hJ _ (zDF (by omega))))) fun b hb=>T.brF hb (T.some rfl)

/-! ### Fields -/
structure Ch where
  f:GFld
  sz:Nat
  tt:Nat→List GTyp
structure ChK (m:GMod) (h:Nat) (c:Ch):Prop where
  n:N10 m c.f.ty h c.sz c.tt
  has:c.f.has=false
end Go.Proofs.Q


namespace Go.Proofs.Q
open Go.Sy
set_option linter.unusedVariables false

/-! ### Modules without references -/
theorem zmR {l:List GNode} (h:∀ n ∈ l,n.kind ≠ 11):∀ (k:Nat) (i:Int),nmx l k i=[]
  | 0,_=>rfl
  | k + 1,i=>by
    unfold nmx
    split
    · rfl
    · rename_i n hn
      have hm:n ∈ l:=by
        split at hn
        · exact List.mem_of_getElem? hn
        · cases hn
      rw [if_neg (h n hm)]
      rw [List.flatMap_eq_nil_iff]
      exact fun x _=>zmR h k x
theorem ziq {P:Int→Bool}:∀ (n:Nat) (k:Int),(∀ i,k ≤ i→i < k + n→P i=false)→first P n k=none
  | 0,_,_=>rfl
  | n + 1,k,h=>by
    unfold first
    rw [h k (Int.le_refl _) (by omega)]
    exact ziq n (k + 1) fun i h1 h2=>h i (by omega) (by omega)
theorem zpY {m:GMod} (h:∀ n ∈ m.nodes,n.kind ≠ 11) (hn:m.names.Nodup):wr m=(0,0):=by
  have hz:∀ t,nms m t=[]:=fun t=>zmR h 17 t
  have h1:first (twice m) m.names.length 0=none:=ziq _ _ fun i h0 hi=>by
    unfold twice
    have hi':i.toNat < m.names.length:=by omega
    rw [List.getElem?_eq_getElem hi']
    refine zDF fun hf=>?_
    rcases zjV m.names m.names[i.toNat] with ⟨_,h2⟩ | ⟨h2,h3,h4,_⟩
    · exact h2 (List.getElem_mem _)
    · obtain ⟨h5,h6⟩:=List.getElem?_eq_some_iff.1 h4
      have:=(List.getElem_inj hn).1 h6
      omega
  have h2:first (ziz m) m.names.length 0=none:=ziq _ _ fun i _ _=>by
    unfold ziz
    split
    · unfold lost;rw [hz];rfl
    · rfl
  have h3:first (cycle m) m.names.length 0=none:=ziq _ _ fun i _ _=>by
    refine zjX (b:=false) ⟨(fun h=>by cases h),fun hr=>?_⟩
    have hne:∀ a b,¬ Ed (gr m) a b:=fun a b ⟨_,l,e1,e2⟩=>by
      unfold gr at e1
      rw [List.getElem?_map] at e1
      cases ht:m.types[a.toNat]? with
      | none=>rw [ht] at e1;cases e1
      | some t =>
        rw [ht] at e1
        have:l=uses m t:=(Option.some.inj e1).symm
        subst this
        unfold uses at e2
        rw [hz] at e2;cases e2
    cases hr with
    | one e=>exact absurd e (hne _ _)
    | tail _ e=>exact absurd e (hne _ _)
  unfold wr
  rw [h1,h2,h3]
theorem zn7 {m:GMod} (w:WF m) (h:∀ n ∈ m.nodes,n.kind ≠ 11) (hn:m.names.Nodup):∃ l,zfe m=some (l,0,0):=by
  refine ⟨topo (gr m) m.names.length [],?_⟩
  rw [znF w]
  unfold ordr
  rw [zpY h hn,if_pos rfl]
structure Mk where
  sz:Nat
  tt:Nat→List GTyp
def rootsM:List Mk→Nat→List Int
  | [],_=>[]
  | c :: r,i=>(i:Int) :: rootsM r (i + c.sz)
def tsM:List Mk→Nat→List GTyp
  | [],_=>[]
  | c :: r,i=>c.tt i ++ tsM r (i + c.sz)
def szM (l:List Mk):Nat:=(l.map Mk.sz).sum
theorem zje:∀ {a:List Mk} {x:Mk} {i:Nat},rootsM (a ++ [x]) i=rootsM a i ++ [((i + szM a:Nat):Int)]
  | [],x,i=>rfl
  | y :: r,x,i=>by
    show (i:Int) :: rootsM (r ++ [x]) (i + y.sz)=(i:Int) :: (rootsM r (i + y.sz) ++ _)
    rw [zje]
    have:szM (y :: r)=y.sz + szM r:=by unfold szM;simp
    rw [this,Nat.add_assoc]
theorem zlS:∀ {a:List Mk} {x:Mk} {i:Nat},tsM (a ++ [x]) i=tsM a i ++ x.tt (i + szM a)
  | [],x,i=>by show x.tt i ++ []=[] ++ x.tt (i + 0);rw [List.append_nil];rfl
  | y :: r,x,i=>by
    show y.tt i ++ tsM (r ++ [x]) (i + y.sz)=y.tt i ++ tsM r (i + y.sz) ++ _
    rw [zlS]
    have:szM (y :: r)=y.sz + szM r:=by unfold szM;simp
    rw [this,Nat.add_assoc,List.append_assoc]
structure MkK (m:GMod) (k:Int) (c:Mk):Prop where
  go:∃ h,h ≤ 17∧N10 m k h c.sz c.tt
theorem zoQ {m:GMod} (w:WF m) (h:∀ n ∈ m.nodes,n.kind ≠ 11) (hn:m.names.Nodup) {mk:List Mk} (hl:mk.length=m.names.length) (hc:∀ (i:Nat) k c,m.types[i]?=some k→mk[i]?=some c→MkK m k c) (hs:szM mk ≤ 300) :
    zfg m=some (⟨m.name,m.names,rootsM mk 0,tsM mk 0⟩,0,0):=by
  obtain ⟨lo,ho⟩:=zn7 w h hn
  have hn40:=w.names
  have htl:=w.types
  refine T.fin ?_
  unfold zfg
  refine T.eq ho (T.brF rfl (T.jp0 (T.abl (by rw [List.length_nil];omega) ?_)))
  refine T.lp (ι:=Int × GTab × GMk) (fun q=>∃ a b:List Mk,mk=a ++ b∧q=((a.length:Int),⟨m.name,m.names,rootsM a 0,[]⟩,⟨m,tsM a 0,0⟩)) (fun q=>((m.names.length:Int) - q.1).toNat) ⟨[],mk,rfl,rfl⟩ (by dsimp only;omega) fun L q hq hL=>?_
  obtain ⟨a,b,hab,rfl⟩:=hq
  dsimp only at hL ⊢
  have hlab:mk.length=a.length + b.length:=by rw [hab,List.length_append]
  have htsl:∀ (a:List Mk) (i:Nat),(∀ (j:Nat) c,a[j]?=some c→∀ i,(c.tt i).length=c.sz)→(tsM a i).length=szM a:=fun a=>by
    induction a with
    | nil=>intro i _;rfl
    | cons y r ih =>
      intro i hy
      show (y.tt i ++ tsM r (i + y.sz)).length=_
      rw [List.length_append,ih _ fun j c hj=>hy (j + 1) c hj,hy 0 y rfl];unfold szM;simp
  have hrl:∀ (a:List Mk) (i:Nat),(rootsM a i).length=a.length:=fun a=>by
    induction a with
    | nil=>intro i;rfl
    | cons y r ih=>intro i;show (rootsM r (i + y.sz)).length + 1=_;rw [ih];rfl
  cases b with
  | nil =>
    rw [List.append_nil] at hab
    subst hab
    exact T.brF (zDF (by omega)) (T.some rfl)
  | cons c b =>
    rw [List.length_cons] at hlab
    have hia:a.length < m.types.length:=by omega
    have htk:m.types[a.length]?=some m.types[a.length]:=List.getElem?_eq_getElem hia
    have hmc:mk[a.length]?=some c:=by rw [hab];exact zmD _ _ _
    obtain ⟨h0,hh17,hN⟩:=(hc a.length _ c htk hmc).go
    have hal:(tsM a 0).length=szM a:=htsl a 0 fun j c' hj i=>by
      have hj':mk[j]?=some c':=by rw [hab,List.getElem?_append_left (List.getElem?_eq_some_iff.1 hj).1];exact hj
      have hjl:j < m.types.length:=by have:=(List.getElem?_eq_some_iff.1 hj').1;omega
      obtain ⟨h1,_,hN'⟩:=(hc j _ c' (List.getElem?_eq_getElem hjl) hj').go
      exact hN'.len i
    have hsz:szM mk=szM a + (c.sz + szM b):=by rw [hab];unfold szM;simp
    have hgo:=hN.go (n:=fuel) (d:=0) (l:=tsM a 0) (by unfold fuel;omega) (Int.le_refl _) (by omega) (by omega)
    rw [hal] at hgo
    refine T.brT (zDT (by omega)) (T.jp0 (T.eq (zhy (by omega) (by rw [Int.toNat_natCast];exact htk)) (T.eq hgo (T.abl (by rw [hrl];simp only [List.length_singleton];omega) ?_))))
    refine T.brF rfl (T.ck (by omega) (hL _ ⟨a ++ [c],b,by rw [hab,List.append_assoc];rfl,?_⟩ (by dsimp only;omega)))
    rw [zje,zlS,Nat.zero_add,List.length_append];rfl
theorem zni {s:Str} {m:GMod} (hl:s.b.length ≤ 3000) (hp:zcN s=some (m,0,0)) {t:GTab} (hm:zfg m=some (t,0,0)) (ht:t.types.length ≤ 120):zbF s=some (t,true):=by
  refine T.fin ?_
  unfold zbF
  refine T.brF (zDF (by omega)) (T.eq hp (T.brF rfl (T.eq hm ?_)))
  exact T.jp (fun b=>b=true) (fun J hJ=>T.brT rfl (hJ _ (zDT (by dsimp only;omega)))) fun b hb=>T.some (by rw [hb])
theorem zog {s:Str} {m:GMod} (hp:zcN s=some (m,0,0)):WF m:=(znK s).get? hp
end Go.Proofs.Q


namespace Go.Proofs.Q
open Go.Sy
set_option linter.unusedVariables false

theorem zjy {l h:Int} {more b:Bool} (h1:l ≤ h) (h2:b=true→0 ≤ l∧h ≤ 70000):zc1 ⟨true,true,true,more,l,h⟩ b=some 0:=by
  refine T.fin ?_
  unfold zc1
  refine T.brF rfl (T.jp0 (T.brT rfl (T.jp (fun c=>c=false) (fun J hJ=>T.brT rfl (hJ _ (zDF (by dsimp only;omega)))) fun c hc=>T.brF hc ?_)))
  refine T.jp (fun c=>c=false) (fun J hJ=>T.br (fun hb=>?_) fun _=>hJ _ rfl) fun c hc=>T.brF hc (T.some rfl)
  obtain ⟨g1,g2⟩:=h2 hb
  refine T.jp (fun c=>c=false) (fun J2 hJ2=>T.brF rfl (hJ2 _ (zDF (by dsimp only;omega)))) fun c hc=>?_
  refine T.jp (fun c=>c=false) (fun J2 hJ2=>T.brF hc (hJ2 _ (zDF (by dsimp only;omega)))) fun c hc=>?_
  refine T.jp (fun c=>c=false) (fun J2 hJ2=>T.brF hc (T.jp (fun c=>c=false) (fun J3 hJ3=>T.brT rfl (T.jp (fun c=>c=false) (fun J4 hJ4=>T.brF (zDF (by dsimp only;omega)) (hJ4 _ (zDF (by dsimp only;omega)))) fun c hc=>hJ3 _ hc)) fun c hc=>hJ2 _ hc)) fun c hc=>hJ _ hc
theorem zlz {m:GMod} {nd:GNode} (hk:nd.kind=2 ∨ nd.kind=5) (hc:zc1 nd.con (!decide (nd.kind=2))=some 0):M10 m nd 0 0 (fun _=>fldT nd (tgs nd.kind) []) (fun _=>[]):=by
  refine ⟨fun _=>rfl,?_⟩
  intro n d l h1 h2 h3 h4
  obtain ⟨n,rfl⟩:∃ n',n=n' + 1:=⟨n - 1,by omega⟩
  rw [zih]
  refine T.fin (zhV (by omega) (by omega) (by omega) ?_)
  refine T.jp0 (T.jp (fun b=>b=true) (fun J hJ=>T.br (fun h=>hJ _ h) fun h=>T.br (fun h=>hJ _ h) fun h'=>absurd (zOF h') (by have:=zOF h;omega)) fun b hb=>T.brT hb ?_)
  exact T.eq hc (T.jp0 (T.brF rfl (T.brF (zDF (by omega)) (T.some rfl))))
theorem znk {m:GMod} {nd:GNode} (hk:nd.kind=10) (hc:zc1 nd.con true=some 0) {h sz:Nat} {tt:Nat→List GTyp} (hN:N10 m nd.of h sz tt):M10 m nd h sz (fun i=>{ fldT nd (tgs nd.kind) [] with of:=((i + 1:Nat):Int) }) (fun i=>tt (i + 1)):=by
  refine ⟨fun i=>hN.len _,?_⟩
  intro n d l h1 h2 h3 h4
  obtain ⟨n,rfl⟩:∃ n',n=n' + 1:=⟨n - 1,by omega⟩
  rw [zih]
  refine T.fin (zhV (by omega) (by omega) (by omega) ?_)
  refine T.jp0 (T.jp (fun b=>b=true) (fun J hJ=>T.brF (zDF (by omega)) (T.brF (zDF (by omega)) (T.brF (zDF (by omega)) (hJ _ (zDT hk))))) fun b hb=>T.brT hb ?_)
  have h2n:(!decide (nd.kind=(2:Int)))=true:=by rw [zDF (by omega)];rfl
  rw [h2n]
  have hgo:=hN.go (n:=n) (d:=d + 1) (l:=l ++ [fldT nd (tgs nd.kind) []]) (by omega) (by omega) (by omega) (by rw [List.length_append,List.length_singleton];omega)
  rw [List.length_append,List.length_singleton] at hgo
  have hll:(l ++ [fldT nd (tgs nd.kind) []] ++ tt (l.length + 1)).length=l.length + 1 + sz:=by rw [List.length_append,List.length_append,List.length_singleton,hN.len]
  refine T.eq hc (T.jp0 (T.brF rfl (T.brT (zDT hk) (T.ck (by omega) (T.eq hgo (T.brT rfl (T.asd ⟨by omega,by dsimp only;omega⟩ ?_)))))))
  refine T.eq (y:=fldT nd (tgs nd.kind) []) (by rw [Int.toNat_natCast,List.append_assoc];exact zmD _ _ _) (T.some ?_)
  dsimp only
  rw [Int.toNat_natCast,List.append_assoc,List.singleton_append,znZ]
end Go.Proofs.Q


namespace Go.Proofs.Q
open Go.Sy
set_option maxRecDepth 4000
def tokF (s:Str):Option (List GTok × Int × Int):=some (toks s.b)
theorem zpw:zdg=tokF:=funext ziW
def zif (zbz:Str):Option (GMod × Int × Int) :=
  cal (tokF zbz) fun y2=>br (!decide (y2.2.2=(0:Int))) (some ((GMod.mk (Str.mk []) (0:Int) ([]:(List Str)) ([]:(List Int)) ([]:(List GNode))),y2.2.1,y2.2.2)) (cal (zaY (GPar.mk y2.1 (0:Int) (GMod.mk (Str.mk []) (0:Int) ([]:(List Str)) ([]:(List Int)) ([]:(List GNode))) (0:Int) (0:Int)) (1:Int)) fun y7=>cal (zU (GPar.mk y7.2.l y7.2.at_ (GMod.mk y7.1 y7.2.m.tagging y7.2.m.names y7.2.m.types y7.2.m.nodes) y7.2.e y7.2.p) (Str.mk [68,69,70,73,78,73,84,73,79,78,83])) fun y10=>jp (ι:=GPar) (fun J14=>cal (zK y10 (Str.mk [69,88,80,76,73,67,73,84])) fun y15=>br y15.1 (cal (zU y15.2 (Str.mk [84,65,71,83])) fun y18=>J14 (y18)) (cal (zK y15.2 (Str.mk [73,77,80,76,73,67,73,84])) fun y21=>br y21.1 (cal (zU (GPar.mk y21.2.l y21.2.at_ (GMod.mk y21.2.m.name (1:Int) y21.2.m.names y21.2.m.types y21.2.m.nodes) y21.2.e y21.2.p) (Str.mk [84,65,71,83])) fun y24=>J14 (y24)) (cal (zK y21.2 (Str.mk [65,85,84,79,77,65,84,73,67])) fun y27=>br y27.1 (cal (zU (GPar.mk y27.2.l y27.2.at_ (GMod.mk y27.2.m.name (2:Int) y27.2.m.names y27.2.m.types y27.2.m.nodes) y27.2.e y27.2.p) (Str.mk [84,65,71,83])) fun y30=>J14 (y30)) (J14 (y27.2))))) (fun q13=>cal (zU q13 (Str.mk [58,58,61])) fun y33=>cal (zU y33 (Str.mk [66,69,71,73,78])) fun y36=>lp (ι:=GPar) (fun L40 q39=>jp (ι:=Bool × GPar) (fun J92=>br (decide (q39.e=(0:Int))) (cal (zK q39 (Str.mk [69,78,68])) fun y94=>J92 ((!y94.1),y94.2)) (J92 (false,q39))) (fun q91=>br q91.1 (cal (zat q91.2) fun y97=>cal (zaY y97.2 (1:Int)) fun y101=>jp (ι:=Bool) (fun J105=>br (decide (y101.2.e=(0:Int))) (J105 ((decide ((40:Int) ≤ (y101.2.m.names.length:Int))))) (J105 (false))) (fun q104=>jp (ι:=GPar) (fun J108=>br q104 (cal (zaO y101.2 (5:Int) y97.1) fun y109=>J108 (y109)) (J108 (y101.2))) (fun q107=>cal (zU q107 (Str.mk [58,58,61])) fun y112=>cal (za0 fuel y112 (0:Int)) fun y115=>asr (Nat.ble (y115.2.m.names.length + ([y101.1]:(List Str)).length) 68719476736) <| asr (Nat.ble (y115.2.m.types.length + ([y115.1]:(List Int)).length) 68719476736) <| L40 ((GPar.mk y115.2.l y115.2.at_ (GMod.mk y115.2.m.name y115.2.m.tagging (y115.2.m.names ++ ([y101.1]:(List Str))) (y115.2.m.types ++ ([y115.1]:(List Int))) y115.2.m.nodes) y115.2.e y115.2.p))))) (jp (ι:=Bool × GPar) (fun J126=>br (decide (q91.2.e=(0:Int))) (cal (zat q91.2) fun y128=>J126 ((!decide (y128.1.kind=(0:Int))),y128.2)) (J126 (false,q91.2))) (fun q125=>jp (ι:=GPar) (fun J132=>br q125.1 (cal (zat q125.2) fun y133=>cal (zaO y133.2 (7:Int) y133.1) fun y136=>J132 (y136)) (J132 (q125.2))) (fun q131=>br (!decide (q131.e=(0:Int))) (some ((GMod.mk (Str.mk []) (0:Int) ([]:(List Str)) ([]:(List Int)) ([]:(List GNode))),q131.p,q131.e)) (some (q131.m,(0:Int),(0:Int)))))))) ((y36))))
theorem zkm:zcN=zif:=by
  funext zbz
  unfold zcN zif
  rw [zpw]
def zeG (zbz:Str):Option (GTab × Bool) :=
  br (decide ((3000:Int) < (zbz.b.length:Int))) (some ((GTab.mk (Str.mk []) ([]:(List Str)) ([]:(List Int)) ([]:(List GTyp))),false)) (cal (zif zbz) fun y2=>br (!decide (y2.2.2=(0:Int))) (some ((GTab.mk (Str.mk []) ([]:(List Str)) ([]:(List Int)) ([]:(List GTyp))),false)) (cal (zfg y2.1) fun y4=>jp (ι:=Bool) (fun J7=>br (decide (y4.2.2=(0:Int))) (J7 ((decide ((y4.1.types.length:Int) ≤ (120:Int))))) (J7 (false))) (fun q6=>some (y4.1,q6))))
theorem zhF:zbF=zeG:=by
  funext zbz
  unfold zbF zeG
  rw [zkm]
def ziy:Option (Bool) :=
  cal (zeG (Str.mk [77,32,68,69,70,73,78,73,84,73,79,78,83,32,58,58,61,32,66,69,71,73,78,32,65,32,58,58,61,32,73,78,84,69,71,69,82,32,40,48,46,46,55,41,32,69,78,68])) fun y1=>jp (ι:=Bool) (fun J4=>br y1.2 (cal (zcs y1.1 (0:Int) (Val.mk (2:Int) (7:Int) ([]:(List UInt8)) ([]:(List Val)) (0:Int) ([]:(List Raw)))) fun y6=>J4 (y6)) (J4 (false))) (fun q3=>jp (ι:=Bool) (fun J8=>br q3 (cal (zcs y1.1 (0:Int) (Val.mk (2:Int) (8:Int) ([]:(List UInt8)) ([]:(List Val)) (0:Int) ([]:(List Raw)))) fun y10=>J8 ((!y10))) (J8 (false))) (fun q7=>jp (ι:=Bool) (fun J12=>br q7 (cal (zdl fuel (Val.mk (4:Int) (0:Int) ([]:(List UInt8)) ([]:(List Val)) (0:Int) ([]:(List Raw)))) fun y14=>J12 ((decide (y14=(1:Int))))) (J12 (false))) (fun q11=>some (q11))))
theorem zji:zd1=ziy:=by
  unfold zd1 ziy
  rw [zhF]
end Go.Proofs.Q


namespace Go.Proofs.Q
open Go.Sy
set_option maxRecDepth 4000
theorem awake12:zd1=some true:=by
  rw [zji];kernel_rfl
end Go.Proofs.Q


namespace Go.Proofs.Q
open Go.Sy
set_option maxRecDepth 4000
def zdq (zgW:Int) (zfp:Int) (a_v:Int) (a_n_:Int) (zhT:Bool):Option (Bool) :=
  asr (!decide ((200:UInt64)=0)) <| ck ((((UInt64.ofNat (zgW % 18446744073709551616).toNat) % (200:UInt64)).toNat:Int)) <| asr (!decide ((200:UInt64)=0)) <| ck ((((UInt64.ofNat (zfp % 18446744073709551616).toNat) % (200:UInt64)).toNat:Int)) <| asr (!decide ((250:UInt64)=0)) <| ck ((((UInt64.ofNat (a_n_ % 18446744073709551616).toNat) % (250:UInt64)).toNat:Int)) <| jp (ι:=Str) (fun J8=>br zhT (J8 ((Str.mk [44,32,46,46,46]))) (J8 ((Str.mk [])))) (fun q7=>cal (zcp fuel (UInt64.ofNat ((min (((UInt64.ofNat (zgW % 18446744073709551616).toNat) % (200:UInt64)).toNat:Int) (((UInt64.ofNat (zfp % 18446744073709551616).toNat) % (200:UInt64)).toNat:Int)) % 18446744073709551616).toNat)) fun y9=>asr (Nat.ble (y9.b.length + (Str.mk [46,46]).b.length) 4611686018427387904) <| cal (zcp fuel (UInt64.ofNat ((max (((UInt64.ofNat (zgW % 18446744073709551616).toNat) % (200:UInt64)).toNat:Int) (((UInt64.ofNat (zfp % 18446744073709551616).toNat) % (200:UInt64)).toNat:Int)) % 18446744073709551616).toNat)) fun y11=>asr (Nat.ble ((Str.mk (y9.b ++ (Str.mk [46,46]).b)).b.length + y11.b.length) 4611686018427387904) <| asr (Nat.ble ((Str.mk [77,32,68,69,70,73,78,73,84,73,79,78,83,32,58,58,61,32,66,69,71,73,78,32,65,32,58,58,61,32,73,78,84,69,71,69,82,32,40]).b.length + (Str.mk ((Str.mk (y9.b ++ (Str.mk [46,46]).b)).b ++ y11.b)).b.length) 4611686018427387904) <| asr (Nat.ble ((Str.mk ((Str.mk [77,32,68,69,70,73,78,73,84,73,79,78,83,32,58,58,61,32,66,69,71,73,78,32,65,32,58,58,61,32,73,78,84,69,71,69,82,32,40]).b ++ (Str.mk ((Str.mk (y9.b ++ (Str.mk [46,46]).b)).b ++ y11.b)).b)).b.length + q7.b.length) 4611686018427387904) <| asr (Nat.ble ((Str.mk ((Str.mk ((Str.mk [77,32,68,69,70,73,78,73,84,73,79,78,83,32,58,58,61,32,66,69,71,73,78,32,65,32,58,58,61,32,73,78,84,69,71,69,82,32,40]).b ++ (Str.mk ((Str.mk (y9.b ++ (Str.mk [46,46]).b)).b ++ y11.b)).b)).b ++ q7.b)).b.length + (Str.mk [41,32,66,32,58,58,61,32,79,67,84,69,84,32,83,84,82,73,78,71,32,40,83,73,90,69,32,40]).b.length) 4611686018427387904) <| asr (Nat.ble ((Str.mk ((Str.mk ((Str.mk ((Str.mk [77,32,68,69,70,73,78,73,84,73,79,78,83,32,58,58,61,32,66,69,71,73,78,32,65,32,58,58,61,32,73,78,84,69,71,69,82,32,40]).b ++ (Str.mk ((Str.mk (y9.b ++ (Str.mk [46,46]).b)).b ++ y11.b)).b)).b ++ q7.b)).b ++ (Str.mk [41,32,66,32,58,58,61,32,79,67,84,69,84,32,83,84,82,73,78,71,32,40,83,73,90,69,32,40]).b)).b.length + (Str.mk ((Str.mk (y9.b ++ (Str.mk [46,46]).b)).b ++ y11.b)).b.length) 4611686018427387904) <| asr (Nat.ble ((Str.mk ((Str.mk ((Str.mk ((Str.mk ((Str.mk [77,32,68,69,70,73,78,73,84,73,79,78,83,32,58,58,61,32,66,69,71,73,78,32,65,32,58,58,61,32,73,78,84,69,71,69,82,32,40]).b ++ (Str.mk ((Str.mk (y9.b ++ (Str.mk [46,46]).b)).b ++ y11.b)).b)).b ++ q7.b)).b ++ (Str.mk [41,32,66,32,58,58,61,32,79,67,84,69,84,32,83,84,82,73,78,71,32,40,83,73,90,69,32,40]).b)).b ++ (Str.mk ((Str.mk (y9.b ++ (Str.mk [46,46]).b)).b ++ y11.b)).b)).b.length + q7.b.length) 4611686018427387904) <| asr (Nat.ble ((Str.mk ((Str.mk ((Str.mk ((Str.mk ((Str.mk ((Str.mk [77,32,68,69,70,73,78,73,84,73,79,78,83,32,58,58,61,32,66,69,71,73,78,32,65,32,58,58,61,32,73,78,84,69,71,69,82,32,40]).b ++ (Str.mk ((Str.mk (y9.b ++ (Str.mk [46,46]).b)).b ++ y11.b)).b)).b ++ q7.b)).b ++ (Str.mk [41,32,66,32,58,58,61,32,79,67,84,69,84,32,83,84,82,73,78,71,32,40,83,73,90,69,32,40]).b)).b ++ (Str.mk ((Str.mk (y9.b ++ (Str.mk [46,46]).b)).b ++ y11.b)).b)).b ++ q7.b)).b.length + (Str.mk [41,41,32,67,32,58,58,61,32,83,69,81,85,69,78,67,69,32,40,83,73,90,69,32,40]).b.length) 4611686018427387904) <| asr (Nat.ble ((Str.mk ((Str.mk ((Str.mk ((Str.mk ((Str.mk ((Str.mk ((Str.mk [77,32,68,69,70,73,78,73,84,73,79,78,83,32,58,58,61,32,66,69,71,73,78,32,65,32,58,58,61,32,73,78,84,69,71,69,82,32,40]).b ++ (Str.mk ((Str.mk (y9.b ++ (Str.mk [46,46]).b)).b ++ y11.b)).b)).b ++ q7.b)).b ++ (Str.mk [41,32,66,32,58,58,61,32,79,67,84,69,84,32,83,84,82,73,78,71,32,40,83,73,90,69,32,40]).b)).b ++ (Str.mk ((Str.mk (y9.b ++ (Str.mk [46,46]).b)).b ++ y11.b)).b)).b ++ q7.b)).b ++ (Str.mk [41,41,32,67,32,58,58,61,32,83,69,81,85,69,78,67,69,32,40,83,73,90,69,32,40]).b)).b.length + (Str.mk ((Str.mk (y9.b ++ (Str.mk [46,46]).b)).b ++ y11.b)).b.length) 4611686018427387904) <| asr (Nat.ble ((Str.mk ((Str.mk ((Str.mk ((Str.mk ((Str.mk ((Str.mk ((Str.mk ((Str.mk [77,32,68,69,70,73,78,73,84,73,79,78,83,32,58,58,61,32,66,69,71,73,78,32,65,32,58,58,61,32,73,78,84,69,71,69,82,32,40]).b ++ (Str.mk ((Str.mk (y9.b ++ (Str.mk [46,46]).b)).b ++ y11.b)).b)).b ++ q7.b)).b ++ (Str.mk [41,32,66,32,58,58,61,32,79,67,84,69,84,32,83,84,82,73,78,71,32,40,83,73,90,69,32,40]).b)).b ++ (Str.mk ((Str.mk (y9.b ++ (Str.mk [46,46]).b)).b ++ y11.b)).b)).b ++ q7.b)).b ++ (Str.mk [41,41,32,67,32,58,58,61,32,83,69,81,85,69,78,67,69,32,40,83,73,90,69,32,40]).b)).b ++ (Str.mk ((Str.mk (y9.b ++ (Str.mk [46,46]).b)).b ++ y11.b)).b)).b.length + q7.b.length) 4611686018427387904) <| asr (Nat.ble ((Str.mk ((Str.mk ((Str.mk ((Str.mk ((Str.mk ((Str.mk ((Str.mk ((Str.mk ((Str.mk [77,32,68,69,70,73,78,73,84,73,79,78,83,32,58,58,61,32,66,69,71,73,78,32,65,32,58,58,61,32,73,78,84,69,71,69,82,32,40]).b ++ (Str.mk ((Str.mk (y9.b ++ (Str.mk [46,46]).b)).b ++ y11.b)).b)).b ++ q7.b)).b ++ (Str.mk [41,32,66,32,58,58,61,32,79,67,84,69,84,32,83,84,82,73,78,71,32,40,83,73,90,69,32,40]).b)).b ++ (Str.mk ((Str.mk (y9.b ++ (Str.mk [46,46]).b)).b ++ y11.b)).b)).b ++ q7.b)).b ++ (Str.mk [41,41,32,67,32,58,58,61,32,83,69,81,85,69,78,67,69,32,40,83,73,90,69,32,40]).b)).b ++ (Str.mk ((Str.mk (y9.b ++ (Str.mk [46,46]).b)).b ++ y11.b)).b)).b ++ q7.b)).b.length + (Str.mk [41,41,32,79,70,32,78,85,76,76,32,69,78,68]).b.length) 4611686018427387904) <| cal (zbF (Str.mk ((Str.mk ((Str.mk ((Str.mk ((Str.mk ((Str.mk ((Str.mk ((Str.mk ((Str.mk ((Str.mk [77,32,68,69,70,73,78,73,84,73,79,78,83,32,58,58,61,32,66,69,71,73,78,32,65,32,58,58,61,32,73,78,84,69,71,69,82,32,40]).b ++ (Str.mk ((Str.mk (y9.b ++ (Str.mk [46,46]).b)).b ++ y11.b)).b)).b ++ q7.b)).b ++ (Str.mk [41,32,66,32,58,58,61,32,79,67,84,69,84,32,83,84,82,73,78,71,32,40,83,73,90,69,32,40]).b)).b ++ (Str.mk ((Str.mk (y9.b ++ (Str.mk [46,46]).b)).b ++ y11.b)).b)).b ++ q7.b)).b ++ (Str.mk [41,41,32,67,32,58,58,61,32,83,69,81,85,69,78,67,69,32,40,83,73,90,69,32,40]).b)).b ++ (Str.mk ((Str.mk (y9.b ++ (Str.mk [46,46]).b)).b ++ y11.b)).b)).b ++ q7.b)).b ++ (Str.mk [41,41,32,79,70,32,78,85,76,76,32,69,78,68]).b))) fun y22=>asr (decide (0 ≤ (((UInt64.ofNat (a_n_ % 18446744073709551616).toNat) % (250:UInt64)).toNat:Int)∧(((UInt64.ofNat (a_n_ % 18446744073709551616).toNat) % (250:UInt64)).toNat:Int) ≤ 68719476736)) <| asr (decide (0 ≤ (((UInt64.ofNat (a_n_ % 18446744073709551616).toNat) % (250:UInt64)).toNat:Int)∧(((UInt64.ofNat (a_n_ % 18446744073709551616).toNat) % (250:UInt64)).toNat:Int) ≤ 68719476736)) <| lp (ι:=(List Val) × Int) (fun L29 q28=>br (decide (q28.2 < (((List.replicate ((((UInt64.ofNat (a_n_ % 18446744073709551616).toNat) % (250:UInt64)).toNat:Int)).toNat (Val.mk (0:Int) (0:Int) ([]:(List UInt8)) ([]:(List Val)) (0:Int) ([]:(List Raw)))).length:Nat):Int))) (asr (decide (0 ≤ q28.2∧q28.2 < ((q28.1.length:Nat):Int))) <| cal (q28.1[q28.2.toNat]?) fun y99=>ck ((q28.2 + (1:Int))) <| L29 ((q28.1.set q28.2.toNat (Val.mk (4:Int) (0:Int) ([]:(List UInt8)) ([]:(List Val)) (0:Int) ([]:(List Raw)))),(q28.2 + (1:Int)))) (jp (ι:=Bool) (fun J102=>br zhT (J102 (true)) (jp (ι:=Bool) (fun J105=>br (decide ((min (((UInt64.ofNat (zgW % 18446744073709551616).toNat) % (200:UInt64)).toNat:Int) (((UInt64.ofNat (zfp % 18446744073709551616).toNat) % (200:UInt64)).toNat:Int)) ≤ (((UInt64.ofNat (a_n_ % 18446744073709551616).toNat) % (250:UInt64)).toNat:Int))) (J105 ((decide ((((UInt64.ofNat (a_n_ % 18446744073709551616).toNat) % (250:UInt64)).toNat:Int) ≤ (max (((UInt64.ofNat (zgW % 18446744073709551616).toNat) % (200:UInt64)).toNat:Int) (((UInt64.ofNat (zfp % 18446744073709551616).toNat) % (200:UInt64)).toNat:Int)))))) (J105 (false))) (fun q104=>J102 (q104)))) (fun q101=>cal (zd1 ) fun y107=>jp (ι:=Bool) (fun J109=>br y107 (J109 (y22.2)) (J109 (false))) (fun q108=>jp (ι:=Bool) (fun J112=>br q108 (cal (getI y22.1.roots (0:Int)) fun y114=>cal (zcs y22.1 y114 (Val.mk (2:Int) a_v ([]:(List UInt8)) ([]:(List Val)) (0:Int) ([]:(List Raw)))) fun y115=>jp (ι:=Bool) (fun J117=>br zhT (J117 (true)) (jp (ι:=Bool) (fun J120=>br (decide ((min (((UInt64.ofNat (zgW % 18446744073709551616).toNat) % (200:UInt64)).toNat:Int) (((UInt64.ofNat (zfp % 18446744073709551616).toNat) % (200:UInt64)).toNat:Int)) ≤ a_v)) (J120 ((decide (a_v ≤ (max (((UInt64.ofNat (zgW % 18446744073709551616).toNat) % (200:UInt64)).toNat:Int) (((UInt64.ofNat (zfp % 18446744073709551616).toNat) % (200:UInt64)).toNat:Int)))))) (J120 (false))) (fun q119=>J117 (q119)))) (fun q116=>J112 ((decide (y115=q116))))) (J112 (false))) (fun q111=>jp (ι:=Bool) (fun J123=>br q111 (cal (getI y22.1.roots (1:Int)) fun y125=>cal (zcs y22.1 y125 (Val.mk (5:Int) (0:Int) (List.replicate ((((UInt64.ofNat (a_n_ % 18446744073709551616).toNat) % (250:UInt64)).toNat:Int)).toNat (0:UInt8)) ([]:(List Val)) (0:Int) ([]:(List Raw)))) fun y126=>J123 ((decide (y126=q101)))) (J123 (false))) (fun q122=>jp (ι:=Bool) (fun J128=>br q122 (cal (getI y22.1.roots (2:Int)) fun y130=>cal (zcs y22.1 y130 (Val.mk (10:Int) (0:Int) ([]:(List UInt8)) q28.1 (0:Int) ([]:(List Raw)))) fun y131=>J128 ((decide (y131=q101)))) (J128 (false))) (fun q127=>some (q127)))))))) (((List.replicate ((((UInt64.ofNat (a_n_ % 18446744073709551616).toNat) % (250:UInt64)).toNat:Int)).toNat (Val.mk (0:Int) (0:Int) ([]:(List UInt8)) ([]:(List Val)) (0:Int) ([]:(List Raw)))),(0:Int))))
end Go.Proofs.Q


namespace Go.Proofs.Q
open Go.Sy
set_option linter.unusedVariables false
set_option maxRecDepth 4000

/-! ### The text -/
def dotsB (more:Bool):List UInt8:=if more then [44,32,46,46,46] else []
def spanB (lo hi:Nat) (more:Bool):List UInt8:=dgl lo ++ ([46,46] ++ (dgl hi ++ dotsB more))
theorem znP {c:UInt8} (h:isDigit c=true):sgN [46,46] c=true:=by
  have:c ≠ 46:=fun e=>by subst e;cases h
  unfold sgN
  rw [zDF this]
  simp
theorem zkQ {lo hi:Nat} {more:Bool} (h1:lo < 256) (h2:hi < 256) {x:List UInt8} {ks:KS} (hx:KT (41 :: x) ks):KT (spanB lo hi more ++ 41 :: x) (spanT (dgl lo) (dgl hi) more ++ ks):=by
  have hd2:isDigit (hd (dgl hi))=true:=zg3 (dgs hi h2).num
  have e:spanB lo hi more ++ 41 :: x=dgl lo ++ ([46,46] ++ (dgl hi ++ (dotsB more ++ 41 :: x))):=by unfold spanB;simp
  have et:spanT (dgl lo) (dgl hi) more ++ ks=(3,dgl lo) :: (6,[46,46]) :: (3,dgl hi) :: (dotsT more ++ ks):=rfl
  rw [e,et]
  have h3:KT (dotsB more ++ 41 :: x) (dotsT more ++ ks):=by
    cases more with
    | true=>exact .tok rfl rfl (.tok rfl rfl hx)
    | false=>exact hx
  have h4:isDigit (hd (dotsB more ++ 41 :: x))=false∧zaN (hd (dotsB more ++ 41 :: x))=false:=by cases more <;> exact ⟨rfl,rfl⟩
  refine KT.dgt h1 rfl rfl (KT.sign (s:=[46,46]) (by decide) ?_ (KT.dgt h2 h4.1 h4.2 h3))
  rw [zge (zeJ (dgs hi h2).num)]
  exact znP hd2
theorem znC {lo hi:Nat} {more:Bool} (h1:lo < 256) (h2:hi < 256):(spanB lo hi more).length ≤ 13:=by
  have:=(dgs lo h1).len
  have:=(dgs hi h2).len
  unfold spanB dotsB
  cases more <;> simp only [List.length_append,List.length_cons,List.length_nil,if_true,Bool.false_eq_true,if_false] <;> omega
def conS (lo hi:Nat) (more:Bool):GCon:=⟨true,true,true,more,lo,hi⟩
def asA (lo hi:Nat) (more:Bool):As:=⟨[65],(5,[73,78,84,69,71,69,82]) :: (6,[40]) :: (spanT (dgl lo) (dgl hi) more ++ [(6,[41])]),1,fun _=>[{ zm noM with kind:=2,con:=conS lo hi more }],1⟩
def asB (lo hi:Nat) (more:Bool):As:=⟨[66],(5,[79,67,84,69,84]) :: (5,[83,84,82,73,78,71]) :: sizeT (dgl lo) (dgl hi) more,1,fun _=>[{ zm noM with kind:=5,con:=conS lo hi more }],1⟩
def asD (lo hi:Nat) (more:Bool):As:=⟨[67],(5,[83,69,81,85,69,78,67,69]) :: (sizeT (dgl lo) (dgl hi) more ++ (5,[79,70]) :: [(5,[78,85,76,76])]),2,fun i=>[{ zm noM with kind:=10,con:=conS lo hi more,of:=((i + 1:Nat):Int) },{ zm noM with kind:=4 }],2⟩
theorem zqe {lo hi:Nat} {more:Bool} (h1:lo < 256) (h2:hi < 256):AsK (asA lo hi more)∧AsK (asB lo hi more)∧AsK (asD lo hi more):=by
  have n1:=(dgs lo h1).val
  have n2:=(dgs hi h2).val
  have b1:Beg 5 [73,78,84,69,71,69,82]:=fun ⟨_,_,_⟩ h1 h2=>by dsimp only at h1 h2;subst h1;subst h2;kernel_rfl
  have b2:Beg 5 [79,67,84,69,84]:=fun ⟨_,_,_⟩ h1 h2=>by dsimp only at h1 h2;subst h1;subst h2;kernel_rfl
  have b3:Beg 5 [83,69,81,85,69,78,67,69]:=fun ⟨_,_,_⟩ h1 h2=>by dsimp only at h1 h2;subst h1;subst h2;kernel_rfl
  have b4:Beg 5 [78,85,76,76]:=fun ⟨_,_,_⟩ h1 h2=>by dsimp only at h1 h2;subst h1;subst h2;kernel_rfl
  exact ⟨⟨zli (zoU (more:=more) n1 n2) b1 rfl,by show 1 ≤ 17;omega⟩,⟨zli (zlx (more:=more) n1 n2) b2 rfl,by show 1 ≤ 17;omega⟩,⟨zli (znS (more:=more) (zli znh b4 rfl) n1 n2) b3 rfl,by show 2 ≤ 17;omega⟩⟩
def tyA (lo hi:Nat) (more:Bool):GTyp:=⟨2,[⟨0,2⟩],conS lo hi more,[],[],0,false,0⟩
def tyB (lo hi:Nat) (more:Bool):GTyp:=⟨5,[⟨0,4⟩],conS lo hi more,[],[],0,false,0⟩
def tyC (lo hi:Nat) (more:Bool):GTyp:=⟨10,[⟨0,16⟩],conS lo hi more,[],[],0,false,3⟩
def tyN:GTyp:=⟨4,[⟨0,5⟩],⟨false,false,false,false,0,0⟩,[],[],0,false,0⟩
def tabS (lo hi:Nat) (more:Bool):GTab:=⟨⟨[77]⟩,[⟨[65]⟩,⟨[66]⟩,⟨[67]⟩],[0,1,2],[tyA lo hi more,tyB lo hi more,tyC lo hi more,tyN]⟩
def txtS (lo hi:Nat) (more:Bool):List UInt8:=[77,32,68,69,70,73,78,73,84,73,79,78,83,32,58,58,61,32,66,69,71,73,78,32,65,32,58,58,61,32,73,78,84,69,71,69,82,32,40] ++ (spanB lo hi more ++ 41 :: ([32,66,32,58,58,61,32,79,67,84,69,84,32,83,84,82,73,78,71,32,40,83,73,90,69,32,40] ++ (spanB lo hi more ++ 41 :: ([41,32,67,32,58,58,61,32,83,69,81,85,69,78,67,69,32,40,83,73,90,69,32,40] ++ (spanB lo hi more ++ 41 :: [41,32,79,70,32,78,85,76,76,32,69,78,68])))))
theorem zph {lo hi:Nat} {more:Bool} (h1:lo < 256) (h2:hi < 256):KT (txtS lo hi more) (modT [77] 0 [asA lo hi more,asB lo hi more,asD lo hi more]):=by
  have e:modT [77] 0 [asA lo hi more,asB lo hi more,asD lo hi more]=(1,[77]) :: (5,[68,69,70,73,78,73,84,73,79,78,83]) :: (6,[58,58,61]) :: (5,[66,69,71,73,78]) :: (1,[65]) :: (6,[58,58,61]) :: (5,[73,78,84,69,71,69,82]) :: (6,[40]) :: (spanT (dgl lo) (dgl hi) more ++ ((6,[41]) :: (1,[66]) :: (6,[58,58,61]) :: (5,[79,67,84,69,84]) :: (5,[83,84,82,73,78,71]) :: (6,[40]) :: (5,[83,73,90,69]) :: (6,[40]) :: (spanT (dgl lo) (dgl hi) more ++ ((6,[41]) :: (6,[41]) :: (1,[67]) :: (6,[58,58,61]) :: (5,[83,69,81,85,69,78,67,69]) :: (6,[40]) :: (5,[83,73,90,69]) :: (6,[40]) :: (spanT (dgl lo) (dgl hi) more ++ [(6,[41]),(6,[41]),(5,[79,70]),(5,[78,85,76,76]),(5,[69,78,68])]))))):=by
    unfold modT asA asB asD As.toks sizeT
    simp [tagT]
  rw [e]
  have k3:KT (41 :: [41,32,79,70,32,78,85,76,76,32,69,78,68]) [(6,[41]),(6,[41]),(5,[79,70]),(5,[78,85,76,76]),(5,[69,78,68])]:=.tok rfl rfl (.tok rfl rfl (.tok rfl rfl (.tok rfl rfl (.tok rfl rfl (.fin rfl)))))
  have k2:=zkQ (more:=more) h1 h2 k3
  have k2':KT (41 :: ([41,32,67,32,58,58,61,32,83,69,81,85,69,78,67,69,32,40,83,73,90,69,32,40] ++ (spanB lo hi more ++ 41 :: [41,32,79,70,32,78,85,76,76,32,69,78,68]))) ((6,[41]) :: (6,[41]) :: (1,[67]) :: (6,[58,58,61]) :: (5,[83,69,81,85,69,78,67,69]) :: (6,[40]) :: (5,[83,73,90,69]) :: (6,[40]) :: (spanT (dgl lo) (dgl hi) more ++ [(6,[41]),(6,[41]),(5,[79,70]),(5,[78,85,76,76]),(5,[69,78,68])])):=.tok rfl rfl (.tok rfl rfl (.tok rfl rfl (.tok rfl rfl (.tok rfl rfl (.tok rfl rfl (.tok rfl rfl (.tok rfl rfl k2)))))))
  have k1:=zkQ (more:=more) h1 h2 k2'
  have k1':KT (41 :: ([32,66,32,58,58,61,32,79,67,84,69,84,32,83,84,82,73,78,71,32,40,83,73,90,69,32,40] ++ (spanB lo hi more ++ 41 :: ([41,32,67,32,58,58,61,32,83,69,81,85,69,78,67,69,32,40,83,73,90,69,32,40] ++ (spanB lo hi more ++ 41 :: [41,32,79,70,32,78,85,76,76,32,69,78,68]))))) ((6,[41]) :: (1,[66]) :: (6,[58,58,61]) :: (5,[79,67,84,69,84]) :: (5,[83,84,82,73,78,71]) :: (6,[40]) :: (5,[83,73,90,69]) :: (6,[40]) :: (spanT (dgl lo) (dgl hi) more ++ ((6,[41]) :: (6,[41]) :: (1,[67]) :: (6,[58,58,61]) :: (5,[83,69,81,85,69,78,67,69]) :: (6,[40]) :: (5,[83,73,90,69]) :: (6,[40]) :: (spanT (dgl lo) (dgl hi) more ++ [(6,[41]),(6,[41]),(5,[79,70]),(5,[78,85,76,76]),(5,[69,78,68])])))):=.tok rfl rfl (.tok rfl rfl (.tok rfl rfl (.tok rfl rfl (.tok rfl rfl (.tok rfl rfl (.tok rfl rfl (.tok rfl rfl k1)))))))
  exact .tok rfl rfl (.tok rfl rfl (.tok rfl rfl (.tok rfl rfl (.tok rfl rfl (.tok rfl rfl (.tok rfl rfl (.tok rfl rfl (zkQ (more:=more) h1 h2 k1'))))))))
theorem zlW {lo hi:Nat} {more:Bool} (h0:lo ≤ hi) (h2:hi < 200) {s:Str} (hs:s.b=txtS lo hi more):zbF s=some (tabS lo hi more,true):=by
  have h1:lo < 256:=by omega
  have hk:=zph (more:=more) h1 (show hi < 256 by omega)
  rw [← hs] at hk
  have hl:=znC (more:=more) h1 (show hi < 256 by omega)
  have hsl:s.b.length ≤ 3000:=by
    rw [hs];unfold txtS
    simp only [List.length_append,List.length_cons,List.length_nil];omega
  obtain ⟨ka,kb,kc⟩:=zqe (more:=more) h1 (show hi < 256 by omega)
  have hp:=znb (g:=0) (by omega) hk (by omega) (by show 3 ≤ 40;omega) (by show 1 + (1 + (2 + 0)) ≤ 300;omega) (fun x hx=>by
    simp only [List.mem_cons,List.not_mem_nil,or_false] at hx
    rcases hx with e | e | e <;> rw [e]
    · exact ka
    · exact kb
    · exact kc)
  have hmod:modM [77] 0 [asA lo hi more,asB lo hi more,asD lo hi more]=⟨⟨[77]⟩,0,[⟨[65]⟩,⟨[66]⟩,⟨[67]⟩],[0,1,2],[{ zm noM with kind:=2,con:=conS lo hi more },{ zm noM with kind:=5,con:=conS lo hi more },{ zm noM with kind:=10,con:=conS lo hi more,of:=3 },{ zm noM with kind:=4 }]⟩:=rfl
  have w:=zog hp
  rw [hmod] at hp w
  have ck1:zc1 (conS lo hi more) true=some 0:=zjy (by omega) fun _=>by omega
  have ck2:zc1 (conS lo hi more) false=some 0:=zjy (by omega) fun h=>by cases h
  generalize hm:(⟨⟨[77]⟩,0,[⟨[65]⟩,⟨[66]⟩,⟨[67]⟩],[0,1,2],[{ zm noM with kind:=2,con:=conS lo hi more },{ zm noM with kind:=5,con:=conS lo hi more },{ zm noM with kind:=10,con:=conS lo hi more,of:=3 },{ zm noM with kind:=4 }]⟩:GMod)=m at hp w
  have nA:=zjm (m:=m) (k:=0) (nd:={ zm noM with kind:=2,con:=conS lo hi more }) (by rw [← hm];rfl) (by show (2:Int) ≠ 11;decide) rfl (zlz (.inl rfl) ck2)
  have nB:=zjm (m:=m) (k:=1) (nd:={ zm noM with kind:=5,con:=conS lo hi more }) (by rw [← hm];rfl) (by show (5:Int) ≠ 11;decide) rfl (zlz (.inr rfl) ck1)
  have nN:=zjm (m:=m) (k:=3) (nd:={ zm noM with kind:=4 }) (by rw [← hm];rfl) (by show (4:Int) ≠ 11;decide) rfl (znN (.inr rfl))
  have nC:=zjm (m:=m) (k:=2) (nd:={ zm noM with kind:=10,con:=conS lo hi more,of:=3 }) (by rw [← hm];rfl) (by show (10:Int) ≠ 11;decide) rfl (znk rfl ck1 nN)
  have hmake:=zoQ w (by
    rw [← hm]
    intro n hn
    simp only [List.mem_cons,List.not_mem_nil,or_false] at hn
    rcases hn with e | e | e | e <;> rw [e]
    · show (2:Int) ≠ 11;decide
    · show (5:Int) ≠ 11;decide
    · show (10:Int) ≠ 11;decide
    · show (4:Int) ≠ 11;decide) (by rw [← hm];show ([⟨[65]⟩,⟨[66]⟩,⟨[67]⟩]:List Str).Nodup;decide) (mk:=[⟨1,fun _=>[tyA lo hi more]⟩,⟨1,fun _=>[tyB lo hi more]⟩,⟨2,fun i=>[{ tyC lo hi more with of:=((i + 1:Nat):Int) },tyN]⟩]) (by rw [← hm];rfl) (fun i k c hk hc=>by
      rw [← hm] at hk
      match i,hk,hc with
      | 0,hk,hc=>cases hk;cases hc;exact ⟨1,by omega,nA⟩
      | 1,hk,hc=>cases hk;cases hc;exact ⟨1,by omega,nB⟩
      | 2,hk,hc=>cases hk;cases hc;exact ⟨2,by omega,nC⟩
      | i + 3,hk,hc=>cases hc) (by unfold szM;simp)
  refine zni hsl hp (t:=tabS lo hi more) ?_ (by show 4 ≤ 120;omega)
  rw [hmake,← hm];rfl

/-! ### What fits -/
def inS (lo hi:Nat) (more:Bool) (x:Int):Bool:=more || (decide ((lo:Int) ≤ x) && decide (x ≤ (hi:Int)))
theorem zmE (lo hi:Nat) (more:Bool) (x:Int):wthn (conS lo hi more) x=(decide ((lo:Int) ≤ x) && decide (x ≤ (hi:Int))):=by
  unfold wthn conS;simp
theorem zil (n:Nat):zaC (n + 1)=zbI (za4 n) (zaC n) (zbq n) (zah n) (zao n) (zbM n):=rfl
theorem zoT (n:Nat):zbq (n + 1)=zcc (za4 n) (zaC n) (zbq n) (zah n) (zao n) (zbM n):=rfl
theorem zn9 (n:Nat):zah (n + 1)=zaB (za4 n) (zaC n) (zbq n) (zah n) (zao n) (zbM n):=rfl
theorem zo9 (n:Nat):zao (n + 1)=zaI (za4 n) (zaC n) (zbq n) (zah n) (zao n) (zbM n):=rfl
theorem zpQ (n:Nat):za4 (n + 1)=zbP (za4 n) (zaC n) (zbq n) (zah n) (zao n) (zbM n):=rfl
section fits
variable {lo hi:Nat} {more:Bool}
@[reducible] def chS (lo hi:Nat) (more:Bool):GChk:=GChk.mk (GTbd.mk (tabS lo hi more)) false
theorem zgE {i:Int} {x:GTyp} {v:Val} {d:Int} (h0:0 ≤ i) (hx:(tabS lo hi more).types[i.toNat]?=some x) (hd:d ≤ 17) (hk:v.kind=x.kind) (h12:v.kind ≠ 12) {C1 Ft Ls Co In Fl} {R:Bool × GChk→Prop}
    (h:T R (br (decide (x.kind=(1:Int))) (cal (zaU v (1:Int)) fun y10=>jp (ι:=Bool) (fun J12=>br y10 (jp (ι:=Bool) (fun J15=>br (decide (v.n=(0:Int))) (J15 (true)) (J15 ((decide (v.n=(1:Int)))))) (fun q14=>J12 (q14))) (J12 (false))) (fun q11=>some (q11,chS lo hi more))) (br (decide (x.kind=(2:Int))) (cal (zaU v (1:Int)) fun y17=>jp (ι:=Bool) (fun J19=>br y17 (jp (ι:=Bool) (fun J22=>br x.con.more (J22 (true)) (cal (zck x.con v.n) fun y24=>J22 (y24))) (fun q21=>J19 (q21))) (J19 (false))) (fun q18=>some (q18,chS lo hi more))) (br (decide (x.kind=(3:Int))) (cal (zaU v (1:Int)) fun y25=>jp (ι:=Bool) (fun J27=>br y25 (cal (zfm x v.n) fun y29=>J27 ((decide ((0:Int) ≤ y29)))) (J27 (false))) (fun q26=>some (q26,chS lo hi more))) (br (decide (x.kind=(4:Int))) (cal (zaU v (0:Int)) fun y30=>some (y30,chS lo hi more)) (jp (ι:=Bool) (fun J32=>br (decide (x.kind=(5:Int))) (J32 ((decide (x.kind=(5:Int))))) (J32 ((decide (x.kind=(6:Int)))))) (fun q31=>br q31 (cal (zbK (chS lo hi more) x v) fun y33=>some (y33.1,y33.2)) (br (decide (x.kind=(10:Int))) (cal (Ls (chS lo hi more) x v d) fun y34=>some (y34.1,y34.2)) (br (decide (x.kind=(9:Int))) (cal (zaU v (5:Int)) fun y35=>jp (ι:=Bool) (fun J37=>br y35 (J37 ((decide ((0:Int) ≤ v.n)))) (J37 (false))) (fun q36=>jp (ι:=Bool) (fun J40=>br q36 (J40 ((decide (v.n < (x.fields.length:Int))))) (J40 (false))) (fun q39=>jp (ι:=Bool) (fun J43=>br q39 (J43 ((decide ((v.l.length:Int)=(1:Int))))) (J43 (false))) (fun q42=>jp (ι:=Bool × GChk) (fun J46=>br q42 (cal (getI x.fields v.n) fun y48=>cal (getI v.l (0:Int)) fun y49=>ck ((d + (1:Int))) <| cal (Ft (chS lo hi more) y48.ty y49 (d + (1:Int))) fun y51=>J46 (y51.1,y51.2)) (J46 (false,chS lo hi more))) (fun q45=>some (q45.1,q45.2)))))) (jp (ι:=Bool) (fun J53=>br (decide (x.kind=(7:Int))) (J53 ((decide (x.kind=(7:Int))))) (J53 ((decide (x.kind=(8:Int)))))) (fun q52=>br q52 (cal (Fl (chS lo hi more) i v d) fun y54=>some (y54.1,y54.2)) (some (false,chS lo hi more))))))))))))) :
    T R (zbI C1 Ft Ls Co In Fl (chS lo hi more) i v d):=by
  have hi':=(List.getElem?_eq_some_iff.1 hx).1
  unfold zbI
  refine T.jp (fun b=>b=false) (fun J hJ=>T.brF (zDF (by omega)) (hJ _ (zDF (by dsimp only;omega)))) fun b hb=>?_
  refine T.jp (fun b=>b=false) (fun J hJ=>T.brF hb (hJ _ (zDF (by omega)))) fun b hb=>T.brF hb ?_
  refine T.eq (zhy h0 hx) (T.brF (zDF h12) (T.brF (by rw [zDT hk];rfl) h))
theorem zos {n:Nat} (v:Int):zaC (n + 1) (chS lo hi more) 0 (Val.mk 2 v [] [] 0 []) 1=some (inS lo hi more v,chS lo hi more):=by
  rw [zil]
  refine T.fin (zgE (x:=tyA lo hi more) (by omega) rfl (by omega) rfl (by show (2:Int) ≠ 12;decide) ?_)
  have hp:zaU (Val.mk 2 v [] [] 0 []) 1=some true:=by kernel_rfl
  refine T.brF rfl (T.brT rfl (T.eq hp (T.jp (fun b=>b=inS lo hi more v) (fun J hJ=>T.brT rfl (T.jp (fun b=>b=inS lo hi more v) (fun J2 hJ2=>T.br (fun h=>hJ2 _ ?_) fun h=>T.eq (zid _ _) (hJ2 _ ?_)) fun b hb=>hJ _ hb)) fun b hb=>T.some (by rw [hb]))))
  · have h:more=true:=h
    unfold inS;rw [h];rfl
  · have h:more=false:=h
    have:=zmE lo hi more v
    show wthn (conS lo hi more) v=inS lo hi more v
    unfold inS
    rw [this,h];rfl
theorem zoz {n:Nat} (b:List UInt8) (hb:b.length ≤ 70000):zaC (n + 1) (chS lo hi more) 1 (Val.mk 5 0 b [] 0 []) 1=some (inS lo hi more b.length,chS lo hi more):=by
  rw [zil]
  refine T.fin (zgE (x:=tyB lo hi more) (by omega) rfl (by omega) rfl (by show (5:Int) ≠ 12;decide) ?_)
  have hp:zaU (Val.mk 5 0 b [] 0 []) 2=some true:=by kernel_rfl
  have hs:zbK (chS lo hi more) (tyB lo hi more) (Val.mk 5 0 b [] 0 [])=some (inS lo hi more b.length,chS lo hi more):=by
    refine T.fin ?_
    unfold zbK
    refine T.eq hp (T.jp (fun c=>c=true) (fun J hJ=>T.brT rfl (hJ _ (zDT (by show ((b.length:Nat):Int) ≤ _;omega)))) fun c hc=>?_)
    refine T.jp (fun c=>c=inS lo hi more b.length) (fun J hJ=>T.brT hc (T.jp (fun c=>c=inS lo hi more b.length) (fun J2 hJ2=>T.br (fun h=>hJ2 _ ?_) fun h=>T.eq (zid _ _) (hJ2 _ ?_)) fun c hc=>hJ _ hc)) fun c hc=>?_
    · have h:more=true:=h
      unfold inS;rw [h];rfl
    · have h:more=false:=h
      have:=zmE lo hi more b.length
      show wthn (conS lo hi more) b.length=inS lo hi more b.length
      unfold inS
      rw [this,h];rfl
    · refine T.jp (fun c=>c=inS lo hi more b.length) (fun J hJ=>T.br (fun h=>T.jp0 (T.brT rfl (hJ _ (by rw [← hc,h])))) fun h=>hJ _ (by rw [← hc,h])) fun c hc=>T.some (by rw [hc])
  exact T.brF rfl (T.brF rfl (T.brF rfl (T.brF rfl (T.jp0 (T.brT rfl (T.brT rfl (T.eq hs (T.some rfl))))))))
@[reducible] def nulV:Val:=Val.mk 4 0 [] [] 0 []
theorem znl {n:Nat}:zaC (n + 1) (chS lo hi more) 3 nulV 2=some (true,chS lo hi more):=by
  rw [zil]
  refine T.fin (zgE (x:=tyN) (by omega) rfl (by omega) rfl (by decide) ?_)
  have hp:zaU nulV 0=some true:=by kernel_rfl
  exact T.brF rfl (T.brF rfl (T.brF rfl (T.brT rfl (T.eq hp (T.some rfl)))))
theorem znw {n k:Nat} (hk:k ≤ 250):zaC (n + 6) (chS lo hi more) 2 (Val.mk 10 0 [] (List.replicate k nulV) 0 []) 1=some (inS lo hi more k,chS lo hi more):=by
  rw [zil]
  refine T.fin (zgE (x:=tyC lo hi more) (by omega) rfl (by omega) rfl (by show (10:Int) ≠ 12;decide) ?_)
  have hp:zaU (Val.mk 10 0 [] (List.replicate k nulV) 0 []) 4=some true:=by kernel_rfl
  have hix:zao (n + 3) (List.replicate k nulV) (chS lo hi more) (tyC lo hi more) 1=some (-1,chS lo hi more):=by
    rw [zo9]
    refine T.fin ?_
    unfold zaI
    refine T.lp (ι:=Int × GChk) (fun q=>0 ≤ q.1∧q.1 ≤ k∧q.2=chS lo hi more) (fun q=>((k:Int) - q.1).toNat) ⟨Int.le_refl _,by dsimp only;omega,rfl⟩ (by dsimp only;omega) fun L q ⟨q1,q2,q3⟩ hL=>?_
    obtain ⟨j,c⟩:=q
    dsimp only at q1 q2 q3 hL ⊢
    subst q3
    rw [List.length_replicate]
    refine T.br (fun h=>?_) fun _=>T.some rfl
    have h:=zOT h
    refine T.get q1 (by rw [List.length_replicate];exact h) fun y hy=>?_
    have hyn:y=nulV:=List.eq_of_mem_replicate (List.mem_of_getElem? hy)
    subst hyn
    have h1:za4 (n + 2) nulV (chS lo hi more) (tyC lo hi more) 1=some (false,chS lo hi more):=by
      rw [zpQ]
      refine T.fin ?_
      unfold zbP
      exact T.ck (by omega) (T.eq znl (T.some rfl))
    exact T.eq h1 (T.brF rfl (T.ck (by omega) (hL _ ⟨by dsimp only;omega,by dsimp only;omega,rfl⟩ (by dsimp only;omega))))
  have hc:zah (n + 4) (List.replicate k nulV) (chS lo hi more) (tyC lo hi more) 1=some (false,chS lo hi more):=by
    rw [zn9]
    refine T.fin ?_
    unfold zaB
    exact T.eq hix (T.some rfl)
  have hl:zbq (n + 5) (chS lo hi more) (tyC lo hi more) (Val.mk 10 0 [] (List.replicate k nulV) 0 []) 1=some (inS lo hi more k,chS lo hi more):=by
    rw [zoT]
    refine T.fin ?_
    unfold zcc
    refine T.eq hp (T.jp (fun c=>c=inS lo hi more k) (fun J hJ=>T.brT rfl (T.jp (fun c=>c=inS lo hi more k) (fun J2 hJ2=>T.br (fun h=>hJ2 _ ?_) fun h=>T.eq (zid _ _) (hJ2 _ ?_)) fun c hc=>hJ _ hc)) fun c hcc=>?_)
    · have h:more=true:=h
      unfold inS;rw [h];rfl
    · have h:more=false:=h
      have:=zmE lo hi more k
      show wthn (conS lo hi more) (List.replicate k nulV).length=inS lo hi more k
      unfold inS
      rw [List.length_replicate,this,h];rfl
    · refine T.jp (ι:=Bool × GChk) (fun r=>r=(inS lo hi more k,chS lo hi more)) (fun J hJ=>T.br (fun h=>T.eq hc (hJ _ (by rw [← hcc,h];rfl))) fun h=>hJ _ (by rw [← hcc,h])) fun r hr=>T.some (by rw [hr])
  exact T.brF rfl (T.brF rfl (T.brF rfl (T.brF rfl (T.jp0 (T.brF rfl (T.brF rfl (T.brT rfl (T.eq hl (T.some rfl)))))))))
theorem zkX {i:Int} {v:Val} {b:Bool} (hf:zaC fuel (chS lo hi more) i v 1=some (b,chS lo hi more)) (hc:cnt v ≤ 5000) (hv:Fine v):zcs (tabS lo hi more) i v=some b:=by
  refine T.fin ?_
  unfold zcs
  refine T.eq hf (T.jp (fun c=>c=b) (fun J hJ=>T.br (fun h=>T.eq (znL (n:=fuel) (by unfold fuel;omega) (by omega) hv) (hJ _ ?_)) fun h=>hJ _ (by have h:b=false:=h;rw [h])) fun c hc=>T.some hc)
  have h:b=true:=h
  rw [h];exact zDT (by omega)
end fits
theorem zj7 {k n:Int} {b:List UInt8}:cnt (Val.mk k n b [] 0 [])=1:=by rw [zjH];rfl
theorem zop (k:Nat):cnt (Val.mk 10 0 [] (List.replicate k nulV) 0 [])=1 + k:=by
  rw [zjH]
  show 1 + ((List.replicate k nulV).map cnt).sum=_
  rw [List.map_replicate,zj7]
  simp
theorem ziY {k n:Int} {b:List UInt8} (hb:b.length ≤ 68719476736):Fine (Val.mk k n b [] 0 []):=Fine.mk hb (by show 0 ≤ _;omega) (by show 0 ≤ _;omega) (fun r h=>by cases h) (fun w h=>by cases h)
theorem zmm (low high v n:Int) (more:Bool):zdq low high v n more=some true:=by
  refine T.eqs ?_
  unfold zdq
  have m1:((UInt64.ofNat (low % 18446744073709551616).toNat) % (200:UInt64)).toNat < 200:=by rw [UInt64.toNat_mod];exact Nat.mod_lt _ (by decide)
  have m2:((UInt64.ofNat (high % 18446744073709551616).toNat) % (200:UInt64)).toNat < 200:=by rw [UInt64.toNat_mod];exact Nat.mod_lt _ (by decide)
  have m3:((UInt64.ofNat (n % 18446744073709551616).toNat) % (250:UInt64)).toNat < 250:=by rw [UInt64.toNat_mod];exact Nat.mod_lt _ (by decide)
  generalize ((UInt64.ofNat (low % 18446744073709551616).toNat) % (200:UInt64)).toNat=a at *
  generalize ((UInt64.ofNat (high % 18446744073709551616).toNat) % (200:UInt64)).toNat=b at *
  generalize ((UInt64.ofNat (n % 18446744073709551616).toNat) % (250:UInt64)).toNat=k at *
  obtain ⟨lo,hlo⟩:∃ lo:Nat,min (a:Int) (b:Int)=lo:=⟨min a b,by omega⟩
  obtain ⟨hi,hhi⟩:∃ hi:Nat,max (a:Int) (b:Int)=hi:=⟨max a b,by omega⟩
  rw [hlo,hhi]
  have hle:lo ≤ hi:=by omega
  have hh:hi < 200:=by omega
  have e1:((lo:Int) % 18446744073709551616).toNat=lo:=by omega
  have e2:((hi:Int) % 18446744073709551616).toNat=hi:=by omega
  rw [e1,e2]
  have d1:=dgs lo (by omega)
  have d2:=dgs hi (by omega)
  have l1:=d1.len
  have l2:=d2.len
  refine T.asr rfl (T.ck (by omega) (T.asr rfl (T.ck (by omega) (T.asr rfl (T.ck (by omega) ?_)))))
  refine T.jp (ι:=Str) (fun s=>s.b=dotsB more) (fun J hJ=>T.br (fun h=>hJ _ (by unfold dotsB;rw [h];rfl)) fun h=>hJ _ (by unfold dotsB;rw [h];rfl)) fun q hq=>?_
  have hql:q.b.length ≤ 5:=by rw [hq];cases more <;> decide
  refine T.eq d1.eq (T.abl ?_ (T.eq d2.eq (T.abl ?_ (T.abl ?_ (T.abl ?_ (T.abl ?_ (T.abl ?_ (T.abl ?_ (T.abl ?_ (T.abl ?_ (T.abl ?_ (T.abl ?_ ?_)))))))))))) <;> try (simp only [List.length_append,List.length_cons,List.length_nil];omega)
  refine T.eq (zlW (more:=more) hle hh (by unfold txtS spanB;rw [← hq];simp)) (T.asd (by omega) (T.asd (by omega) ?_))
  rw [Int.toNat_natCast]
  refine T.lp (ι:=List Val × Int) (fun p=>∃ j:Nat,j ≤ k∧p.2=j∧p.1=List.replicate j nulV ++ List.replicate (k - j) (Val.mk 0 0 [] [] 0 [])) (fun p=>((k:Int) - p.2).toNat) ⟨0,Nat.zero_le _,rfl,by simp⟩ (by dsimp only;omega) fun L p hp hL=>?_
  obtain ⟨l,jc⟩:=p
  obtain ⟨j,j1,j2,j3⟩:=hp
  dsimp only at j2 j3 hL ⊢
  subst j2
  have hll:l.length=k:=by rw [j3,List.length_append,List.length_replicate,List.length_replicate];omega
  rw [List.length_replicate]
  refine T.br (fun h=>?_) fun h=>?_
  · have h:=zOT h
    obtain ⟨m,hm⟩:∃ m,k - j=m + 1:=⟨k - j - 1,by omega⟩
    rw [hm,List.replicate_succ] at j3
    have hg:l[((j:Nat):Int).toNat]?=some (Val.mk 0 0 [] [] 0 []):=by
      rw [j3,Int.toNat_natCast,List.getElem?_append_right (by rw [List.length_replicate];exact Nat.le_refl _),List.length_replicate,Nat.sub_self];rfl
    refine T.asd (by omega) (T.eq hg (T.ck (by omega) (hL _ ⟨j + 1,by omega,by dsimp only;omega,?_⟩ (by dsimp only;omega))))
    dsimp only
    rw [j3,Int.toNat_natCast,List.set_append_right _ _ (by rw [List.length_replicate];exact Nat.le_refl _),List.length_replicate,Nat.sub_self]
    show List.replicate j nulV ++ nulV :: List.replicate m _=_
    rw [List.replicate_succ',List.append_assoc,show k - (j + 1)=m by omega];rfl
  have h:=zOF h
  have hjk:j=k:=by omega
  subst hjk
  rw [Nat.sub_self] at j3
  have hl:l=List.replicate j nulV:=by rw [j3];simp
  subst hl
  have f1:=zkX (zos (lo:=lo) (hi:=hi) (more:=more) (n:=fuel - 1) v |> fun h=>by
    have e:fuel - 1 + 1=fuel:=by unfold fuel;rfl
    rw [e] at h;exact h) (by rw [zj7];omega) (ziY (by simp))
  have f2:=zkX (zoz (lo:=lo) (hi:=hi) (more:=more) (n:=fuel - 1) (List.replicate j 0) (by rw [List.length_replicate];omega) |> fun h=>by
    have e:fuel - 1 + 1=fuel:=by unfold fuel;rfl
    rw [e] at h;exact h) (by rw [zj7];omega) (ziY (by rw [List.length_replicate];omega))
  have f3:=zkX (znw (lo:=lo) (hi:=hi) (more:=more) (n:=fuel - 6) (k:=j) (by omega) |> fun h=>by
    have e:fuel - 6 + 6=fuel:=by unfold fuel;rfl
    rw [e] at h;exact h) (by rw [zop];omega) (Fine.mk (by show 0 ≤ _;omega) (by show (List.replicate j nulV).length ≤ _;rw [List.length_replicate];omega) (by show 0 ≤ _;omega) (fun r h=>by cases h) (fun w hw=>by rw [List.eq_of_mem_replicate hw];exact ziY (by simp)))
  rw [List.length_replicate] at f2
  have hin:∀ (x:Int) {R:Bool→Prop} {K:Bool→Option Bool},T R (K (inS lo hi more x))→T R (jp (ι:=Bool) (fun J102=>br more (J102 (true)) (jp (ι:=Bool) (fun J105=>br (decide ((lo:Int) ≤ x)) (J105 (decide (x ≤ (hi:Int)))) (J105 (false))) (fun q104=>J102 (q104)))) K):=fun x R K hK=>by
    refine T.jp (fun b=>b=inS lo hi more x) (fun J hJ=>T.br (fun h=>hJ _ (by unfold inS;rw [h];rfl)) fun h=>T.jp (fun b=>b=(decide ((lo:Int) ≤ x) && decide (x ≤ (hi:Int)))) (fun J2 hJ2=>T.br (fun h2=>hJ2 _ (by rw [h2];rfl)) fun h2=>hJ2 _ (by rw [h2];rfl)) fun b hb=>hJ _ (by unfold inS;rw [h,hb];rfl)) fun b hb=>by rw [hb];exact hK
  refine hin j (T.eq awake12 ?_)
  refine T.jp (fun b=>b=true) (fun J hJ=>T.brT rfl (hJ _ rfl)) fun b hb=>?_
  subst hb
  refine T.jp (fun b=>b=true) (fun J hJ=>T.brT rfl (T.eq (y:=0) rfl (T.eq f1 (hin v (hJ _ (zDT rfl)))))) fun b hb=>?_
  subst hb
  refine T.jp (fun b=>b=true) (fun J hJ=>T.brT rfl (T.eq (y:=1) rfl (T.eq f2 (hJ _ (zDT rfl))))) fun b hb=>?_
  subst hb
  refine T.jp (fun b=>b=true) (fun J hJ=>T.brT rfl (T.eq (y:=2) rfl (T.eq f3 (hJ _ (zDT rfl))))) fun b hb=>T.some hb
end Go.Proofs.Q


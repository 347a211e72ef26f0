/- NoteBack: the law's model answers true. No condition but that the value is one of the machine's. -/
import Derived.Test.YthafpblconbjkaaGreatDoorNbD
set_option linter.unusedVariables false
set_option linter.unusedSimpArgs false
set_option maxRecDepth 4000
set_option maxHeartbeats 4000000
namespace Go.Proofs.Q
open Go.Sy
/-! ### Groups of seven bits -/
def zkF:Bool->UInt64->Int->List UInt8->UInt64 × Int × Int
 | _,_,_,[]=>(0,0,3)
 | f,v,n,y :: r=>if (f=true/\y=128) \/ 144115188075855872 <= v then (0,0,4) else
  if y < 128 then (zex v (7:UInt64).toNat ||| (y &&& 127).toUInt64,n + 1,0) else zkF false (zex v (7:UInt64).toNat ||| (y &&& 127).toUInt64) (n + 1) r
theorem zpE (f:Bool) (v:UInt64) (n:Int) (y:UInt8) (r:List UInt8):zkF f v n (y :: r)=if (f=true/\y=128) \/ 144115188075855872 <= v then (0,0,4) else
    if y < 128 then (zex v (7:UInt64).toNat ||| (y &&& 127).toUInt64,n + 1,0) else zkF false (zex v (7:UInt64).toNat ||| (y &&& 127).toUInt64) (n + 1) r:=rfl
theorem zv9 (f:Bool) (v:UInt64) (n:Int):zkF f v n []=(0,0,3):=rfl
theorem zzN (v:UInt64):(v >>> 57=0) ↔ ¬ 144115188075855872 <= v:=by
 rw [<- UInt64.toNat_inj,UInt64.toNat_shiftRight,UInt64.le_iff_toNat_le]
 have e1:(57:UInt64).toNat % 64=57:=rfl
 have e2:(144115188075855872:UInt64).toNat=144115188075855872:=rfl
 have e3:(0:UInt64).toNat=0:=rfl
 rw [e1,e2,e3,Nat.shiftRight_eq_div_pow]
 have:(2:Nat) ^ 57=144115188075855872:=by decide
 rw [this];omega
theorem zyX {b:List UInt8} {q:Int} {y:UInt8} (q0:0 <= q) (hy:b[q.toNat]?=some y):b.drop q.toNat=y :: b.drop (q + 1).toNat:=by
 obtain ⟨h1,h2⟩:=List.getElem?_eq_some_iff.1 hy
 rw [List.drop_eq_getElem_cons h1,h2,show (q + 1).toNat=q.toNat + 1 by omega]
theorem zyh (b:List UInt8) (hb:b.length <= 68719476736):zem b=some (zkF true 0 0 b):=by
 refine T.eqs ?_
 unfold zem
 refine T.lp (ι:=UInt64 × Int) (λq=>0 <= q.2/\q.2 <= (b.length:Int)/\zkF (decide (q.2=0)) q.1 q.2 (b.drop q.2.toNat)=zkF true 0 0 b) (λq=>((b.length:Int) - q.2).toNat) ⟨zIl _,by dsimp only;omega,rfl⟩ (by dsimp only;omega) λL q ⟨q1,q2,q3⟩ hL=>?_
 obtain ⟨v,i⟩:=q
 dsimp only at q1 q2 q3 hL ⊢
 refine T.br (λh=>?_) λh=>T.some ?_
 ·have h:=zOT h
  refine T.get q1 h λy hy=>?_
  rw [zyX q1 hy,zpE] at q3
  refine T.and' (T.jp (λd=>d=true ↔ ((decide (i=0)=true/\y=128) \/ 144115188075855872 <= v)) (λJ k=>T.br (λh1=>k _ ⟨λ_=>.inl ?_,λ_=>rfl⟩) λh1=>k _ ?_) λd hd=>T.br (λh1=>T.some ?_) λh1=>?_)
  ·rw [zBa,decide_eq_true_iff (p:=y=128)] at h1;exact h1
  ·have e:(!decide (v >>> 57=0))=decide (144115188075855872 <= v):=by
    by_cases h2:144115188075855872 <= v
    ·rw [zDT h2,zDF λh3=>(zzN v).1 h3 h2];rfl
    ·rw [zDF h2,zDT ((zzN v).2 h2)];rfl
   rw [e,decide_eq_true_iff]
   refine ⟨.inr,λh=>h.resolve_left λh2=>?_⟩
   rw [h2.1,zDT h2.2] at h1;cases h1
  ·rw [if_pos (hd.1 h1)] at q3;exact q3
  ·have hno:¬ ((decide (i=0)=true/\y=128) \/ 144115188075855872 <= v):=λh=>by rw [hd.2 h] at h1;cases h1
   rw [if_neg hno] at q3
   refine T.asr rfl (T.br (λh2=>T.ck (by omega) (T.some ?_)) λh2=>T.ck (by omega) (hL _ ⟨by dsimp only;omega,by dsimp only;omega,?_⟩ (by dsimp only;omega)))
   ·rw [if_pos (zOT h2)] at q3;exact q3
   ·rw [if_neg (zOF h2)] at q3
    dsimp only
    rw [zDF (show ¬ i + 1=0 by omega)]
    exact q3
 ·have h:=zOF h
  rw [zDn (by omega),zv9] at q3
  exact q3

def znt (l:List UInt8):UInt64:=l.foldl (λv y=>zex v (8:UInt64).toNat ||| y.toUInt64) 0
theorem ztd (l:List UInt8) (y:UInt8):znt (l ++ [y])=zex (znt l) (8:UInt64).toNat ||| y.toUInt64:=by simp [znt]
def zmU (b:List UInt8):UInt64 × Int:=if b=[] then (0,3) else if 8 < b.length \/ (1 < b.length/\b.head?=some 0) then (0,4) else (znt b,0)
theorem takeD {b:List UInt8} {q:Int} {y:UInt8} (q0:0 <= q) (hy:b[q.toNat]?=some y):znt (b.take (q + 1).toNat)=zex (znt (b.take q.toNat)) (8:UInt64).toNat ||| y.toUInt64:=by
 rw [show (q + 1).toNat=q.toNat + 1 by omega,List.take_add_one,hy]
 exact ztd _ _
theorem unsC (b:List UInt8):zdR b=some (zmU b):=by
 refine T.eqs ?_
 unfold zdR
 refine T.br (λh=>T.some ?_) λh=>?_
 ·have:b=[]:=List.length_eq_zero_iff.1 (by have:=zOT h;omega)
  unfold zmU;rw [if_pos this]
 have hne:b ≠ []:=λe=>zOF h (by rw [e];rfl)
 obtain ⟨y,r,rfl⟩:=List.exists_cons_of_ne_nil hne
 refine T.jp (λc=>c=true ↔ (8 < (y :: r).length \/ (1 < (y :: r).length/\(y :: r).head?=some 0))) (λJ k=>T.br (λh8=>k _ ⟨λ_=>.inl (by have:=zOT h8;omega),λ_=>rfl⟩) λh8=>?_) λc hc=>T.br (λh2=>T.some ?_) λh2=>?_
 ·have h8:=zOF h8
  refine T.jp (λd=>d=true ↔ (1 < (y :: r).length/\(y :: r).head?=some 0)) (λJ2 k2=>T.br (λh1=>T.eq (y:=y) rfl (k2 _ ?_)) λh1=>k2 _ ⟨λh=>(by cases h),λh=>absurd h.1 (by have:=zOF h1;omega)⟩) λd hd=>k _ (hd.trans ⟨.inr,λh=>h.resolve_left (by omega)⟩)
  have h1:=zOT h1
  rw [decide_eq_true_iff]
  exact ⟨λe=>⟨by omega,by rw [e];rfl⟩,λe=>by have:=e.2;simpa using this⟩
 ·unfold zmU;rw [if_neg hne,if_pos (hc.1 h2)]
 ·have hno:¬ (8 < (y :: r).length \/ (1 < (y :: r).length/\(y :: r).head?=some 0)):=λh=>by rw [hc.2 h] at h2;cases h2
  have h8:(y :: r).length <= 8:=by
   rcases Nat.lt_or_ge 8 (y :: r).length with h | h
   ·exact absurd (.inl h) hno
   ·exact h
  refine T.eq (y:=znt (y :: r)) ?_ (T.some ?_)
  ·refine T.eqs ?_
   unfold zhE
   generalize y :: r=b at h8
   refine T.lp (ι:=UInt64 × Int) (λq=>0 <= q.2/\q.2 <= (b.length:Int)/\q.1=znt (b.take q.2.toNat)) (λq=>((b.length:Int) - q.2).toNat) ⟨zIl _,by dsimp only;omega,rfl⟩ (by dsimp only;omega) λL q ⟨q1,q2,q3⟩ hL=>T.br (λhb=>?_) λhb=>T.some ?_
   ·have hb:=zOT hb
    refine T.get q1 hb λy hy=>T.asr rfl (T.ck (by omega) (hL _ ⟨by dsimp only;omega,by dsimp only;omega,?_⟩ (by dsimp only;omega)))
    dsimp only
    rw [takeD q1 hy,q3]
   ·have hb:=zOF hb
    rw [zTl (by omega)] at q3
    exact q3
  ·unfold zmU;rw [if_neg hne,if_neg hno]
theorem zqP:∀ (l:List UInt8) (f:Bool) (v:UInt64) (n:Int),(zkF f v n l).2.2=0->n < (zkF f v n l).2.1/\(zkF f v n l).2.1 <= n + l.length
 | [],f,v,n,h=>by cases h
 | y :: r,f,v,n,h=>by
  rw [zpE] at h ⊢
  split at h
  ·cases h
  ·rename_i h1
   rw [if_neg h1]
   split at h
   ·rename_i h2
    rw [if_pos h2]
    dsimp only;rw [zLc];omega
   ·rename_i h2
    rw [if_neg h2]
    have:=zqP r _ _ _ h
    rw [zLc];omega
def zhr (y:UInt8) (r:List UInt8):Int × Int × Int:=if (y &&& 31).toNat=31 then
    (if (zkF true 0 0 r).2.2 ≠ 0 then (0,0,(zkF true 0 0 r).2.2) else if (zkF true 0 0 r).1 < 31 \/ 268435456 < (zkF true 0 0 r).1 then (0,0,4) else (((zkF true 0 0 r).1.toNat:Int),(zkF true 0 0 r).2.1,0))
  else (((y &&& 31).toNat:Int),0,0)
theorem zup {y:UInt8} {r:List UInt8} (h:(zhr y r).2.2=0):0 <= (zhr y r).2.1/\(zhr y r).2.1 <= r.length:=by
 unfold zhr at h ⊢
 split at h
 ·rename_i h1
  rw [if_pos h1]
  split at h
  ·rename_i h2;exact absurd h h2
  ·rename_i h2
   rw [if_neg h2]
   split at h
   ·cases h
   ·rename_i h3
    rw [if_neg h3]
    have:=zqP r true 0 0 (Classical.byContradiction λe=>h2 e)
    dsimp only;omega
 ·rename_i h1
  rw [if_neg h1]
  exact ⟨zIl _,Int.natCast_nonneg _⟩
def zlo:List UInt8->Int × Int × Int
 | []=>(0,0,3)
 | y :: r=>if y.toNat < 128 then ((y.toNat:Int),1,0) else if y.toNat=128 \/ 136 < y.toNat then (0,0,4) else if r.length < y.toNat - 128 then (0,0,3) else
  if (zmU (r.take (y.toNat - 128))).2 ≠ 0 \/ (zmU (r.take (y.toNat - 128))).1 < 128 \/ 2147483647 < (zmU (r.take (y.toNat - 128))).1 then (0,0,4) else (((zmU (r.take (y.toNat - 128))).1.toNat:Int),1 + ((y.toNat - 128:Nat):Int),0)
theorem zmL (y:UInt8) (r:List UInt8):zlo (y :: r)=if y.toNat < 128 then ((y.toNat:Int),1,0) else if y.toNat=128 \/ 136 < y.toNat then (0,0,4) else if r.length < y.toNat - 128 then (0,0,3) else
    if (zmU (r.take (y.toNat - 128))).2 ≠ 0 \/ (zmU (r.take (y.toNat - 128))).1 < 128 \/ 2147483647 < (zmU (r.take (y.toNat - 128))).1 then (0,0,4) else (((zmU (r.take (y.toNat - 128))).1.toNat:Int),1 + ((y.toNat - 128:Nat):Int),0):=rfl
theorem zqN {a b:UInt64} (h:¬ a < b):b.toNat <= a.toNat:=by
 rcases Nat.lt_or_ge a.toNat b.toNat with h1 | h1
 ·exact absurd (UInt64.lt_iff_toNat_lt.2 h1) h
 ·exact h1
theorem ztW {l:List UInt8} (h:(zlo l).2.2=0):0 <= (zlo l).1/\(zlo l).1 <= 2147483647/\0 < (zlo l).2.1/\(zlo l).2.1 <= l.length:=by
 cases l with
 | nil=>cases h
 | cons y r =>
  have hy:=y.toNat_lt
  rw [zmL] at h ⊢
  split at h
  ·rename_i h1
   rw [if_pos h1]
   dsimp only;rw [zLc];omega
  ·rename_i h1
   rw [if_neg h1]
   split at h
   ·cases h
   ·rename_i h2
    rw [if_neg h2]
    split at h
    ·cases h
    ·rename_i h3
     rw [if_neg h3]
     split at h
     ·cases h
     ·rename_i h4
      rw [if_neg h4]
      have e:(2147483647:UInt64).toNat=2147483647:=rfl
      have:=zqN (λe=>h4 (.inr (.inr e)))
      rw [e] at this
      dsimp only
      rw [zLc]
      omega
def hz (e:Int):Tag × Bool × Int × Int × Int:=(Tag.mk 0 0,false,0,0,e)
def zgG:List UInt8->Tag × Bool × Int × Int × Int
 | []=>hz 3
 | y :: r=>if (zhr y r).2.2 ≠ 0 then hz (zhr y r).2.2 else if (zlo (r.drop (zhr y r).2.1.toNat)).2.2 ≠ 0 then hz (zlo (r.drop (zhr y r).2.1.toNat)).2.2 else
  (Tag.mk ((zfn y (6:UInt64).toNat).toNat:Int) (zhr y r).1,!decide (y &&& 32=0),(zlo (r.drop (zhr y r).2.1.toNat)).1,1 + (zhr y r).2.1 + (zlo (r.drop (zhr y r).2.1.toNat)).2.1,0)
theorem zop (y:UInt8) (r:List UInt8):zgG (y :: r)=if (zhr y r).2.2 ≠ 0 then hz (zhr y r).2.2 else if (zlo (r.drop (zhr y r).2.1.toNat)).2.2 ≠ 0 then hz (zlo (r.drop (zhr y r).2.1.toNat)).2.2 else
    (Tag.mk ((zfn y (6:UInt64).toNat).toNat:Int) (zhr y r).1,!decide (y &&& 32=0),(zlo (r.drop (zhr y r).2.1.toNat)).1,1 + (zhr y r).2.1 + (zlo (r.drop (zhr y r).2.1.toNat)).2.1,0):=rfl
theorem and31:∀ X:Fin 256,(UInt8.ofNat X.val &&& 31).toNat <= 31:=by decide +kernel
theorem zAF (y:UInt8):(y &&& 31).toNat <= 31:=by
 have:=and31 ⟨y.toNat,y.toNat_lt⟩
 simpa only [UInt8.ofNat_toNat] using this
theorem zAh:∀ X:Fin 256,128 <= X.val->(UInt8.ofNat X.val &&& ~~~(128:UInt8)).toNat=X.val - 128:=by decide +kernel
theorem zyJ {y:UInt8} (h:128 <= y.toNat):(y &&& ~~~(128:UInt8)).toNat=y.toNat - 128:=by
 have:=zAh ⟨y.toNat,y.toNat_lt⟩ h
 simpa only [UInt8.ofNat_toNat] using this
theorem tl1 (y:UInt8) (r:List UInt8):(((y :: r).take (((y :: r).length:Nat):Int).toNat).drop (1:Int).toNat)=r:=by
 rw [Int.toNat_natCast,List.take_length];rfl
theorem zxr (y:UInt8) (r:List UInt8) (hl:r.length <= 68719476736):zie (y :: r)=some (zhr y r):=by
 have h31:=zAF y
 refine T.eqs ?_
 unfold zie
 refine T.eq (y:=y) rfl (T.br (λh=>T.some ?_) λh=>?_)
 ·have h:=zOT h
  unfold zhr;rw [if_neg (by omega)]
 ·have h:=zOF h
  refine T.asd (by rw [zLc];omega) ?_
  rw [tl1]
  have hle:=zqP r true 0 0
  unfold zhr
  rw [if_pos (show (y &&& 31).toNat=31 by omega)]
  generalize hg:zkF true 0 0 r=g at hle ⊢
  refine T.eq (y:=g) (by rw [zyh r (by omega),hg]) (T.br (λh2=>T.some ?_) λh2=>?_)
  ·rw [if_pos (by simpa using h2)]
  ·have h2:g.2.2=0:=by simpa using h2
   rw [if_neg (λe=>e h2)]
   refine T.or' (T.br (λh3=>T.some ?_) λh3=>?_)
   ·rw [Bool.or_eq_true,decide_eq_true_iff,decide_eq_true_iff] at h3
    rw [if_pos h3]
   ·rw [Bool.or_eq_false_iff] at h3
    have e3:¬ (g.1 < 31 \/ 268435456 < g.1):=λe=>e.elim (zOF h3.1) (zOF h3.2)
    rw [if_neg e3]
    have:=zqN (zOF h3.2)
    have e:(268435456:UInt64).toNat=268435456:=rfl
    exact T.ck (by omega) (T.some rfl)
theorem zxf (l:List UInt8) (hl:l.length <= 68719476736):zii l=some (zlo l):=by
 refine T.eqs ?_
 unfold zii
 cases l with
 | nil=>exact T.br (λ_=>T.some rfl) λh=>by cases h
 | cons y r =>
  have hy:=y.toNat_lt
  have e128:(128:UInt8).toNat=128:=rfl
  refine T.br (λh=>absurd (zOT h) (by rw [zLc];omega)) λ_=>T.eq (y:=y) rfl (T.br (λh=>T.eq (y:=y) rfl (T.some ?_)) λh=>T.eq (y:=y) rfl ?_)
  ·have h:=UInt8.lt_iff_toNat_lt.1 (zOT h)
   rw [zmL,if_pos (by omega)]
  ·have h1:¬ y.toNat < 128:=λh2=>zOF h (UInt8.lt_iff_toNat_lt.2 (by omega))
   have e:=zyJ (y:=y) (by omega)
   rw [zmL,if_neg h1]
   refine T.or' (T.br (λh2=>T.some ?_) λh2=>?_)
   ·rw [Bool.or_eq_true,decide_eq_true_iff,decide_eq_true_iff,e] at h2
    rw [if_pos (by omega)]
   ·rw [Bool.or_eq_false_iff,decide_eq_false_iff_not,decide_eq_false_iff_not,e] at h2
    rw [if_neg (by omega)]
    refine T.br (λh3=>T.some ?_) λh3=>?_
    ·have h3:=zOT h3
     rw [e,zLc] at h3
     rw [if_pos (by omega)]
    ·have h3:=zOF h3
     rw [e,zLc] at h3
     rw [if_neg (by omega)]
     refine T.ck (by rw [e];omega) (T.asd (by rw [e,zLc];omega) ?_)
     have es:(((y :: r).take ((1:Int) + ((y &&& ~~~(128:UInt8)).toNat:Int)).toNat).drop (1:Int).toNat)=r.take (y.toNat - 128):=by
      rw [e,show ((1:Int) + ((y.toNat - 128:Nat):Int)).toNat=(y.toNat - 128) + 1 by omega,List.take_succ_cons,show (1:Int).toNat=1 from rfl,List.drop_succ_cons,List.drop_zero]
     rw [es]
     have e1:(128:UInt64).toNat=128:=rfl
     have e2:(2147483647:UInt64).toNat=2147483647:=rfl
     generalize hu:zmU (r.take (y.toNat - 128))=u
     refine T.eq (y:=u) (by rw [unsC,hu]) (T.or' (T.or' (T.br (λh4=>T.some ?_) λh4=>?_)))
     ·rw [Bool.or_eq_true,Bool.or_eq_true,decide_eq_true_iff,decide_eq_true_iff] at h4
      rw [if_pos]
      rcases h4 with (h4 | h4) | h4
      ·exact .inl (by simpa using h4)
      ·exact .inr (.inl h4)
      ·exact .inr (.inr h4)
     ·rw [Bool.or_eq_false_iff,Bool.or_eq_false_iff,decide_eq_false_iff_not,decide_eq_false_iff_not] at h4
      have h5:=zqN h4.2
      rw [if_neg]
      ·exact T.ck (by omega) (T.ck (by rw [e];omega) (T.some (by rw [e])))
      ·rintro (h6 | h6 | h6)
       ·have:=h4.1.1;exact h6 (by simpa using this)
       ·exact h4.1.2 h6
       ·exact h4.2 h6
theorem drop1 (y:UInt8) (r:List UInt8) {n:Int} (h:0 <= n):(((y :: r).take (((y :: r).length:Nat):Int).toNat).drop ((1:Int) + n).toNat)=r.drop n.toNat:=by
 rw [Int.toNat_natCast,List.take_length,show ((1:Int) + n).toNat=n.toNat + 1 by omega,List.drop_succ_cons]
theorem zAU (b:List UInt8) (hl:b.length <= 68719476736):zgJ b=some (zgG b):=by
 refine T.eqs ?_
 unfold zgJ
 cases b with
 | nil=>exact T.br (λ_=>T.some rfl) λh=>by cases h
 | cons y r =>
  rw [zLc] at hl
  refine T.br (λh=>absurd (zOT h) (by rw [zLc];omega)) λ_=>T.eq (zxr y r (by omega)) ?_
  have hn:=zup (y:=y) (r:=r)
  rw [zop]
  generalize zhr y r=n at hn ⊢
  refine T.br (λh=>T.some ?_) λh=>?_
  ·rw [if_pos (by simpa using h)];rfl
  have h:n.2.2=0:=by simpa using h
  have hn:=hn h
  rw [if_neg (λe=>e h)]
  refine T.ck (by omega) (T.asd (by rw [zLc];omega) ?_)
  rw [drop1 y r hn.1]
  have hle:=ztW (l:=r.drop n.2.1.toNat)
  refine T.eq (zxf _ (by rw [zLd];omega)) ?_
  rw [zLd] at hle
  generalize zlo (r.drop n.2.1.toNat)=l at hle ⊢
  refine T.br (λh=>T.some ?_) λh=>?_
  ·rw [if_pos (by simpa using h)];rfl
  have h:l.2.2=0:=by simpa using h
  have hle:=hle h
  rw [if_neg (λe=>e h)]
  exact T.eq (y:=y) rfl (T.asr rfl (T.eq (y:=y) rfl (T.ck (by omega) (T.ck (by omega) (T.some rfl)))))
theorem zxu {b:List UInt8} (h:(zgG b).2.2.2.2=0):0 <= (zgG b).2.2.1/\(zgG b).2.2.1 <= 2147483647/\0 <= (zgG b).2.2.2.1/\(zgG b).2.2.2.1 <= b.length:=by
 cases b with
 | nil=>cases h
 | cons y r =>
  have hn:=zup (y:=y) (r:=r)
  have hle:=ztW (l:=r.drop (zhr y r).2.1.toNat)
  rw [zop] at h ⊢
  split at h
  ·rename_i h1;exact absurd h h1
  ·rename_i h1
   rw [if_neg h1]
   have hn:=hn (Classical.byContradiction λe=>h1 e)
   split at h
   ·rename_i h2;exact absurd h h2
   ·rename_i h2
    rw [if_neg h2]
    have hle:=hle (Classical.byContradiction λe=>h2 e)
    rw [zLd] at hle
    dsimp only
    rw [zLc]
    omega
def zg2 (b:List UInt8):Tag × Bool × List UInt8 × Int × Int:=if (zgG b).2.2.2.2 ≠ 0 then (Tag.mk 0 0,false,[],0,(zgG b).2.2.2.2) else if (b.length:Int) - (zgG b).2.2.2.1 < (zgG b).2.2.1 then (Tag.mk 0 0,false,[],0,3) else
 ((zgG b).1,(zgG b).2.1,(b.take ((zgG b).2.2.2.1 + (zgG b).2.2.1).toNat).drop (zgG b).2.2.2.1.toNat,(zgG b).2.2.2.1 + (zgG b).2.2.1,0)
theorem zAr (b:List UInt8) (hl:b.length <= 68719476736):zk3 b=some (zg2 b):=by
 refine T.eqs ?_
 unfold zk3
 refine T.eq (zAU b hl) ?_
 have hle:=zxu (b:=b)
 unfold zg2
 generalize zgG b=h at hle ⊢
 refine T.jp (λc=>(h.2.2.2.2=0->0 <= h.2.2.1)/\(c=true ↔ (h.2.2.2.2=0/\(b.length:Int) - h.2.2.2.1 < h.2.2.1))) (λJ k=>T.br (λh0=>?_) λh0=>k _ ⟨λe=>absurd e (zOF h0),λh=>(by cases h),λh=>absurd h.1 (zOF h0)⟩) λc hc=>?_
 ·have h0:=zOT h0
  have:=hle h0
  exact T.ck (by omega) (k _ ⟨λ_=>by omega,by rw [decide_eq_true_iff];exact ⟨λh=>⟨h0,h⟩,λh=>h.2⟩⟩)
 refine T.jp (λe=>e=if c=true then 3 else h.2.2.2.2) (λJ k=>T.br (λh1=>k _ (by rw [if_pos h1])) λh1=>k _ (by rw [if_neg (by rw [h1];decide)])) λe he=>?_
 subst he
 by_cases h0:h.2.2.2.2=0
 ·have:=hle h0
  rw [if_neg (λe=>e h0)]
  by_cases h1:(b.length:Int) - h.2.2.2.1 < h.2.2.1
  ·rw [if_pos h1,if_pos (hc.2.2 ⟨h0,h1⟩)]
   exact T.br (λ_=>T.some rfl) λh=>by cases h
  ·rw [if_neg h1,if_neg (λe=>h1 (hc.2.1 e).2),h0]
   refine T.br (λh=>by cases h) λ_=>T.ck (by omega) (T.asd (by omega) (T.ck (by omega) (T.abl (by rw [zLd,zLt];simp only [zLn];omega) (T.some rfl))))
 ·rw [if_pos h0,if_neg (λe=>h0 (hc.2.1 e).1)]
  exact T.br (λ_=>T.some rfl) λh2=>absurd (by simpa using h2) h0
def znx (x:zg):Nat:=if x.kind=7 then lst x x.root.toNat else 0
def frn (t:zab) (x:zg) (b:List UInt8):Bool:=(decide ((zg2 b).2.2.2.2=0) && decide ((zg2 b).2.2.2.1=(b.length:Int))) && !((x.fields.drop (znx x)).any λf=>decide ((zg2 b).1 ∈ zoN t f.ty))
structure TyF (t:zab) (i:Int) (x:zg):Prop where
 i0:0 <= i
 i1:i < t.types.length
 at_:t.types[i.toNat]?=some x
 fl:x.fields.length <= 1000
 ok:zjO x
 kids:∃ j,zaN (zbO 16 t.types) (zhk x) (i.toNat + 1) j/\j <= t.types.length
theorem zsD {t:zab} (ht:zdp t) {i:Int} (h0:0 <= i) (h1:i < t.types.length):∃ x,TyF t i x:=by
 have htl:=ht.types
 obtain ⟨j,hj⟩:=zbO.sub ht.kids i.toNat (by omega) (by omega)
 have hjl:=hj.inb
 obtain ⟨x,hx,hok,hkid⟩:=hj
 exact ⟨x,h0,h1,hx,ziA hkid hjl (by omega),hok,j,hkid,hjl⟩
theorem TyF.get {t:zab} {i:Int} {x:zg} (h:TyF t i x):zs t.types i=some x:=by rw [zcH h.i0 h.i1];exact congrArg some (List.getElem?_eq_some_iff.1 h.at_).2
theorem TyF.beg {t:zab} (ht:zdp t) {i:Int} {x:zg} (h:TyF t i x) {f:zaC} (hf:f ∈ x.fields):(zoN t f.ty).length <= 1000000:=by
 have htl:=ht.types
 obtain ⟨j,hkid,hj⟩:=h.kids
 obtain ⟨c,d,e1,e2,e3,e4⟩:=zaN.mem3 zbO.le' hkid (znL f hf)
 have:=zl2 (e2.ups (h':=17) (by decide))
 unfold zoN
 rw [e1]
 omega
theorem zAC {x:zg} (h:zjO x):znx x <= x.fields.length:=by
 unfold znx
 split
 ·rename_i h7
  have h1:=ztz x x.root.toNat
  have h2:=h.rootF (.inl h7)
  omega
 ·exact zNz _
theorem lastC {x:zg} (h:zjO x) (hfl:x.fields.length <= 1000) (h1:x.root <= x.fields.length):zis x=some ((lst x x.root.toNat:Nat):Int):=by
 have h0:=h.root0
 refine T.eqs ?_
 unfold zis
 have e0:min (max x.root (0:Int)) (x.fields.length:Int)=x.root:=by omega
 rw [e0]
 refine T.lp (λ(k:Int)=>0 <= k/\k <= x.root/\lst x x.root.toNat=lst x k.toNat) (λ(k:Int)=>k.toNat) ⟨h0,zIl _,rfl⟩ (by omega) λL k ⟨k1,k2,k3⟩ hL=>?_
 refine T.jp (λq=>(q=true->0 < k/\lst x k.toNat=lst x (k - 1).toNat)/\(q=false->lst x k.toNat=k.toNat)) (λJ h=>T.br (λhb=>?_) λhb=>h _ ⟨(λh=>by cases h),λ_=>?_⟩) λq hq=>?_
 ·have hb:=zOT hb
  have e:k.toNat=(k - 1).toNat + 1:=by omega
  obtain ⟨f,hf⟩:∃ f,x.fields[(k - 1).toNat]?=some f:=⟨_,List.getElem?_eq_getElem (by omega)⟩
  have hg:=zt8 hf
  have ek:(((k - 1).toNat:Nat):Int)=k - 1:=by omega
  rw [ek] at hg
  refine T.ck (by omega) (T.eq (zmQ (by omega) hf) (h _ ?_))
  rw [e]
  refine ⟨λhy1=>⟨hb,?_⟩,λhy1=>?_⟩
  ·rw [lst,if_pos (by rw [hg,hy1])]
  ·rw [lst,if_neg (by rw [hg,hy1];simp)]
 ·have hb:=zOF hb
  rw [show k.toNat=0 by omega];rfl
 ·refine T.br (λh=>T.ck ?_ (hL _ ?_ ?_)) λh=>T.some ?_
  ·obtain ⟨g1,g2⟩:=hq.1 h;omega
  ·obtain ⟨g1,g2⟩:=hq.1 h;exact ⟨by omega,by omega,k3.trans g2⟩
  ·obtain ⟨g1,g2⟩:=hq.1 h;omega
  ·have:=hq.2 h;rw [k3,this];omega
theorem tagsC (l:List Tag) (v:Tag) (hl:l.length <= 1000000):zbB l v=some (decide (v ∈ l)):=by
 refine T.eqs ?_
 unfold zbB
 refine T.cal (Q:=λ(r:Int)=>decide (0 <= r)=decide (v ∈ l)) ?_ λy _ hy=>T.some hy
 unfold zcE
 refine T.lp (λ(q:Int)=>0 <= q/\q <= (l.length:Int)/\v ∉ l.take q.toNat) (λ(q:Int)=>((l.length:Int) - q).toNat) ⟨zIl _,by omega,by simp⟩ (by omega) λL q ⟨q0,q1,q2⟩ hL=>T.br (λhb=>?_) λhb=>T.some ?_
 ·have hb:=zOT hb
  refine T.get q0 hb λy hy=>T.br (λh=>T.some ?_) λh=>T.ck (by omega) (hL _ ⟨by omega,by omega,?_⟩ (by omega))
  ·rw [zDT q0,zDT]
   rw [zOT h];exact List.mem_of_getElem? hy
  ·rw [show (q + 1).toNat=q.toNat + 1 by omega,List.take_add_one,hy]
   intro hm
   rcases List.mem_append.1 hm with hm | hm
   ·exact q2 hm
   ·exact zOF h (zMo.1 hm)
 ·have hb:=zOF hb
  rw [zTl (by omega)] at q2
  rw [zDF q2];rfl
theorem zsg {t:zab} (ht:zdp t) {β:Bool} {i:Int} {x:zg} (h:TyF t i x) (b:List UInt8) (hb:b.length <= 68719476736):T (λr=>r.2.1=frn t x b/\r.2.2=zf1 t β/\(r.2.1=true->r.1=(zg2 b).1)) (zcG (zf1 t β) i b):=by
 unfold zcG
 have hle:=zAC h.ok
 have hfl:=h.fl
 refine T.eq (zAr b hb) (T.or' (T.br (λh1=>T.some ⟨?_,rfl,λh=>by cases h⟩) λh1=>T.eq h.get ?_))
 ·unfold frn
  rw [Bool.or_eq_true] at h1
  rcases h1 with h1 | h1
  ·rw [zDF (show ¬ (zg2 b).2.2.2.2=0 by simpa using h1)];rfl
  ·rw [zDF (show ¬ (zg2 b).2.2.2.1=(b.length:Int) by simpa using h1),Bool.and_false];rfl
 rw [Bool.or_eq_false_iff] at h1
 have e1:decide ((zg2 b).2.2.2.2=0)=true:=by simpa using h1.1
 have e2:decide ((zg2 b).2.2.2.1=(b.length:Int))=true:=by simpa using h1.2
 unfold frn
 rw [e1,e2,Bool.true_and,Bool.true_and]
 refine T.jp (ι:=Int) (λk=>k=(znx x:Int)) (λJ kk=>T.br (λh7=>?_) λh7=>kk _ ?_) λk hk=>?_
 ·have h7:=zOT h7
  refine T.eq (lastC h.ok h.fl (h.ok.rootF (.inl h7))) (kk _ ?_)
  unfold znx;rw [if_pos h7]
 ·unfold znx;rw [if_neg (zOF h7)];rfl
 subst hk
 refine T.asd (by omega) ?_
 have hdr:((x.fields.take ((x.fields.length:Nat):Int).toNat).drop ((znx x:Nat):Int).toNat)=x.fields.drop (znx x):=by rw [Int.toNat_natCast,Int.toNat_natCast,List.take_length]
 rw [hdr]
 refine T.cal (Q:=λ(r:Bool × zt)=>r=((x.fields.drop (znx x)).any (λf=>decide ((zg2 b).1 ∈ zoN t f.ty)),zf1 t β)) ?_ λy _ hy=>T.some (by rw [hy];exact ⟨rfl,rfl,λ_=>rfl⟩)
 unfold zbo
 have hmem:∀ f ∈ x.fields.drop (znx x),f ∈ x.fields:=λf hf=>List.mem_of_mem_drop hf
 have hll:(x.fields.drop (znx x)).length <= 1000:=by rw [zLd];omega
 generalize x.fields.drop (znx x)=fs at hmem hll
 refine T.cal (Q:=λ(r:Int × zt)=>r.2=zf1 t β/\decide (0 <= r.1)=fs.any (λf=>decide ((zg2 b).1 ∈ zoN t f.ty))) ?_ λy _ hy=>T.some (by rw [<- hy.1,<- hy.2])
 unfold zbK
 refine T.lp (ι:=Int × zt) (λq=>0 <= q.1/\q.1 <= (fs.length:Int)/\q.2=zf1 t β/\(fs.drop q.1.toNat).any (λf=>decide ((zg2 b).1 ∈ zoN t f.ty))=fs.any (λf=>decide ((zg2 b).1 ∈ zoN t f.ty))) (λq=>((fs.length:Int) - q.1).toNat) ⟨zIl _,by dsimp only;omega,rfl,rfl⟩ (by dsimp only;omega) λL q ⟨q0,q1,qc,q2⟩ hL=>?_
 obtain ⟨q,c⟩:=q
 dsimp only at q0 q1 qc q2 hL ⊢
 subst qc
 refine T.br (λhc=>T.get q0 (zOT hc) λf hf=>?_) λhc=>T.some ⟨rfl,?_⟩
 ·have hc:=zOT hc
  have hd:fs.drop q.toNat=f :: fs.drop (q + 1).toNat:=by
   obtain ⟨g1,g2⟩:=List.getElem?_eq_some_iff.1 hf
   rw [List.drop_eq_getElem_cons g1,g2,show (q + 1).toNat=q.toNat + 1 by omega]
  rw [hd,List.any_cons] at q2
  refine T.eq (y:=(decide ((zg2 b).1 ∈ zoN t f.ty),zf1 t β)) ?_ (T.br (λh2=>T.some ⟨rfl,?_⟩) λh2=>T.ck (by omega) (hL _ ⟨by dsimp only;omega,by dsimp only;omega,rfl,?_⟩ (by dsimp only;omega)))
  ·refine T.eqs ?_
   unfold zds
   exact T.eq (ztb ht f.ty) (T.eq (tagsC _ _ (h.beg ht (hmem f (List.mem_of_getElem? hf)))) (T.some rfl))
  ·dsimp only at h2
   rw [<- q2,h2,zDT q0];rfl
  ·dsimp only at h2 ⊢
   rw [<- q2,h2,Bool.false_or]
 ·have hc:=zOF hc
  rw [zDn (by omega)] at q2
  rw [<- q2];rfl
/-! ### What nobody knows -/
def ztl (b:List UInt8):Bool:=decide (0 < b.length) && decide (b.length <= 70000)
theorem zrT (b:List UInt8):zhc b=some (ztl b):=by
 refine T.eqs ?_
 unfold zhc ztl
 refine T.and' (T.some ?_)
 rw [Bool.eq_iff_iff];simp only [zBa,decide_eq_true_eq];omega
def hasI (x:zg) (n:Int):Bool:=x.items.any λit=>decide (it.number=n)
theorem zvQ (x:zg) (n:Int) (hl:x.items.length <= 1000000):T (λ(r:Int)=>decide (r < 0)=!hasI x n) (zdk x n):=by
 unfold zdk hasI
 refine T.cal (Q:=λ(r:Int)=>decide (r < 0)=!(x.items.any λit=>decide (it.number=n))) ?_ λy _ hy=>T.some hy
 unfold zaM
 refine T.lp (ι:=Int) (λ(q:Int)=>0 <= q/\q <= (x.items.length:Int)/\((x.items.drop q.toNat).any λit=>decide (it.number=n))=(x.items.any λit=>decide (it.number=n))) (λ(q:Int)=>((x.items.length:Int) - q).toNat) ⟨zIl _,by omega,rfl⟩ (by omega) λL q ⟨q1,q2,q3⟩ hL=>T.br (λh=>T.get q1 (zOT h) λy hy=>?_) λh=>T.some ?_
 ·have h:=zOT h
  have hd:x.items.drop q.toNat=y :: x.items.drop (q + 1).toNat:=by
   obtain ⟨g1,g2⟩:=List.getElem?_eq_some_iff.1 hy
   rw [List.drop_eq_getElem_cons g1,g2,show (q + 1).toNat=q.toNat + 1 by omega]
  rw [hd,List.any_cons] at q3
  refine T.eq (y:=decide (y.number=n)) rfl (T.br (λh2=>T.some ?_) λh2=>T.ck (by omega) (hL _ ⟨by omega,by omega,?_⟩ (by omega)))
  ·rw [<- q3,h2,zDF (by omega)];rfl
  ·rw [<- q3,h2,Bool.false_or]
 ·have h:=zOF h
  rw [zDn (by omega)] at q3
  rw [<- q3];rfl
def unkP (t:zab) (x:zg) (v:Val):Bool :=
  (x.more && (decide (x.kind=9) || decide (x.kind=3)) && decide (v.l.length=0) && decide (v.more.length=0)) &&
  (if v.rule=1 then (if x.kind=9 then frn t x v.b && decide (v.n=0) else decide (v.b.length=0) && !hasI x v.n)
   else if v.rule=2 then (decide ((x.items.length:Int) + x.fields.length - x.root <= v.n) && decide (v.n < 1000)) && (if x.kind=9 then ztl v.b else decide (v.b.length=0)) else false)
theorem unkC {t:zab} (ht:zdp t) {i:Int} {x:zg} (h:TyF t i x) {v:Val} (hf:zcA v):zcI (zf1 t false) i v=some (unkP t x v,zf1 t false):=by
 refine T.eqs ?_
 unfold zcI
 have hok:=h.ok
 have hil:=hok.ilen
 have hr0:=hok.root0
 have hfl:=h.fl
 have hvl:=hf.l
 have hvm:=hf.more
 refine T.eq h.get ?_
 refine T.orJ (d:=!decide (x.kind=9) && !decide (x.kind=3)) (λJ k=>T.and' k) ?_
 refine T.orJ (d:=decide ((0:Int) < (v.l.length:Int) + (v.more.length:Int))) (λJ k=>T.ck (by omega) k) (T.br (λh1=>T.some ?_) λh1=>?_)
 ·unfold unkP
  have:(x.more && (decide (x.kind=9) || decide (x.kind=3)) && decide (v.l.length=0) && decide (v.more.length=0))=false:=by
   rw [Bool.eq_false_iff]
   intro h2
   simp only [zBa,Bool.or_eq_true,decide_eq_true_eq] at h2
   rw [h2.1.1.1,zDF (show ¬ (0:Int) < (v.l.length:Int) + (v.more.length:Int) by omega)] at h1
   rcases h2.1.1.2 with h3 | h3
   ·rw [zDT h3] at h1;simp at h1
   ·rw [zDT h3] at h1;simp at h1
  rw [this];rfl
 have g:(x.more && (decide (x.kind=9) || decide (x.kind=3)) && decide (v.l.length=0) && decide (v.more.length=0))=true:=by
  rw [Bool.or_eq_false_iff,Bool.or_eq_false_iff] at h1
  have a1:x.more=true:=by simpa using h1.1.1
  have a2:=h1.1.2
  have a3:=zOF h1.2
  rw [a1,zDT (show v.l.length=0 by omega),zDT (show v.more.length=0 by omega)]
  cases e9:decide (x.kind=9) <;> cases e3:decide (x.kind=3) <;> rw [e9,e3] at a2 <;> first | rfl | cases a2
 unfold unkP
 rw [g,Bool.true_and]
 simp only [zBa,Bool.or_eq_true,decide_eq_true_eq] at g
 have hr:x.root <= 1000000:=by
  rcases g.1.1.2 with h9 | h3
  ·have:=hok.rootF (.inr (.inr h9));omega
  ·have:=hok.rootI h3;omega
 refine T.br (λh=>by cases h) λ_=>T.ck (by omega) (T.ck (by omega) (T.and' (T.br (λh1=>?_) λh1=>?_)))
 ·rw [zBa] at h1
  rw [if_pos (zOT h1.1),if_pos (zOT h1.2)]
  exact T.cal (zsg ht h v.b hf.b) λy _ hy=>T.and' (T.some (by rw [hy.1,hy.2.1]))
 refine T.br (λh2=>?_) λh2=>?_
 ·have h2:=zOT h2
  rw [zDT h2,Bool.true_and] at h1
  rw [if_pos h2,if_neg (zOF h1)]
  have e:decide ((v.b.length:Int)=0)=decide (v.b.length=0):=decide_eq_decide.2 (by omega)
  rw [e]
  refine T.jp (λc=>c=(decide (v.b.length=0) && !hasI x v.n)) (λJ k=>T.br (λh3=>T.cal (zvQ x v.n (by omega)) λy _ hy=>k _ (by rw [h3,hy];rfl)) λh3=>k _ (by rw [h3];rfl)) λc hc=>T.some (by rw [hc])
 ·have h2:=zOF h2
  rw [if_neg h2]
  refine T.or' (T.or' (T.br (λh3=>T.some ?_) λh3=>?_))
  ·rw [Bool.or_eq_true,Bool.or_eq_true] at h3
   rcases h3 with (h3 | h3) | h3
   ·rw [if_neg (show ¬ v.rule=2 by simpa using h3)]
   ·split
    ·rw [zDF (by have:=zOT h3;omega)];rfl
    ·rfl
   ·split
    ·rw [zDF (show ¬ v.n < 1000 by have:=zOT h3;omega),Bool.and_false];rfl
    ·rfl
  ·rw [Bool.or_eq_false_iff,Bool.or_eq_false_iff] at h3
   have e2:v.rule=2:=by simpa using h3.1.1
   have a1:=zOF h3.1.2
   have a2:=zOF h3.2
   rw [if_pos e2,zDT (show (x.items.length:Int) + x.fields.length - x.root <= v.n by omega),zDT (show v.n < 1000 by omega),Bool.true_and,Bool.true_and]
   refine T.br (λh9=>T.eq (zrT _) (T.some (by rw [if_pos (zOT h9)]))) λh9=>T.some ?_
   have e:decide ((v.b.length:Int)=0)=decide (v.b.length=0):=decide_eq_decide.2 (by omega)
   rw [if_neg (zOF h9),e]
/-! ### What is more -/
def zkT:Int->List Raw->Bool
 | _,[]=>true
 | l,r :: rs=>(decide (l <= r.n) && decide (r.n < 1000) && ztl r.b) && zkT (r.n + 1) rs
def zlw (t:zab) (x:zg):Bool->Tag->List Raw->Bool
 | _,_,[]=>true
 | f,g,r :: rs=>(frn t x r.b && decide (r.n=0) && !(decide (x.kind=8) && !f && !zpP g (zg2 r.b).1)) && zlw t x false (zg2 r.b).1 rs
def rwP (t:zab) (i:Int) (x:zg) (v:Val):Bool:=if v.more=[] then decide (v.rule=0) else if x.more=false \/ (v.rule ≠ 1/\v.rule ≠ 2) then false else
 if v.rule=2 then zkT ((zfk t i).length:Int) v.more else zlw t x true Tag.zero v.more
theorem zsH {t:zab} {i:Int} {x:zg} (h:TyF t i x):(zfk t i).length <= 1000:=by
 have hfl:=h.fl
 unfold zfk
 rw [if_pos h.i0,h.at_]
 dsimp only
 split
 ·have:=zli h.ok.root0;omega
 ·exact zNz _
theorem zxF {l:List Raw} {q:Int} {r:Raw} (hr:l[q.toNat]?=some r) (q0:0 <= q):l.drop q.toNat=r :: l.drop (q + 1).toNat:=by
 obtain ⟨g1,g2⟩:=List.getElem?_eq_some_iff.1 hr
 rw [List.drop_eq_getElem_cons g1,g2,show (q + 1).toNat=q.toNat + 1 by omega]
theorem zAd {x:zg} {v:Val}:((!x.more) || ((!decide (v.rule=1)) && !decide (v.rule=2)))=decide (x.more=false \/ (v.rule ≠ 1/\v.rule ≠ 2)):=by
 cases x.more <;> by_cases h1:v.rule=1 <;> by_cases h2:v.rule=2 <;> simp [h1,h2]
theorem rawsC {t:zab} (ht:zdp t) {β:Bool} {i:Int} {x:zg} (h:TyF t i x) {v:Val} (hf:zcA v):zcQ (zf1 t β) i v=some (rwP t i x v,zf1 t β):=by
 refine T.eqs ?_
 unfold zcQ rwP
 have hml:=hf.more
 have hsl:=zsH h
 refine T.eq h.get (T.br (λh0=>T.some ?_) λh0=>?_)
 ·rw [if_pos (List.length_eq_zero_iff.1 (by have:=zOT h0;omega))]
 have hne:v.more ≠ []:=λe=>zOF h0 (by rw [e];rfl)
 rw [if_neg hne]
 refine T.orJ (d:=!decide (v.rule=1) && !decide (v.rule=2)) (λJ k=>T.and' k) ?_
 rw [zAd]
 refine T.br (λh1=>T.some (by rw [if_pos (zOT h1)])) λh1=>?_
 rw [if_neg (zOF h1)]
 generalize hRR:(if v.rule=2 then zkT ((zfk t i).length:Int) v.more else zlw t x true Tag.zero v.more)=RR
 refine T.eq (znc ht i) ?_
 refine T.lp (ι:=Int × Int × Tag × zt) (λq=>0 <= q.2.1/\q.2.1 <= (v.more.length:Int)/\q.2.2.2=zf1 t β/\(v.rule=2->0 <= q.1/\zkT q.1 (v.more.drop q.2.1.toNat)=zkT ((zfk t i).length:Int) v.more) /\
  (v.rule ≠ 2->zlw t x (decide (q.2.1=0)) q.2.2.1 (v.more.drop q.2.1.toNat)=zlw t x true Tag.zero v.more)) (λq=>((v.more.length:Int) - q.2.1).toNat) ⟨zIl _,by dsimp only;omega,rfl,λ_=>⟨Int.natCast_nonneg _,rfl⟩,λ_=>rfl⟩ (by dsimp only;omega) λL q ⟨q1,q2,qc,q3,q4⟩ hL=>?_
 obtain ⟨l,k,g,c⟩:=q
 dsimp only at q1 q2 qc q3 q4 hL ⊢
 subst qc
 refine T.br (λhc=>?_) λhc=>T.some ?_
 ·have hc:=zOT hc
  obtain ⟨r,hr⟩:∃ r,v.more[k.toNat]?=some r:=⟨_,List.getElem?_eq_getElem (by omega)⟩
  have hrb:=hf.raw r (List.mem_of_getElem? hr)
  have hd:=zxF hr q1
  rw [hd] at q3 q4
  refine T.jp (ι:=Int × Tag × zt) (λz=>z.2.2=zf1 t β/\(v.rule=2->0 <= z.1/\zkT z.1 (v.more.drop (k + 1).toNat)=zkT ((zfk t i).length:Int) v.more)/\(v.rule ≠ 2->zlw t x false z.2.1 (v.more.drop (k + 1).toNat)=zlw t x true Tag.zero v.more)) (λJ kk=>T.get q1 hc λy hy=>?_) λz hg=>T.ck (by omega) (hL _ ⟨by dsimp only;omega,by dsimp only;omega,hg.1,hg.2.1,λh2=>?_⟩ (by dsimp only;omega))
  ·rw [hr] at hy;cases hy
   refine T.br (λh2=>?_) λh2=>?_
   ·have h2:=zOT h2
    obtain ⟨l0,l3⟩:=q3 h2
    have hRR2:zkT ((zfk t i).length:Int) v.more=RR:=by rw [<- hRR,if_pos h2]
    refine T.or' (T.orJ (d:=!ztl r.b) (λJ3 k3=>T.eq (zrT _) k3) (T.br (λh5=>T.some ?_) λh5=>?_))
    ·rw [<- hRR2,<- l3]
     unfold zkT
     rw [Bool.or_eq_true,Bool.or_eq_true] at h5
     have:(decide (l <= r.n) && decide (r.n < 1000) && ztl r.b)=false:=by
      rcases h5 with (h5 | h5) | h5
      ·rw [zDF (by have:=zOT h5;omega)];rfl
      ·rw [zDF (show ¬ r.n < 1000 by have:=zOT h5;omega),Bool.and_false];rfl
      ·rw [show ztl r.b=false by simpa using h5,Bool.and_false]
     rw [this];rfl
    ·rw [Bool.or_eq_false_iff,Bool.or_eq_false_iff] at h5
     have a1:=zOF h5.1.1
     have a2:=zOF h5.1.2
     refine T.ck (by omega) (kk _ ⟨rfl,λ_=>⟨by dsimp only;omega,?_⟩,λe=>absurd h2 e⟩)
     show zkT (r.n + 1) _=_
     rw [<- l3]
     conv=>rhs;unfold zkT
     rw [zDT (show l <= r.n by omega),zDT (show r.n < 1000 by omega),nt h5.2];rfl
   ·have h2:=zOF h2
    have hRR1:zlw t x true Tag.zero v.more=RR:=by rw [<- hRR,if_neg h2]
    have l3:=q4 h2
    refine T.cal (zsg ht h _ hrb) λy _ hy=>T.or' ?_
    refine T.orJ (d:=decide (x.kind=8) && decide (0 < k) && !zpP g y.1) (λJ3 k3=>T.and' (T.andJ (d:=!zpP g y.1) (λJ4 k4=>T.eq (zzH _ _) k4) k3)) (T.br (λh5=>T.some ?_) λh5=>kk _ ⟨hy.2.1,λe=>absurd e h2,λ_=>?_⟩)
    ·rw [hy.2.1,<- hRR1,<- l3]
     unfold zlw
     have:(frn t x r.b && decide (r.n=0) && !(decide (x.kind=8) && !decide (k=0) && !zpP g (zg2 r.b).1))=false:=by
      rw [<- hy.1]
      cases hy2:y.2.1 with
      | false=>rfl
      | true =>
       rw [hy2,Bool.not_true,Bool.false_or,hy.2.2 hy2] at h5
       rw [show decide (k=0)=!decide (0 < k) by by_cases h0:k=0 <;> simp [h0] <;> omega,Bool.not_not]
       cases hn:decide (r.n=0) with
       | false=>rfl
       | true=>rw [hn,Bool.not_true,Bool.false_or] at h5;rw [h5];rfl
     rw [this];rfl
    ·dsimp only
     rw [<- l3]
     conv=>rhs;unfold zlw
     rw [Bool.or_eq_false_iff,Bool.or_eq_false_iff] at h5
     have hy2:=nt h5.1.1
     have e1:=h5.2
     rw [hy.2.2 hy2] at e1 ⊢
     rw [<- hy.1,hy2,nt h5.1.2,show decide (k=0)=!decide (0 < k) by by_cases h0:k=0 <;> simp [h0] <;> omega,Bool.not_not,e1];rfl
  ·dsimp only
   rw [zDF (show ¬ k + 1=0 by omega)]
   exact hg.2.2 h2
 ·have hc:=zOF hc
  rw [zDn (by omega)] at q3 q4
  by_cases h2:v.rule=2
  ·rw [<- hRR,if_pos h2,<- (q3 h2).2];rfl
  ·rw [<- hRR,if_neg h2,<- q4 h2];rfl
section
variable {α β ι:Type}
def Wk (R:β->Prop) (o:Option β):Prop:=∀ r,o=some r->R r
theorem Wk.some {R:β->Prop} {r:β} (h:R r):Wk R (some r):=λ_ e=>by injection e with e;subst e;exact h
theorem Wk.none {R:β->Prop}:Wk R (none:Option β):=λ_ e=>by cases e
theorem Wk.mono {R R':β->Prop} {o:Option β} (h:Wk R o) (k:∀ r,R r->R' r):Wk R' o:=λr e=>k r (h r e)
theorem Wk.cal {Q:α->Prop} {R:β->Prop} {m:Option α} {k:α->Option β} (h:Wk Q m) (hk:∀ y,Q y->Wk R (k y)):Wk R (Sy.cal m k):=λr e=>by
 cases hm:m with
 | none=>rw [hm] at e;cases e
 | some y=>rw [hm] at e;exact hk y (h y hm) r e
theorem Wk.cal0 {R:β->Prop} {m:Option α} {k:α->Option β} (hk:∀ y,m=Option.some y->Wk R (k y)):Wk R (Sy.cal m k):=Wk.cal (Q:=λy=>m=Option.some y) (λ_ e=>e) hk
theorem Wk.ck {R:β->Prop} {x:Int} {k:Option β} (h:Wk R k):Wk R (Sy.ck x k):=λr e=>zfw e λ_ e=>h r e
theorem Wk.asr {R:β->Prop} {b:Bool} {k:Option β} (h:b=true->Wk R k):Wk R (Sy.asr b k):=λr e=>by
 cases b with
 | false=>cases e
 | true=>exact h rfl r e
theorem Wk.br {R:β->Prop} {b:Bool} {t e:Option β} (ht:b=true->Wk R t) (he:b=false->Wk R e):Wk R (Sy.br b t e):=by
 cases b with
 | false=>exact he rfl
 | true=>exact ht rfl
theorem Wk.jp (Q:ι->Prop) {R:β->Prop} {B:(ι->Option β)->Option β} {K:ι->Option β} (hB:∀ J,(∀ i,Q i->Wk R (J i))->Wk R (B J)) (hK:∀ i,Q i->Wk R (K i)):Wk R (Sy.jp B K):=hB K hK
theorem Wk.lp (I:ι->Prop) {R:β->Prop} {F:(ι->Option β)->ι->Option β} {i0:ι} (h0:I i0) (h:∀ (L:ι->Option β) i,I i->(∀ j,I j->Wk R (L j))->Wk R (F L i)):Wk R (Sy.lp F i0):=by
 have key:∀ n i,I i->Wk R (lpN F n i):=by
  intro n
  induction n with
  | zero=>intro i _ r e;cases e
  | succ n ih=>intro i hi;exact h _ i hi ih
 exact key _ _ h0
theorem zfT {l:List α} {i:Int} {y:α} (h:zs l i=Option.some y):y ∈ l/\0 <= i/\l[i.toNat]?=Option.some y:=by
 unfold zs at h
 cases i with
 | ofNat n=>exact ⟨List.mem_of_getElem? h,Int.natCast_nonneg n,h⟩
 | negSucc n=>cases h
end

/-! ### Signs of names -/
theorem zua:∀ b:List UInt8,zjC (b.take (nm b)) (hd (b.drop (nm b)))=true
 | []=>rfl
 | c :: r=>by
  rw [zny]
  cases h:zcn c r with
  | false=>rfl
  | true =>
   have ih:=zua r
   rw [zCt,List.take_succ_cons,List.drop_succ_cons]
   show (zcn c (r.take (nm r) ++ [hd (r.drop (nm r))]) && zjC (r.take (nm r)) (hd (r.drop (nm r))))=true
   rw [ih,Bool.and_true,<- h]
   refine zm8 ?_
   rw [<- zwz,List.take_append_drop]
theorem zvG {b t r:List UInt8} (h:zfO b=some (2,t,r)):zko t=true:=by
 unfold zfO at h
 simp only at h
 cases h1:zaF (hd b) with
 | false =>
  rw [h1,zCf] at h
  exfalso
  cases h2:(zaq (hd b) || (decide (hd b=45) && zaq (hd (b.drop 1)))) with
  | true =>
   rw [h2,zCt] at h
   cases hn:zd4 b with
   | none=>rw [hn] at h;cases h
   | some n=>rw [hn] at h;injection h with h;injection h with h3 h;cases h3
  | false =>
   rw [h2,zCf] at h
   cases h3:decide (hd b=39) with
   | true =>
    rw [h3,zCt] at h
    cases h4:zdS (b.drop 1) with
    | true=>rw [h4] at h;cases h
    | false=>rw [h4,zCf] at h;injection h with h;injection h with h5 h;cases h5
   | false =>
    rw [h3,zCf] at h
    cases h4:decide (hd b=34) with
    | true =>
     rw [h4,zCt] at h
     cases hq:qd false (b.drop 1) [] with
     | none=>rw [hq] at h;cases h
     | some q=>obtain ⟨t',r'⟩:=q;rw [hq] at h;injection h with h;injection h with h5 h;cases h5
    | false =>
     rw [h4,zCf] at h
     cases h5:decide (0 < sg b) with
     | false=>rw [h5] at h;cases h
     | true=>rw [h5,zCt] at h;injection h with h;injection h with h6 h;cases h6
 | true =>
  rw [h1,zCt] at h
  cases h2:zgK b with
  | true=>rw [h2] at h;cases h
  | false =>
   rw [h2,zCf] at h
   injection h with h;injection h with h3 h;injection h with h4 h5
   subst h4
   unfold zgK at h2
   rw [Bool.or_eq_false_iff] at h2
   have hlast:=zOF h2.1
   have hlen:=zOF h2.2
   have hh:hd (b.take (nm b))=hd b:=by
    cases b with
    | nil=>rfl
    | cons c r =>
     have:zcn c r=true:=by
      unfold zcn
      have h1:zaF c=true:=h1
      rw [h1];rfl
     rw [zny,this];rfl
   unfold zko znm
   rw [hh,h1,zDF hlast,<- zlh (d:=hd (b.drop (nm b))) hlast,zua,h3,zDT (show (b.take (nm b)).length <= 60 by rw [zLt];omega)]
   rfl
def NmT (l:List zU):Prop:=∀ t ∈ l,t.kind=2->zko t.text.b=true
theorem zrd (n:Nat):∀ (f:Nat) (b:List UInt8) (acc:List zU),NmT acc->NmT (ziH n f b acc).1
 | 0,b,acc,h=>λt ht=>by cases ht
 | f + 1,b,acc,h=>by
  rw [zf5]
  cases hwh:wh .out b with
  | nil =>
   intro t ht hk
   rcases List.mem_append.1 ht with h1 | h1
   ·exact h t h1 hk
   ·rw [zMo.1 h1] at hk;cases hk
  | cons c r =>
   simp only
   cases ho:zfO (c :: r) with
   | none=>intro t ht;cases ht
   | some q =>
    obtain ⟨k,t,r'⟩:=q
    simp only
    refine zrd n f r' _ λy hy hk=>?_
    rcases List.mem_append.1 hy with h1 | h1
    ·exact h y h1 hk
    ·rw [zMo.1 h1] at hk ⊢
     have hk:k=2:=hk
     subst hk
     exact zvG ho
theorem zy9 (b:List UInt8):NmT (toks b).1:=by
 unfold toks
 cases decide (8000 < b.length) with
 | true=>intro t ht;cases ht
 | false=>rw [zCf];exact zrd _ _ _ _ λt ht=>by cases ht

/-! ### The parser's small functions -/
structure SmP (x y:zz):Prop where
 l:y.l=x.l
 m:y.m=x.m
 e:y.e=0->x.e=0
theorem SmP.refl (x:zz):SmP x x:=⟨rfl,rfl,id⟩
theorem SmP.trans {x y z:zz} (h:SmP x y) (k:SmP y z):SmP x z:=⟨k.l.trans h.l,k.m.trans h.m,λe=>h.e (k.e e)⟩
theorem zkt (x:zz):Wk (λr=>r.2=x/\r.1 ∈ x.l) (zaG x):=by
 unfold zaG
 exact Wk.cal0 λy hy=>Wk.some ⟨rfl,(zfT hy).1⟩
theorem zj1 (x:zz) (e:Int) (t:zU):Wk (λr=>SmP x r/\(e ≠ 0->r.e ≠ 0)) (za4 x e t):=by
 unfold za4
 exact Wk.br (λh=>Wk.some ⟨⟨rfl,rfl,λ_=>zOT h⟩,id⟩) λh=>Wk.some ⟨.refl x,λ_=>zOF h⟩
theorem zlP (x:zz):Wk (λr=>SmP x r.2/\r.1 ∈ x.l/\zs x.l x.at_=some r.1) (zbx x):=by
 unfold zbx
 refine Wk.cal0 λy hy=>Wk.ck (Wk.jp (λq=>SmP x q) (λJ k=>Wk.br (λ_=>Wk.ck (k _ ⟨rfl,rfl,id⟩)) λ_=>k _ (.refl x)) λq hq=>Wk.some ⟨hq,(zfT hy).1,hy⟩)
theorem zox (x:zz) (k:Int):Wk (λr=>SmP x r.2/\(r.2.e=0->∃ t ∈ x.l,t.kind=k/\r.1=t.text)) (zbw x k):=by
 unfold zbw zaG
 refine Wk.cal (Q:=λr=>r.2=x/\zs x.l x.at_=some r.1) (Wk.cal0 λy hy=>Wk.some ⟨rfl,hy⟩) λ⟨t,x'⟩ ⟨hx,ht⟩=>?_
 dsimp only at hx ht ⊢
 subst hx
 refine Wk.jp (λb=>b=false->t.kind=k) (λJ h=>Wk.br (λ_=>h _ λh=>by cases h) λ_=>h _ λh=>by simpa using h) λb hb=>Wk.br (λ_=>?_) λh=>?_
 ·exact Wk.cal (zj1 _ _ _) λy hy=>Wk.some ⟨hy.1,λe=>absurd e (hy.2 (by decide))⟩
 ·refine Wk.cal (zlP _) λy hy=>Wk.some ⟨hy.1,λ_=>⟨t,(zfT ht).1,hb h,?_⟩⟩
  have:=hy.2.2
  rw [ht] at this
  injection this with this
  rw [this]
theorem ze9 (x:zz) (s:Str):Wk (λr=>SmP x r.2) (zE x s):=by
 unfold zE
 refine Wk.cal (zkt x) λ⟨t,x'⟩ ⟨hx,_⟩=>?_
 dsimp only at hx ⊢
 subst hx
 refine Wk.jp (λ_=>True) (λJ k=>Wk.br (λ_=>Wk.jp (λ_=>True) (λJ2 k2=>Wk.br (λ_=>k2 _ trivial) λ_=>k2 _ trivial) λ_ _=>k _ trivial) λ_=>k _ trivial) λb _=>Wk.jp (λ_=>True) (λJ k=>Wk.br (λ_=>k _ trivial) λ_=>k _ trivial) λb _=>Wk.br (λ_=>Wk.cal (zlP _) λy hy=>Wk.some hy.1) λ_=>Wk.some (.refl _)
theorem zd6 (x:zz) (s:Str):Wk (λr=>SmP x r) (zP x s):=by
 unfold zP
 refine Wk.jp (λq=>SmP x q.2) (λJ k=>Wk.br (λ_=>Wk.cal (ze9 x s) λy hy=>k _ hy) λ_=>k _ (.refl x)) λq hq=>Wk.br (λ_=>?_) λ_=>Wk.some hq
 exact Wk.cal (zkt _) λy hy=>Wk.cal (zj1 _ _ _) λz hz=>Wk.some (hq.trans (hy.1 ▸ hz.1))
theorem zl5 (x:zz):Wk (λr=>SmP x r.2) (zb1 x):=by
 unfold zb1
 exact Wk.cal (zox x 3) λy hy=>Wk.br (λ_=>Wk.some hy.1) λ_=>Wk.cal0 λz _=>Wk.some hy.1
theorem zsl (x:zz):Wk (λr=>SmP x r.2) (zcD x):=by
 unfold zcD
 refine Wk.cal (ze9 x _) λy hy=>Wk.jp (λq=>SmP x q.1) (λJ k=>Wk.br (λ_=>Wk.cal (zl5 _) λz hz=>k _ (hy.trans hz)) λ_=>k _ hy) λq hq=>?_
 refine Wk.jp (λq=>SmP x q.1) (λJ k=>Wk.cal (ze9 _ _) λz hz=>Wk.br (λ_=>Wk.cal (ze9 _ _) λu hu=>Wk.br (λ_=>Wk.cal (zl5 _) λw hw=>k _ (((hq.trans hz).trans hu).trans hw)) λ_=>k _ ((hq.trans hz).trans hu)) λ_=>Wk.br (λ_=>k _ (hq.trans hz)) λ_=>k _ (hq.trans hz)) λq2 hq2=>?_
 exact Wk.cal (ze9 _ _) λz hz=>Wk.jp (λq=>SmP x q.1) (λJ k=>Wk.br (λ_=>Wk.cal (zd6 _ _) λu hu=>k _ ((hq2.trans hz).trans hu)) λ_=>k _ (hq2.trans hz)) λq3 hq3=>Wk.some hq3
theorem zsL (x:zz):Wk (λr=>SmP x r.2) (zcM x):=by
 unfold zcM
 exact Wk.cal (ze9 x _) λy hy=>Wk.br (λ_=>Wk.some hy) λ_=>Wk.cal (zd6 _ _) λa ha=>Wk.cal (zd6 _ _) λb hb=>Wk.cal (zsl _) λc hc=>Wk.cal (zd6 _ _) λd hd=>Wk.cal (zd6 _ _) λf hf=>Wk.some (((((hy.trans ha).trans hb).trans hc).trans hd).trans hf)
theorem zyq (x:zz):Wk (λr=>SmP x r.2) (zdj x):=by
 unfold zdj
 refine Wk.cal (zkt x) λ⟨t,x'⟩ ⟨hx,_⟩=>?_
 dsimp only at hx ⊢
 subst hx
 refine Wk.jp (λq=>SmP x' q) (λJ k=>Wk.br (λ_=>k _ (.refl _)) λ_=>?_) λq hq=>Wk.some hq
 refine Wk.cal (ze9 _ _) λa ha=>Wk.br (λ_=>Wk.some ha) λ_=>Wk.cal (ze9 _ _) λb hb=>Wk.br (λ_=>Wk.some (ha.trans hb)) λ_=>Wk.cal (ze9 _ _) λc hc=>Wk.br (λ_=>Wk.some ((ha.trans hb).trans hc)) λ_=>?_
 have h3:=(ha.trans hb).trans hc
 refine Wk.br (λ_=>Wk.cal (zlP _) λd hd=>Wk.cal0 λz _=>Wk.some (h3.trans hd.1)) λ_=>Wk.br (λ_=>Wk.cal (zlP _) λd hd=>Wk.asr λ_=>Wk.some (h3.trans hd.1)) λ_=>Wk.br (λ_=>Wk.cal (zlP _) λd hd=>Wk.cal0 λz _=>Wk.some (h3.trans hd.1)) λ_=>Wk.br (λ_=>Wk.cal (zlP _) λd hd=>Wk.asr λ_=>Wk.some (h3.trans hd.1)) λ_=>?_
 exact Wk.cal (zj1 _ _ _) λd hd=>k _ (h3.trans hd.1)
def FN (l:List zaC):Prop:=∀ f ∈ l,zko f.name.b=true
def IN (l:List zag):Prop:=∀ it ∈ l,zko it.name.b=true
theorem zzp (x:zz) (n:zh) (hx:NmT x.l) (hn:n.items=[]):Wk (λr=>SmP x r.1/\r.2.kind=n.kind/\r.2.fields=n.fields/\(r.1.e=0->IN r.2.items)) (zdn x n):=by
 unfold zdn
 refine Wk.jp (λ(q:zz × zh)=>SmP x q.1/\q.2.kind=n.kind/\q.2.fields=n.fields/\(q.1.e=0->IN q.2.items)) (λJ k=>?_) λq hq=>Wk.br (λ_=>Wk.some hq) λ_=>Wk.some hq
 refine Wk.lp (λ(q:zz × zh)=>SmP x q.1/\q.2.kind=n.kind/\q.2.fields=n.fields/\(q.1.e=0->IN q.2.items)) ⟨.refl x,rfl,rfl,λ_ it hit=>by dsimp only at hit;rw [hn] at hit;cases hit⟩ λL q ⟨h1,h2,h3,h4⟩ hL=>Wk.br (λ_=>?_) λ_=>k _ ⟨h1,h2,h3,h4⟩
 refine Wk.jp (λ_=>True) (λJ2 k2=>Wk.br (λ_=>k2 _ trivial) λ_=>k2 _ trivial) λb _=>?_
 refine Wk.jp (λ(p:Bool × zz)=>SmP q.1 p.2) (λJ2 k2=>Wk.br (λ_=>Wk.cal (ze9 _ _) λy hy=>k2 _ hy) λ_=>k2 _ (.refl _)) λp hp=>?_
 refine Wk.jp (λ(q':zz × zh)=>SmP x q'.1/\q'.2.kind=n.kind/\q'.2.fields=n.fields/\(q'.1.e=0->IN q'.2.items)) (λJ4 k4=>Wk.br (λ_=>k4 _ ⟨h1.trans hp,h2,h3,λe=>h4 (hp.e e)⟩) λ_=>?_) λq4 hq4=>?_
 ·refine Wk.cal (zox _ 2) λy hy=>Wk.cal (ze9 _ _) λz hz=>?_
  refine Wk.jp (λ(u:zz × zag)=>SmP y.2 u.1/\u.2.name=y.1) (λJ5 k5=>Wk.br (λ_=>Wk.cal (zl5 _) λu hu=>Wk.cal (zd6 _ _) λw hw=>k5 _ ⟨(hz.trans hu).trans hw,rfl⟩) λ_=>k5 _ ⟨hz,rfl⟩) λu hu=>Wk.asr λ_=>k4 _ ⟨((h1.trans hp).trans hy.1).trans hu.1,h2,h3,λe it hit=>?_⟩
  have e1:=hu.1.e e
  rcases List.mem_append.1 hit with h | h
  ·exact h4 ((hp.trans hy.1).e e1) it h
  ·rw [zMo.1 h,hu.2]
   obtain ⟨t,ht,hk,he⟩:=hy.2 e1
   rw [he]
   exact hx t (by rw [<- (h1.trans hp).l];exact ht) hk
 ·exact Wk.cal (ze9 _ _) λy hy=>Wk.br (λ_=>k _ ⟨hq4.1.trans hy,hq4.2.1,hq4.2.2.1,λe=>hq4.2.2.2 (hy.e e)⟩) λ_=>hL _ ⟨hq4.1.trans hy,hq4.2.1,hq4.2.2.1,λe=>hq4.2.2.2 (hy.e e)⟩

/-! ### Trees -/
/-- A node of a known kind, with names. -/
structure NN (n:zh):Prop where
 k1:1 <= n.kind
 k2:n.kind <= 11
 f:FN n.fields
 i:IN n.items
structure Gw (x y:zz):Prop where
 l:y.l=x.l
 e:y.e=0->x.e=0
 le:x.m.nodes.length <= y.m.nodes.length
 pre:∀ p,p < x.m.nodes.length->y.m.nodes[p]?=x.m.nodes[p]?
 new:y.e=0->∀ (p:Nat) n,x.m.nodes.length <= p->y.m.nodes[p]?=some n->NN n
theorem SmP.gw {x y:zz} (h:SmP x y):Gw x y:=⟨h.l,h.e,by rw [h.m];exact zNl _,λp _=>by rw [h.m],λ_ p n h1 h2=>by
 have:=(List.getElem?_eq_some_iff.1 h2).1
 rw [h.m] at this;omega⟩
theorem Gw.trans {x y z:zz} (h:Gw x y) (k:Gw y z):Gw x z:=⟨k.l.trans h.l,λe=>h.e (k.e e),Nat.le_trans h.le k.le,λp hp=>(k.pre p (Nat.lt_of_lt_of_le hp h.le)).trans (h.pre p hp),λe p n h1 h2=>by
 by_cases hp:p < y.m.nodes.length
 ·rw [k.pre p hp] at h2;exact h.new (k.e e) p n h1 h2
 ·exact k.new e p n (by omega) h2⟩
structure GrpW (n:Nat):Prop where
 field:∀ (x:zz) (nd:zh) (d g:Int),NmT x.l->Wk (λr=>Gw x r.1/\r.2.kind=nd.kind/\r.2.items=nd.items/\(r.1.e=0->FN nd.fields->FN r.2.fields)) (zba n x nd d g)
 typ:∀ (x:zz) (d:Int),NmT x.l->Wk (λr=>Gw x r.2) (za0 n x d)
 base:∀ (x:zz) (nd:zh) (d:Int),NmT x.l->nd.items=[]->nd.fields=[]->Wk (λr=>Gw x r.1/\(r.1.e=0->NN r.2)) (zbg n x nd d)
 fields:∀ (x:zz) (nd:zh) (d:Int),NmT x.l->Wk (λr=>Gw x r.1/\r.2.kind=nd.kind/\r.2.items=nd.items/\(r.1.e=0->FN nd.fields->FN r.2.fields)) (za1 n x nd d)
theorem grpW:∀ n,GrpW n:=by
 intro n
 induction n with
 | zero=>exact ⟨λ_ _ _ _ _=>Wk.none,λ_ _ _=>Wk.none,λ_ _ _ _ _ _=>Wk.none,λ_ _ _ _=>Wk.none⟩
 | succ n ih =>
  refine ⟨λx nd d g hx=>?_,λx d hx=>?_,λx nd d hx hi hf=>?_,λx nd d hx=>?_⟩
  ·show Wk _ (zcP (zba n) (za0 n) (zbg n) (za1 n) x nd d g)
   unfold zcP
   refine Wk.cal (zox x 2) λy hy=>Wk.ck (Wk.cal (ih.typ _ _ (by rw [hy.1.l];exact hx)) λz hz=>?_)
   refine Wk.jp (λ(q:zaC × zz)=>Gw y.2 q.2/\q.1.name=y.1) (λJ k=>Wk.br (λ_=>k _ ⟨hz,rfl⟩) λ_=>Wk.cal (ze9 _ _) λa ha=>Wk.br (λ_=>k _ ⟨hz.trans ha.gw,rfl⟩) λ_=>Wk.cal (ze9 _ _) λb hb=>Wk.br (λ_=>Wk.cal (zyq _) λc hc=>k _ ⟨((hz.trans ha.gw).trans hb.gw).trans hc.gw,rfl⟩) λ_=>k _ ⟨(hz.trans ha.gw).trans hb.gw,rfl⟩) λq hq=>Wk.asr λ_=>Wk.some ⟨hy.1.gw.trans hq.1,rfl,rfl,λe hF f hf=>?_⟩
   rcases List.mem_append.1 hf with h | h
   ·exact hF f h
   ·rw [zMo.1 h,hq.2]
    obtain ⟨t,ht,hk,he⟩:=hy.2 (hq.1.e e)
    rw [he]
    exact hx t ht hk
  ·show Wk _ (zdh (zba n) (za0 n) (zbg n) (za1 n) x d)
   unfold zdh
   refine Wk.br (λ_=>Wk.some (SmP.refl x).gw) λ_=>Wk.cal (zkt x) λ⟨t,x'⟩ ⟨hx',_⟩=>?_
   dsimp only at hx' ⊢
   subst hx'
   refine Wk.cal0 λb _=>Wk.br (λ_=>Wk.cal (zkt _) λy hy=>Wk.cal (zj1 _ _ _) λz hz=>Wk.some (hy.1 ▸ hz.1).gw) λ_=>?_
   refine Wk.jp (λ_=>True) (λJ k=>Wk.br (λ_=>k _ trivial) λ_=>k _ trivial) λb _=>Wk.br (λ_=>Wk.cal (zkt _) λy hy=>Wk.cal (zj1 _ _ _) λz hz=>Wk.some (hy.1 ▸ hz.1).gw) λ_=>Wk.asr λ_=>?_
   refine Wk.cal (ze9 _ _) λy hy=>?_
   refine Wk.jp (λ(q:zz × zh)=>SmP y.2 q.1/\q.2.items=[]/\q.2.fields=[]) (λJ k=>Wk.br (λ_=>?_) λ_=>k _ ⟨.refl _,rfl,rfl⟩) λq hq=>?_
   ·refine Wk.cal (zkt _) λa ha=>Wk.cal (zl5 _) λb hb=>?_
    have h1:SmP y.2 b.2:=ha.1 ▸ hb
    refine Wk.jp (λ_=>True) (λJ k=>Wk.br (λ_=>Wk.jp (λ_=>True) (λJ2 k2=>Wk.br (λ_=>k2 _ trivial) λ_=>k2 _ trivial) λ_ _=>k _ trivial) λ_=>k _ trivial) λc _=>?_
    refine Wk.jp (λz=>SmP y.2 z) (λJ k=>Wk.br (λ_=>Wk.cal (zj1 _ _ _) λz hz=>k _ (h1.trans hz.1)) λ_=>k _ h1) λz hz=>?_
    exact Wk.cal (zd6 _ _) λu hu=>Wk.cal (ze9 _ _) λv hv=>Wk.br (λ_=>k _ ⟨(hz.trans hu).trans hv,rfl,rfl⟩) λ_=>Wk.cal (ze9 _ _) λw hw=>Wk.br (λ_=>k _ ⟨((hz.trans hu).trans hv).trans hw,rfl,rfl⟩) λ_=>k _ ⟨((hz.trans hu).trans hv).trans hw,rfl,rfl⟩
   have hs:=hy.trans hq.1
   refine Wk.cal (ih.base q.1 q.2 d (by rw [hs.l];exact hx) hq.2.1 hq.2.2) λz hz=>?_
   have hlen:q.1.m.nodes.length=x'.m.nodes.length + 1:=by rw [hs.m];show (x'.m.nodes ++ [_]).length=_;rw [zLa];rfl
   have hpre:∀ p,p < x'.m.nodes.length->z.1.m.nodes[p]?=x'.m.nodes[p]?:=λp hp=>by
    rw [hz.1.pre p (by omega),hs.m]
    exact List.getElem?_append_left hp
   have hl:z.1.l=x'.l:=hz.1.l.trans hs.l
   have he:z.1.e=0->x'.e=0:=λe=>hs.e (hz.1.e e)
   have hle:=hz.1.le
   refine Wk.br (λh=>Wk.some ⟨hl,he,by dsimp only;omega,hpre,λe=>absurd e (by simpa using h)⟩) λh=>Wk.asr λ_=>Wk.cal0 λw _=>Wk.some ?_
   refine ⟨hl,he,?_,λp hp=>?_,λe p nd h1 h2=>?_⟩
   ·dsimp only;rw [List.length_set];omega
   ·dsimp only
    rw [List.getElem?_set_ne (by rw [Int.toNat_natCast];omega)]
    exact hpre p hp
   ·dsimp only at e h2
    rw [Int.toNat_natCast] at h2
    by_cases hp:p=x'.m.nodes.length
    ·subst hp
     rw [List.getElem?_set_self (by omega)] at h2
     cases h2
     exact hz.2 e
    ·rw [List.getElem?_set_ne (by omega)] at h2
     exact hz.1.new e p nd (by omega) h2
  ·show Wk _ (zc2 (zba n) (za0 n) (zbg n) (za1 n) x nd d)
   unfold zc2
   have leaf:∀ (y:zz) (nd':zh) (k:Int),SmP x y->nd'.kind=k->1 <= k->k <= 11->nd'.items=[]->nd'.fields=[]->Gw x y/\(y.e=0->NN nd'):=λy nd' k hs hk h1 h2 h3 h4=>⟨hs.gw,λ_=>⟨by omega,by omega,by rw [h4];exact λf hf=>(by cases hf),by rw [h3];exact λf hf=>(by cases hf)⟩⟩
   have flds:∀ (y:zz) (k:Int),SmP x y->1 <= k->k <= 11->∀ r:zz × zh,(Gw y r.1/\r.2.kind=k/\r.2.items=nd.items/\(r.1.e=0->FN nd.fields->FN r.2.fields))->Gw x r.1/\(r.1.e=0->NN r.2):=λy k hs h1 h2 r ⟨g1,g2,g3,g4⟩=>⟨hs.gw.trans g1,λe=>⟨by rw [g2];exact h1,by rw [g2];exact h2,g4 e (by rw [hf];exact λf hf=>(by cases hf)),by rw [g3,hi];exact λf hf=>(by cases hf)⟩⟩
   have hxl:∀ {y:zz},SmP x y->NmT y.l:=λh=>by rw [h.l];exact hx
   refine Wk.cal (zkt x) λ⟨t,x'⟩ ⟨hx',_⟩=>?_
   dsimp only at hx' ⊢
   subst hx'
   refine Wk.br (λh=>Wk.some ⟨(SmP.refl _).gw,λe=>absurd e (by simpa using h)⟩) λ_=>?_
   refine Wk.cal (ze9 _ _) λa1 s1=>Wk.br (λ_=>Wk.some (leaf _ _ 1 s1 rfl (by decide) (by decide) hi hf)) λ_=>Wk.cal (ze9 _ _) λa2 t2=>?_
   have s2:=s1.trans t2
   refine Wk.br (λ_=>Wk.some (leaf _ _ 4 s2 rfl (by decide) (by decide) hi hf)) λ_=>Wk.cal (ze9 _ _) λa3 t3=>?_
   have s3:=s2.trans t3
   refine Wk.br (λ_=>Wk.cal (zsL _) λb hb=>Wk.some (leaf _ _ 6 (s3.trans hb) rfl (by decide) (by decide) hi hf)) λ_=>Wk.cal (ze9 _ _) λa4 t4=>?_
   have s4:=s3.trans t4
   refine Wk.br (λ_=>Wk.cal (ze9 _ _) λb hb=>Wk.br (λ_=>Wk.cal (zsl _) λc hc=>Wk.cal (zd6 _ _) λu hu=>Wk.some (leaf _ _ 2 (((s4.trans hb).trans hc).trans hu) rfl (by decide) (by decide) hi hf)) λ_=>Wk.some (leaf _ _ 2 (s4.trans hb) rfl (by decide) (by decide) hi hf)) λ_=>Wk.cal (ze9 _ _) λa5 t5=>?_
   have s5:=s4.trans t5
   refine Wk.br (λ_=>Wk.cal (zd6 _ _) λb hb=>Wk.cal (zsL _) λc hc=>Wk.some (leaf _ _ 5 ((s5.trans hb).trans hc) rfl (by decide) (by decide) hi hf)) λ_=>Wk.cal (ze9 _ _) λa6 t6=>?_
   have s6:=s5.trans t6
   refine Wk.br (λ_=>Wk.cal (zd6 _ _) λb hb=>Wk.cal (zzp _ _ (hxl (s6.trans hb)) hi) λc hc=>Wk.cal (zd6 _ _) λu hu=>Wk.some ⟨(((s6.trans hb).trans hc.1).trans hu).gw,λe=>⟨?_,?_,?_,hc.2.2.2 (hu.e e)⟩⟩) λ_=>Wk.cal (ze9 _ _) λa7 t7=>?_
   ·rw [hc.2.1];show (1:Int) <= 3;decide
   ·rw [hc.2.1];show (3:Int) <= 11;decide
   ·rw [hc.2.2.1];show FN nd.fields;rw [hf];exact λf hf=>(by cases hf)
   have s7:=s6.trans t7
   refine Wk.br (λ_=>Wk.cal (zd6 _ _) λb hb=>Wk.cal (ih.fields _ _ _ (hxl (s7.trans hb))) λc hc=>Wk.some (flds _ 8 (s7.trans hb) (by decide) (by decide) c hc)) λ_=>Wk.cal (ze9 _ _) λa8 t8=>?_
   have s8:=s7.trans t8
   refine Wk.br (λ_=>Wk.cal (zd6 _ _) λb hb=>Wk.cal (ih.fields _ _ _ (hxl (s8.trans hb))) λc hc=>Wk.some (flds _ 9 (s8.trans hb) (by decide) (by decide) c hc)) λ_=>Wk.cal (ze9 _ _) λa9 t9=>?_
   have s9:=s8.trans t9
   refine Wk.br (λ_=>Wk.cal (ze9 _ _) λb hb=>Wk.br (λ_=>Wk.cal (ih.fields _ _ _ (hxl (s9.trans hb))) λc hc=>Wk.some (flds _ 7 (s9.trans hb) (by decide) (by decide) c hc)) λ_=>?_) λ_=>?_
   ·refine Wk.cal (zsL _) λc hc=>Wk.cal (zd6 _ _) λu hu=>Wk.ck (Wk.cal (ih.typ _ _ (hxl (((s9.trans hb).trans hc).trans hu))) λw hw=>Wk.some ⟨(((s9.trans hb).trans hc).trans hu).gw.trans hw,λ_=>⟨show (1:Int) <= 10 by decide,show (10:Int) <= 11 by decide,?_,?_⟩⟩)
    ·show FN nd.fields;rw [hf];exact λf hf=>(by cases hf)
    ·show IN nd.items;rw [hi];exact λf hf=>(by cases hf)
   ·refine Wk.br (λ_=>Wk.cal (zlP _) λb hb=>Wk.some (leaf _ _ 11 (s9.trans hb.1) rfl (by decide) (by decide) hi hf)) λ_=>Wk.cal (zj1 _ _ _) λb hb=>Wk.some ⟨(s9.trans hb.1).gw,λe=>absurd e (hb.2 (by decide))⟩
  ·show Wk _ (zcx (zba n) (za0 n) (zbg n) (za1 n) x nd d)
   unfold zcx
   refine Wk.cal (ze9 _ _) λa ha=>Wk.br (λ_=>Wk.some ⟨ha.gw,rfl,rfl,λ_ h=>h⟩) λ_=>?_
   refine Wk.jp (λ(q:zz × zh)=>Gw x q.1/\q.2.kind=nd.kind/\q.2.items=nd.items/\(q.1.e=0->FN nd.fields->FN q.2.fields)) (λJ k=>?_) λq hq=>Wk.cal (zd6 _ _) λu hu=>Wk.br (λ_=>Wk.some ⟨hq.1.trans hu.gw,hq.2.1,hq.2.2.1,λe=>hq.2.2.2 (hu.e e)⟩) λ_=>Wk.some ⟨hq.1.trans hu.gw,hq.2.1,hq.2.2.1,λe=>hq.2.2.2 (hu.e e)⟩
   refine Wk.lp (λ(q:Int × zz × zh)=>Gw x q.2.1/\q.2.2.kind=nd.kind/\q.2.2.items=nd.items/\(q.2.1.e=0->FN nd.fields->FN q.2.2.fields)) ⟨ha.gw,rfl,rfl,λ_ h=>h⟩ λL q ⟨h1,h2,h3,h4⟩ hL=>Wk.br (λ_=>?_) λ_=>k _ ⟨h1,h2,h3,h4⟩
   have hxl:∀ {y:zz},Gw x y->NmT y.l:=λh=>by rw [h.l];exact hx
   refine Wk.jp (λ(q:Int × zz × zh)=>Gw x q.2.1/\q.2.2.kind=nd.kind/\q.2.2.items=nd.items/\(q.2.1.e=0->FN nd.fields->FN q.2.2.fields)) (λJ2 k2=>?_) λq2 hq2=>Wk.cal (ze9 _ _) λu hu=>Wk.br (λ_=>k _ ⟨hq2.1.trans hu.gw,hq2.2.1,hq2.2.2.1,λe=>hq2.2.2.2 (hu.e e)⟩) λ_=>hL _ ⟨hq2.1.trans hu.gw,hq2.2.1,hq2.2.2.1,λe=>hq2.2.2.2 (hu.e e)⟩
   refine Wk.jp (λ(p:Bool × zz)=>SmP q.2.1 p.2) (λJ3 k3=>Wk.br (λ_=>Wk.cal (ze9 _ _) λy hy=>k3 _ hy) λ_=>k3 _ (.refl _)) λp hp=>?_
   refine Wk.br (λ_=>k2 _ ⟨h1.trans hp.gw,h2,h3,λe=>h4 (hp.e e)⟩) λ_=>?_
   refine Wk.jp (λ(r:Bool × zz)=>SmP q.2.1 r.2) (λJ3 k3=>Wk.br (λ_=>Wk.cal (ze9 _ _) λy hy=>k3 _ (hp.trans hy)) λ_=>k3 _ hp) λr hr=>Wk.br (λ_=>Wk.ck ?_) λ_=>?_
   ·refine Wk.jp (λ(q:zz × zh)=>Gw x q.1/\q.2.kind=nd.kind/\q.2.items=nd.items/\(q.1.e=0->FN nd.fields->FN q.2.fields)) (λJ4 k4=>?_) λz hz=>Wk.cal (zd6 _ _) λu hu=>k2 _ ⟨hz.1.trans hu.gw,hz.2.1,hz.2.2.1,λe=>hz.2.2.2 (hu.e e)⟩
    refine Wk.lp (λ(q:zz × zh)=>Gw x q.1/\q.2.kind=nd.kind/\q.2.items=nd.items/\(q.1.e=0->FN nd.fields->FN q.2.fields)) ⟨h1.trans hr.gw,h2,h3,λe=>h4 (hr.e e)⟩ λL2 z ⟨g1,g2,g3,g4⟩ hL2=>Wk.br (λ_=>?_) λ_=>k4 _ ⟨g1,g2,g3,g4⟩
    refine Wk.cal (ih.field _ _ _ _ (hxl g1)) λu hu=>Wk.cal (ze9 _ _) λw hw=>?_
    have hh:Gw x w.2/\u.2.kind=nd.kind/\u.2.items=nd.items/\(w.2.e=0->FN nd.fields->FN u.2.fields):=⟨(g1.trans hu.1).trans hw.gw,hu.2.1.trans g2,hu.2.2.1.trans g3,λe h=>hu.2.2.2 (hw.e e) (g4 (hu.1.e (hw.e e)) h)⟩
    exact Wk.br (λ_=>k4 _ hh) λ_=>hL2 _ hh
   ·have g1:=h1.trans hr.gw
    exact Wk.cal (ih.field _ _ _ _ (hxl g1)) λu hu=>k2 _ ⟨g1.trans hu.1,hu.2.1.trans h2,hu.2.2.1.trans h3,λe h=>hu.2.2.2 e (h4 (hr.e (hu.1.e e)) h)⟩
def AN (m:zaB):Prop:=∀ n ∈ m.nodes,NN n
theorem Gw.an {x y:zz} (h:Gw x y) (hx:x.e=0->AN x.m):y.e=0->AN y.m:=λe n hn=>by
 obtain ⟨p,hp⟩:=List.mem_iff_getElem?.1 hn
 by_cases h1:p < x.m.nodes.length
 ·rw [h.pre p h1] at hp
  exact hx (h.e e) n (List.mem_of_getElem? hp)
 ·exact h.new e p n (by omega) hp
theorem zyc (s:Str):Wk (λr=>r.2.2=0->AN r.1) (zfA s):=by
 unfold zfA
 rw [zpA]
 have hT:=zy9 s.b
 refine Wk.cal0 λy hy=>?_
 injection hy with hy
 subst hy
 refine Wk.br (λh=>Wk.some λe=>absurd e (by simpa using h)) λ_=>?_
 refine Wk.cal (zox _ _) λa ha=>Wk.cal (zd6 _ _) λb hb=>?_
 have P:∀ {y z:zz},SmP y z->y.l=(toks s.b).1->y.m.nodes=[]->z.l=(toks s.b).1/\z.m.nodes=[]:=λhz h1 h2=>⟨hz.l.trans h1,by rw [hz.m];exact h2⟩
 have hA:a.2.l=(toks s.b).1/\a.2.m.nodes=[]:=P ha.1 rfl rfl
 have h0:=P hb hA.1 hA.2
 refine Wk.jp (λ(z:zz)=>z.l=(toks s.b).1/\z.m.nodes=[]) (λJ k=>?_) λz hz=>?_
 ·refine Wk.cal (ze9 _ _) λc hc=>?_
  have h00:=P hc h0.1 h0.2
  refine Wk.br (λ_=>Wk.cal (zd6 _ _) λu hu=>k _ (P hu h00.1 h00.2)) λ_=>Wk.cal (ze9 _ _) λd hd=>?_
  have h1:=P hd h00.1 h00.2
  refine Wk.br (λ_=>Wk.cal (zd6 _ _) λu hu=>k _ (P hu h1.1 h1.2)) λ_=>Wk.cal (ze9 _ _) λf hf=>?_
  have h2:=P hf h1.1 h1.2
  exact Wk.br (λ_=>Wk.cal (zd6 _ _) λu hu=>k _ (P hu h2.1 h2.2)) λ_=>k _ h2
 ·refine Wk.cal (zd6 _ _) λc hc=>Wk.cal (zd6 _ _) λd hd=>?_
  have hcc:=P hc hz.1 hz.2
  have h1:=P hd hcc.1 hcc.2
  refine Wk.lp (λ(q:zz)=>q.l=(toks s.b).1/\(q.e=0->AN q.m)) ⟨h1.1,λ_ n hn=>by rw [h1.2] at hn;cases hn⟩ λL q ⟨q1,q2⟩ hL=>?_
  have S:∀ {y z:zz},Gw y z->(y.l=(toks s.b).1/\(y.e=0->AN y.m))->z.l=(toks s.b).1/\(z.e=0->AN z.m):=λh ⟨h1,h2⟩=>⟨h.l.trans h1,h.an h2⟩
  refine Wk.jp (λ(p:Bool × zz)=>p.2.l=(toks s.b).1/\(p.2.e=0->AN p.2.m)) (λJ k=>Wk.br (λ_=>Wk.cal (ze9 _ _) λy hy=>k _ (S hy.gw ⟨q1,q2⟩)) λ_=>k _ ⟨q1,q2⟩) λp hp=>Wk.br (λ_=>?_) λ_=>?_
  ·refine Wk.cal (zkt _) λ⟨t,x'⟩ ⟨hx',_⟩=>?_
   dsimp only at hx' ⊢
   subst hx'
   refine Wk.cal (zox _ _) λf hf=>Wk.jp (λ_=>True) (λJ k=>Wk.br (λ_=>k _ trivial) λ_=>k _ trivial) λbb _=>?_
   have hf:=S hf.1.gw hp
   refine Wk.jp (λ(z:zz)=>z.l=(toks s.b).1/\(z.e=0->AN z.m)) (λJ k=>Wk.br (λ_=>Wk.cal (zj1 _ _ _) λz hz=>k _ (S hz.1.gw hf)) λ_=>k _ hf) λz hz=>Wk.cal (zd6 _ _) λu hu=>?_
   have hu:=S hu.gw hz
   refine Wk.cal ((grpW fuel).typ _ _ (by rw [hu.1];exact hT)) λw hw=>Wk.asr λ_=>Wk.asr λ_=>hL _ ?_
   have h9:=S hw hu
   exact ⟨h9.1,λe n hn=>h9.2 e n hn⟩
  ·refine Wk.jp (λ(r:Bool × zz)=>r.2.l=(toks s.b).1/\(r.2.e=0->AN r.2.m)) (λJ k=>Wk.br (λ_=>Wk.cal (zkt _) λy hy=>k _ (by rw [hy.1];exact hp)) λ_=>k _ hp) λr hr=>?_
   refine Wk.jp (λ(z:zz)=>z.l=(toks s.b).1/\(z.e=0->AN z.m)) (λJ k=>Wk.br (λ_=>Wk.cal (zkt _) λy hy=>Wk.cal (zj1 _ _ _) λz hz=>k _ (S hz.1.gw (by rw [hy.1];exact hr))) λ_=>k _ hr) λz hz=>Wk.br (λh=>Wk.some λe=>?_) λh=>Wk.some λ_=>hz.2 (by simpa using h)
   exact absurd e (by simpa using h)
structure TN (t:zg):Prop where
 k1:1 <= t.kind
 k2:t.kind <= 10
 f:FN t.fields
 i:IN t.items
 fd:(t.fields.map λf=>f.name).Nodup
 id:(t.items.map λit=>it.name).Nodup
structure Mx (x y:GMk):Prop where
 m:y.m=x.m
 e:y.e=0->x.e=0
 t:y.e=0->(∀ t ∈ x.l,TN t)->∀ t ∈ y.l,TN t
theorem Mx.refl (x:GMk):Mx x x:=⟨rfl,id,λ_ h=>h⟩
theorem Mx.trans {x y z:GMk} (h:Mx x y) (k:Mx y z):Mx x z:=⟨k.m.trans h.m,λe=>h.e (k.e e),λe ht=>k.t e (h.t (k.e e) ht)⟩
theorem zhH (x:GMk) (e:Int):Wk (λr=>r.m=x.m/\r.l=x.l/\(r.e=0->x.e=0)/\(e ≠ 0->r.e ≠ 0)) (zbh x e):=by
 unfold zbh
 exact Wk.br (λh=>Wk.some ⟨rfl,rfl,λ_=>zOT h,id⟩) λh=>Wk.some ⟨rfl,rfl,id,λ_=>zOF h⟩
theorem zj4 {x y:GMk} (h1:y.m=x.m) (h2:y.l=x.l) (h3:y.e=0->x.e=0):Mx x y:=⟨h1,h3,λ_ h=>by rw [h2];exact h⟩
theorem zxa (x:GMk) (i:Int):Wk (λr=>r.2=x) (zdv x i):=by
 unfold zdv
 exact Wk.asr λ_=>Wk.cal0 λy _=>Wk.br (λ_=>Wk.some rfl) λ_=>Wk.some rfl
theorem zqM {l:List zg} {i:Nat} {t:zg} (h:∀ t ∈ l,TN t) (ht:TN t):∀ y ∈ l.set i t,TN y:=λy hy=>(List.mem_or_eq_of_mem_set hy).elim (h y) λe=>by rw [e];exact ht
theorem zwd (x:GMk) (i k m:Int):Wk (λr=>Mx x r) (zdw x i k m):=by
 unfold zdw
 refine Wk.br (λ_=>Wk.some (.refl x)) λ_=>Wk.asr λ_=>Wk.cal0 λy _=>Wk.cal0 λz _=>Wk.br (λ_=>Wk.cal (zhH _ _) λu hu=>Wk.some (zj4 hu.1 hu.2.1 hu.2.2.1)) λ_=>Wk.asr λ_=>Wk.cal0 λw hw=>Wk.some ⟨rfl,id,λ_ h=>?_⟩
 have hT:=h w (List.mem_of_getElem? hw)
 exact zqM h ⟨hT.k1,hT.k2,hT.f,hT.i,hT.fd,hT.id⟩
theorem zBh (x:GMk) (i:Int) (v:Val):Wk (λr=>Mx x r.2) (zcS x i v):=by
 unfold zcS
 refine Wk.asr λ_=>Wk.cal0 λy _=>?_
 refine Wk.jp (λ_=>True) (λJ k=>?_) λq _=>Wk.jp (λ(z:GMk)=>Mx x z) (λJ k=>Wk.br (λ_=>Wk.cal (zhH _ _) λu hu=>k _ (zj4 hu.1 hu.2.1 hu.2.2.1)) λ_=>k _ (.refl x)) λz hz=>Wk.some hz
 refine Wk.jp (λ_=>True) (λJ2 k2=>Wk.br (λ_=>k2 _ trivial) λ_=>k2 _ trivial) λb _=>Wk.br (λ_=>k _ trivial) λ_=>?_
 refine Wk.br (λ_=>Wk.jp (λ_=>True) (λJ2 k2=>Wk.br (λ_=>Wk.cal0 λz _=>k2 _ trivial) λ_=>k2 _ trivial) λb _=>k _ trivial) λ_=>?_
 refine Wk.jp (λ_=>True) (λJ2 k2=>Wk.br (λ_=>k2 _ trivial) λ_=>k2 _ trivial) λb _=>Wk.br (λ_=>?_) λ_=>?_
 ·refine Wk.jp (λ_=>True) (λJ2 k2=>Wk.br (λ_=>Wk.cal0 λz _=>k2 _ trivial) λ_=>k2 _ trivial) λb _=>?_
  exact Wk.jp (λ_=>True) (λJ2 k2=>Wk.br (λ_=>Wk.jp (λ_=>True) (λJ3 k3=>Wk.br (λ_=>k3 _ trivial) λ_=>Wk.cal0 λz _=>k3 _ trivial) λ_ _=>k2 _ trivial) λ_=>k2 _ trivial) λb _=>k _ trivial
 ·refine Wk.br (λ_=>Wk.br (λ_=>?_) λ_=>k _ trivial) λ_=>k _ trivial
  refine Wk.lp (λ_=>True) trivial λL q _ hL=>Wk.jp (λ_=>True) (λJ2 k2=>Wk.br (λ_=>k2 _ trivial) λ_=>k2 _ trivial) λb _=>Wk.br (λ_=>?_) λ_=>k _ trivial
  exact Wk.jp (λ_=>True) (λJ2 k2=>Wk.cal0 λz _=>Wk.br (λ_=>Wk.cal0 λu _=>k2 _ trivial) λ_=>k2 _ trivial) λz _=>Wk.ck (hL _ trivial)
def NdTo (l:List zag) (n:Int):Prop:=∀ (i k:Nat) a b,(i:Int) < n->k < i->l[i]?=some a->l[k]?=some b->b.name ≠ a.name
theorem zBz {l:List zag} (h:NdTo l l.length):(l.map λit=>it.name).Nodup:=by
 rw [List.nodup_iff_pairwise_ne] at *
 rw [List.pairwise_iff_getElem]
 intro i j hi hj hij
 rw [List.length_map] at hi hj
 rw [List.getElem_map,List.getElem_map]
 exact h j i l[j] l[i] (by omega) hij (List.getElem?_eq_getElem hj) (List.getElem?_eq_getElem hi)
theorem zxI (x:GMk) (n:zh) (hn:IN n.items):Wk (λr=>r.2.m=x.m/\r.2.l=x.l/\(r.2.e=0->x.e=0/\IN r.1/\(r.1.map λit=>it.name).Nodup)) (zdO x n):=by
 unfold zdO
 have sn:∀ {l:List zag} {it:zag},IN l->zko it.name.b=true->IN (l ++ [it]):=λh k it' hit=>by
  rcases List.mem_append.1 hit with h1 | h1
  ·exact h it' h1
  ·rw [zMo.1 h1];exact k
 refine Wk.lp (λ(q:List zag × Int × Int)=>IN q.1) (λit h=>by cases h) λL q hq hL=>Wk.br (λ_=>Wk.cal0 λy hy=>?_) λ_=>?_
 ·have hyn:=hn y (zfT hy).1
  refine Wk.jp (λ(z:Int × zag)=>z.2.name=y.name) (λJ k=>Wk.br (λ_=>Wk.lp (λ_=>True) trivial λL2 z _ hL2=>Wk.asr λ_=>Wk.cal0 λu _=>Wk.br (λ_=>Wk.ck (hL2 _ trivial)) λ_=>Wk.ck (k _ rfl)) λ_=>k _ rfl) λz hz=>Wk.asr λ_=>Wk.ck (hL _ (sn hq ?_))
  show zko z.2.name.b=true
  rw [hz];exact hyn
 ·refine Wk.lp (λ(q:List zag × Int × Bool × Bool × Int)=>IN q.1) hq λL q hq hL=>Wk.br (λ_=>Wk.cal0 λy hy=>?_) λ_=>?_
  ·have hyn:=hn y (zfT hy).1
   refine Wk.jp (λ(z:zag)=>z.name=y.name) (λJ k=>Wk.br (λ_=>?_) λ_=>k _ rfl) λz hz=>?_
   ·refine Wk.lp (λ(z:Int × zag)=>z.2.name=y.name) rfl λL2 z hz hL2=>Wk.br (λ_=>?_) λ_=>k _ hz
    refine Wk.jp (λ(u:zag)=>u.name=y.name) (λJ3 k3=>Wk.cal0 λu _=>Wk.br (λ_=>Wk.cal (zhH _ _) λw hw=>Wk.some ⟨hw.1,hw.2.1,λe=>absurd e (hw.2.2.2 (by decide))⟩) λ_=>?_) λu hu=>Wk.ck (hL2 _ hu)
    exact Wk.jp (λ_=>True) (λJ4 k4=>Wk.br (λ_=>k4 _ trivial) λ_=>Wk.cal0 λw _=>k4 _ trivial) λb _=>Wk.br (λ_=>Wk.cal0 λw _=>Wk.ck (k3 _ hz)) λ_=>k3 _ hz
   ·refine Wk.jp (λ_=>True) (λJ k=>Wk.br (λ_=>k _ trivial) λ_=>Wk.jp (λ_=>True) (λJ2 k2=>Wk.br (λ_=>k2 _ trivial) λ_=>k2 _ trivial) λ_ _=>k _ trivial) λb _=>Wk.asr λ_=>Wk.ck (hL _ (sn hq ?_))
    show zko z.name.b=true
    rw [hz];exact hyn
  ·refine Wk.lp (λ(p:Bool × Int)=>0 <= p.2/\p.2 <= (q.1.length:Int)/\(p.1=false->NdTo q.1 p.2)) ⟨zIl _,by dsimp only;omega,λ_ i k a b h=>by dsimp only at h;omega⟩ λL2 p ⟨p0,p1,p2⟩ hL2=>Wk.br (λhb=>?_) λhb=>?_
   ·have hb:=zOT hb
    refine Wk.lp (λ(u:Bool × Int)=>0 <= u.2/\(u.1=false->NdTo q.1 p.2/\∀ (k:Nat) a b,(k:Int) < u.2->q.1[p.2.toNat]?=some a->q.1[k]?=some b->b.name ≠ a.name)) ⟨zIl _,λh=>⟨p2 h,λk a b hk=>by dsimp only at hk;omega⟩⟩ λL3 u ⟨u0,u1⟩ hL3=>Wk.br (λhc=>?_) λhc=>?_
    ·refine Wk.jp (λb=>b=false->u.1=false/\∀ a b,q.1[p.2.toNat]?=some a->q.1[u.2.toNat]?=some b->b.name ≠ a.name) (λJ k=>Wk.br (λ_=>k _ λh=>by cases h) λh1=>Wk.cal0 λy hy=>Wk.cal0 λz hz=>k _ λh=>⟨h1,λa b ha hb=>?_⟩) λb hb2=>?_
     ·have e1:=(zfT hy).2.2
      have e2:=(zfT hz).2.2
      rw [ha] at e2;rw [hb] at e1
      cases e1;cases e2
      exact zOF h
     ·refine Wk.jp (λc=>c=false->b=false) (λJ k=>Wk.br (λ_=>k _ λh=>by cases h) λh1=>Wk.cal0 λy hy=>Wk.cal0 λz hz=>k _ λ_=>h1) λc hc2=>Wk.ck (hL3 _ ⟨by dsimp only;omega,λh=>?_⟩)
      dsimp only at h
      obtain ⟨g1,g2⟩:=hb2 (hc2 h)
      refine ⟨(u1 g1).1,λk a b hk ha hb=>?_⟩
      dsimp only at hk
      by_cases hk2:(k:Int) < u.2
      ·exact (u1 g1).2 k a b hk2 ha hb
      ·have:k=u.2.toNat:=by omega
       subst this
       exact g2 a b ha hb
    ·have hc:=zOF hc
     refine Wk.ck (hL2 _ ⟨by dsimp only;omega,by dsimp only;omega,λh=>?_⟩)
     dsimp only at h ⊢
     obtain ⟨g1,g2⟩:=u1 h
     intro i k a b hi hk ha hb
     by_cases hi2:(i:Int) < p.2
     ·exact g1 i k a b hi2 hk ha hb
     ·have:i=p.2.toNat:=by omega
      subst this
      exact g2 k a b (by omega) ha hb
   ·have hb:=zOF hb
    refine Wk.jp (λ(z:GMk)=>z.m=x.m/\z.l=x.l/\(z.e=0->x.e=0/\p.1=false)) (λJ k=>Wk.br (λ_=>Wk.cal (zhH _ _) λu hu=>k _ ⟨hu.1,hu.2.1,λe=>absurd e (hu.2.2.2 (by decide))⟩) λh=>k _ ⟨rfl,rfl,λe=>⟨e,h⟩⟩) λz hz=>Wk.some ⟨hz.1,hz.2.1,λe=>⟨(hz.2.2 e).1,hq,zBz ?_⟩⟩
    have:=p2 (hz.2.2 e).2
    rwa [show p.2=(q.1.length:Int) by omega] at this
theorem zs6 (x:GMk) (l:List zaC) (o:Bool):Wk (λr=>r.2=x) (zcK x l o):=by
 unfold zcK
 refine Wk.lp (λ_=>True) trivial λL q _ hL=>Wk.br (λ_=>Wk.cal0 λy _=>Wk.cal0 λz _=>?_) λ_=>Wk.cal0 λy _=>Wk.some rfl
 refine Wk.jp (λ_=>True) (λJ k=>Wk.br (λ_=>Wk.jp (λ_=>True) (λJ2 k2=>Wk.br (λ_=>k2 _ trivial) λ_=>k2 _ trivial) λ_ _=>k _ trivial) λ_=>k _ trivial) λb _=>Wk.br (λ_=>Wk.some rfl) λ_=>Wk.cal0 λu _=>Wk.cal0 λw _=>Wk.asr λ_=>Wk.ck (hL _ trivial)
theorem zzK (x:GMk) (t:zg):Wk (λr=>r.2=x) (zdN x t):=by
 unfold zdN
 refine Wk.br (λ_=>Wk.cal (zs6 _ _ _) λy hy=>Wk.some hy) λ_=>Wk.cal0 λy _=>?_
 refine Wk.lp (λ(q:Int × GMk)=>q.2=x) rfl λL q hq hL=>Wk.br (λ_=>?_) λ_=>?_
 ·refine Wk.jp (λ(z:GMk)=>z=x) (λJ k=>Wk.cal0 λz _=>Wk.br (λ_=>k _ hq) λ_=>Wk.ck ?_) λz hz=>Wk.ck (hL _ hz)
  refine Wk.lp (λ_=>True) trivial λL2 u _ hL2=>Wk.jp (λ_=>True) (λJ2 k2=>Wk.br (λ_=>Wk.cal0 λw _=>k2 _ trivial) λ_=>k2 _ trivial) λb _=>Wk.br (λ_=>Wk.ck (hL2 _ trivial)) λ_=>Wk.ck (Wk.asr λ_=>Wk.cal (zs6 _ _ _) λw hw=>Wk.br (λ_=>Wk.some (hw.trans hq)) λ_=>k _ (hw.trans hq))
 ·refine Wk.jp (λ(z:Bool × GMk)=>z.2=x) (λJ k=>Wk.br (λ_=>k _ hq) λ_=>Wk.cal0 λu _=>Wk.asr λ_=>Wk.cal (zs6 _ _ _) λw hw=>k _ (hw.trans hq)) λz hz=>Wk.some hz
structure MkW (n:Nat):Prop where
 fields:∀ (x:GMk) (i:Int) (nd:zh) (d:Int),AN x.m->NN nd->Wk (λr=>Mx x r) (zbU n x i nd d)
 node:∀ (x:GMk) (k d:Int),AN x.m->Wk (λr=>Mx x r.2) (zcs n x k d)
 made:∀ (x:GMk) (nd:zh) (d:Int),AN x.m->NN nd->nd.kind ≠ 11->Wk (λr=>Mx x r.2) (zcv n x nd d)
theorem mkW:∀ n,MkW n:=by
 intro n
 induction n with
 | zero=>exact ⟨λ_ _ _ _ _ _=>Wk.none,λ_ _ _ _=>Wk.none,λ_ _ _ _ _ _=>Wk.none⟩
 | succ n ih =>
  refine ⟨λx i nd d hx hn=>?_,λx k d hx=>?_,λx nd d hx hn h11=>?_⟩
  ·show Wk _ (zcT (zbU n) (zcs n) (zcv n) x i nd d)
   unfold zcT
   refine Wk.lp (λ_=>True) trivial λL0 q0 _ hL0=>Wk.br (λ_=>Wk.cal0 λy _=>Wk.jp (λ_=>True) (λJ k=>Wk.br (λ_=>k _ trivial) λ_=>Wk.cal0 λz _=>k _ trivial) λb _=>Wk.ck (hL0 _ trivial)) λ_=>?_
   refine Wk.jp (λ_=>True) (λJ k=>Wk.br (λ_=>k _ trivial) λ_=>k _ trivial) λb _=>Wk.jp (λ_=>True) (λJ k=>Wk.br (λ_=>k _ trivial) λ_=>k _ trivial) λb2 _=>?_
   refine Wk.jp (λ(z:GMk)=>Mx x z) (λJ k=>Wk.br (λ_=>Wk.cal (zhH _ _) λu hu=>k _ (zj4 hu.1 hu.2.1 hu.2.2.1)) λ_=>k _ (.refl x)) λz hz=>?_
   refine Wk.lp (λ(q:List zaC × Int × GMk)=>0 <= q.2.1/\q.2.1 <= (nd.fields.length:Int)/\Mx x q.2.2/\(q.2.2.e=0->q.1.map (λf=>f.name)=(nd.fields.take q.2.1.toNat).map (λf=>f.name)/\((nd.fields.take q.2.1.toNat).map λf=>f.name).Nodup)) ⟨zIl _,by dsimp only;omega,hz,λ_=>⟨rfl,List.nodup_nil⟩⟩ λL q ⟨q0,q1,q2,q3⟩ hL=>?_
   refine Wk.jp (λb=>(b=true->q.2.1 < (nd.fields.length:Int))/\(b=false->q.2.2.e=0->(nd.fields.length:Int) <= q.2.1)) (λJ k=>Wk.br (λh=>k _ ⟨λ_=>zOT h,λh2 e=>absurd e (zOF h2)⟩) λh=>k _ ⟨λh=>(by cases h),λ_ _=>by have:=zOF h;omega⟩) λb hb=>Wk.br (λh=>?_) λh=>?_
   ·have hlt:=hb.1 h
    refine Wk.cal0 λf hf=>?_
    have hfi:=(zfT hf).2.2
    refine Wk.lp (λ(p:Int × GMk)=>0 <= p.1/\p.2.m=q.2.2.m/\p.2.l=q.2.2.l/\(p.2.e=0->q.2.2.e=0/\∀ (j:Nat) g,(j:Int) < p.1->nd.fields[j]?=some g->g.name ≠ f.name)) ⟨zIl _,rfl,rfl,λe=>⟨e,λj g hj=>by dsimp only at hj;omega⟩⟩ λL2 p ⟨p0,p1,p2,p3⟩ hL2=>Wk.br (λhc=>?_) λhc=>?_
    ·refine Wk.jp (λ(z:GMk)=>z.m=q.2.2.m/\z.l=q.2.2.l/\(z.e=0->p.2.e=0/\∀ g,nd.fields[p.1.toNat]?=some g->g.name ≠ f.name)) (λJ k=>Wk.cal0 λg hg=>Wk.br (λ_=>Wk.cal (zhH _ _) λu hu=>k _ ⟨hu.1.trans p1,hu.2.1.trans p2,λe=>absurd e (hu.2.2.2 (by decide))⟩) λhne=>k _ ⟨p1,p2,λe=>⟨e,λg' hg'=>?_⟩⟩) λz hz=>Wk.ck (hL2 _ ⟨by dsimp only;omega,hz.1,hz.2.1,λe=>?_⟩)
     ·have:=(zfT hg).2.2
      rw [hg'] at this;cases this
      exact zOF hne
     ·dsimp only at e ⊢
      obtain ⟨e1,e2⟩:=hz.2.2 e
      refine ⟨(p3 e1).1,λj g hj hg=>?_⟩
      by_cases hj2:(j:Int) < p.1
      ·exact (p3 e1).2 j g hj2 hg
      ·have:j=p.1.toNat:=by omega
       subst this
       exact e2 g hg
    ·have hc:=zOF hc
     have hM:Mx x p.2:=q2.trans (zj4 p1 p2 λe=>(p3 e).1)
     refine Wk.ck (Wk.cal (ih.node _ _ _ (by rw [hM.m];exact hx)) λy hy=>?_)
     refine Wk.jp (λ_=>True) (λJ k=>Wk.br (λ_=>k _ trivial) λ_=>k _ trivial) λb3 _=>?_
     refine Wk.jp (λ(u:zaC × GMk)=>Mx p.2 u.2/\u.1.name=f.name) (λJ k=>Wk.br (λ_=>Wk.cal (zBh _ _ _) λu hu=>k _ ⟨hy.trans hu,rfl⟩) λ_=>k _ ⟨hy,rfl⟩) λu hu=>?_
     refine Wk.jp (λ_=>True) (λJ k=>Wk.br (λ_=>k _ trivial) λ_=>k _ trivial) λb4 _=>?_
     refine Wk.jp (λ(w:GMk)=>Mx p.2 w) (λJ k=>Wk.br (λ_=>Wk.cal (zxa _ _) λw hw=>Wk.cal (zwd _ _ _ _) λv hv=>k _ (hu.1.trans (by rw [hw] at hv;exact hv))) λ_=>k _ hu.1) λw hw=>Wk.asr λ_=>Wk.ck (hL _ ⟨by dsimp only;omega,by dsimp only;omega,hM.trans hw,λe=>?_⟩)
     dsimp only at e ⊢
     obtain ⟨e1,e2⟩:=p3 (hw.e e)
     obtain ⟨g1,g2⟩:=q3 e1
     have et:(nd.fields.take (q.2.1 + 1).toNat).map (λf=>f.name)=(nd.fields.take q.2.1.toNat).map (λf=>f.name) ++ [f.name]:=by
      rw [show (q.2.1 + 1).toNat=q.2.1.toNat + 1 by omega,List.take_add_one,hfi,List.map_append];rfl
     rw [et]
     refine ⟨by rw [List.map_append,g1];show _ ++ [u.1.name]=_;rw [hu.2],?_⟩
     rw [List.nodup_append]
     refine ⟨g2,(List.nodup_cons.2 ⟨List.not_mem_nil,List.nodup_nil⟩),λa ha b hb=>?_⟩
     rw [zMo.1 hb]
     obtain ⟨g,hg,rfl⟩:=List.mem_map.1 ha
     obtain ⟨j,hj⟩:=List.mem_iff_getElem?.1 hg
     have hjl:=(List.getElem?_eq_some_iff.1 hj).1
     rw [zLt] at hjl
     rw [List.getElem?_take,if_pos (by omega)] at hj
     exact e2 j g (by omega) hj
   ·refine Wk.br (λhe=>Wk.asr λ_=>Wk.cal0 λy hy=>Wk.asr λ_=>Wk.cal0 λz _=>Wk.cal (zzK _ _) λu hu=>?_) λ_=>Wk.some q2
    have he:=zOT he
    have hlen:=hb.2 h he
    obtain ⟨g1,g2⟩:=q3 he
    rw [zTl (by omega)] at g1 g2
    have key:Mx x (GMk.mk q.2.2.m (q.2.2.l.set i.toNat { y with fields:=q.1 }) q.2.2.e):=⟨q2.m,q2.e,λe ht=>by
     have h1:=q2.t e ht
     have hT:=h1 y (List.mem_of_getElem? hy)
     refine zqM h1 ⟨hT.k1,hT.k2,λf hf=>?_,hT.i,by show (q.1.map _).Nodup;rw [g1];exact g2,hT.id⟩
     have:f.name ∈ nd.fields.map (λf=>f.name):=by rw [<- g1];exact List.mem_map.2 ⟨f,hf,rfl⟩
     obtain ⟨g,hg,e2⟩:=List.mem_map.1 this
     rw [<- e2];exact hn.f g hg⟩
    rw [hu]
    exact Wk.br (λ_=>Wk.cal (zhH _ _) λv hv=>Wk.some (key.trans (zj4 hv.1 hv.2.1 hv.2.2.1))) λ_=>Wk.some key
  ·show Wk _ (zdi (zbU n) (zcs n) (zcv n) x k d)
   unfold zdi
   refine Wk.br (λ_=>Wk.some (.refl x)) λ_=>Wk.cal0 λy hy=>?_
   have hyn:=hx y (zfT hy).1
   refine Wk.jp (λ(q:Int × GMk)=>Mx x q.2) (λJ k=>Wk.br (λ_=>Wk.cal0 λa _=>Wk.cal0 λb _=>Wk.cal (ih.node _ _ _ hx) λc hc=>k _ hc) λh=>Wk.cal (ih.made _ _ _ hx hyn (zOF h)) λc hc=>k _ hc) λq hq=>?_
   refine Wk.jp (λ_=>True) (λJ k=>Wk.br (λ_=>k _ trivial) λ_=>k _ trivial) λb _=>?_
   refine Wk.jp (λ(z:GMk)=>Mx x z) (λJ k=>Wk.br (λ_=>?_) λ_=>k _ hq) λz hz=>Wk.some hz
   refine Wk.jp (λ(p:Int × GMk)=>p.2=q.2) (λJ2 k2=>Wk.br (λ_=>k2 _ rfl) λ_=>Wk.jp (λ_=>True) (λJ3 k3=>Wk.br (λ_=>k3 _ trivial) λ_=>k3 _ trivial) λc _=>Wk.br (λ_=>Wk.cal (zxa _ _) λu hu=>k2 _ hu) λ_=>k2 _ rfl) λp hp=>Wk.cal (zwd _ _ _ _) λu hu=>k _ (hq.trans (by rw [hp] at hu;exact hu))
  ·show Wk _ (zdf (zbU n) (zcs n) (zcv n) x nd d)
   unfold zdf
   refine Wk.jp (λ_=>True) (λJ k=>Wk.br (λ_=>k _ trivial) λ_=>k _ trivial) λb _=>Wk.br (λ_=>Wk.cal (zhH _ _) λu hu=>Wk.some (zj4 hu.1 hu.2.1 hu.2.2.1)) λ_=>?_
   have hk1:=hn.k1
   have hk2:=hn.k2
   refine Wk.jp (λ(t:zg)=>TN t) (λJ k=>Wk.br (λ_=>Wk.cal0 λu _=>k _ ⟨hk1,by show nd.kind <= 10;omega,(λf hf=>by cases hf),(λf hf=>by cases hf),List.nodup_nil,List.nodup_nil⟩) λ_=>k _ ⟨hk1,by show nd.kind <= 10;omega,(λf hf=>by cases hf),(λf hf=>by cases hf),List.nodup_nil,List.nodup_nil⟩) λt ht=>?_
   refine Wk.jp (λ(z:GMk)=>Mx x z) (λJ k=>Wk.asr λ_=>k _ ⟨rfl,id,λ_ h y hy=>(List.mem_append.1 hy).elim (h y) λh1=>by rw [zMo.1 h1];exact ht⟩) λz hz=>?_
   have hzm:AN z.m:=by rw [hz.m];exact hx
   refine Wk.jp (λ(w:GMk)=>Mx x w) (λJ k=>?_) λw hw=>Wk.some hw
   refine Wk.jp (λ_=>True) (λJ2 k2=>Wk.br (λ_=>k2 _ trivial) λ_=>Wk.br (λ_=>k2 _ trivial) λ_=>Wk.br (λ_=>k2 _ trivial) λ_=>k2 _ trivial) λc _=>Wk.br (λ_=>Wk.cal0 λu _=>?_) λ_=>?_
   ·refine Wk.jp (λ(w:GMk)=>Mx x w) (λJ2 k2=>Wk.br (λ_=>Wk.cal (zhH _ _) λv hv=>k2 _ (hz.trans (zj4 hv.1 hv.2.1 hv.2.2.1))) λ_=>k2 _ hz) λw hw=>Wk.br (λ_=>Wk.ck (Wk.cal (ih.node _ _ _ (by rw [hw.m];exact hx)) λv hv=>Wk.br (λ_=>Wk.asr λ_=>Wk.cal0 λs hs=>k _ ?_) λ_=>k _ (hw.trans hv))) λ_=>k _ hw
    have h1:=hw.trans hv
    exact ⟨h1.m,h1.e,λe ht2=>by
     have h2:=h1.t e ht2
     have hT:=h2 s (List.mem_of_getElem? hs)
     exact zqM h2 ⟨hT.k1,hT.k2,hT.f,hT.i,hT.fd,hT.id⟩⟩
   ·refine Wk.br (λ_=>Wk.cal (zxI _ _ hn.i) λv hv=>Wk.asr λ_=>Wk.asr λ_=>Wk.cal0 λs hs=>k _ ?_) λ_=>?_
    ·refine ⟨hv.1.trans hz.m,λe=>hz.e (hv.2.2 e).1,λe ht2=>?_⟩
     obtain ⟨e1,e2,e3⟩:=hv.2.2 e
     have h2:=hz.t e1 ht2
     dsimp only
     rw [hv.2.1] at hs ⊢
     have hT:=h2 s (List.mem_of_getElem? hs)
     exact zqM h2 ⟨hT.k1,hT.k2,hT.f,e2,hT.fd,e3⟩
    ·refine Wk.jp (λ_=>True) (λJ2 k2=>Wk.br (λ_=>k2 _ trivial) λ_=>Wk.br (λ_=>k2 _ trivial) λ_=>k2 _ trivial) λc _=>Wk.br (λ_=>Wk.cal (ih.fields _ _ _ _ hzm hn) λv hv=>k _ (hz.trans hv)) λ_=>k _ hz
theorem zAx (m:zaB) (hm:AN m):Wk (λr=>∀ t ∈ r.1.types,TN t) (zgS m):=by
 unfold zgS
 refine Wk.cal0 λy _=>Wk.br (λ_=>Wk.some λt ht=>by cases ht) λ_=>?_
 refine Wk.jp (λ_=>True) (λJ k=>Wk.asr λ_=>k _ trivial) λq5 _=>?_
 refine Wk.lp (λ(q:Int × zab × GMk)=>q.2.2.m=m/\∀ t ∈ q.2.2.l,TN t) ⟨rfl,λt ht=>by cases ht⟩ λL q ⟨h1,h2⟩ hL=>Wk.br (λ_=>?_) λ_=>Wk.some h2
 refine Wk.jp (λ(p:zab × GMk)=>Mx q.2.2 p.2) (λJ k=>Wk.cal0 λa _=>Wk.cal ((mkW fuel).node _ _ _ (by rw [h1];exact hm)) λb hb=>Wk.asr λ_=>k _ hb) λp hp=>Wk.br (λ_=>Wk.some λt ht=>by cases ht) λhe=>Wk.ck (hL _ ⟨hp.m.trans h1,hp.t (by simpa using he) h2⟩)
theorem zxT (s:Str):Wk (λr=>∀ t ∈ r.1.types,TN t) (zcg s):=by
 unfold zcg
 refine Wk.br (λ_=>Wk.some λt ht=>by cases ht) λ_=>Wk.cal (zyc s) λy hy=>Wk.br (λ_=>Wk.some λt ht=>by cases ht) λhe=>Wk.cal (zAx _ (hy (by simpa using he))) λz hz=>?_
 exact Wk.jp (λ_=>True) (λJ k=>Wk.br (λ_=>k _ trivial) λ_=>k _ trivial) λb _=>Wk.some hz
theorem zt7 {s:List UInt8} (h:zko s=true):s.length <= 90:=by
 unfold zko at h
 simp only [zBa] at h
 have:=zOT h.1.2
 omega
theorem zA6 {t:zab} (ht:zdp t) (hn:∀ x ∈ t.types,TN x):NmB t.types:=by
 have htl:=ht.types
 have key:∀ x ∈ t.types,x.fields.length <= 1000/\x.items.length <= 100000:=λx hx=>by
  obtain ⟨k,hk⟩:=List.mem_iff_getElem?.1 hx
  have hlt:=(List.getElem?_eq_some_iff.1 hk).1
  obtain ⟨y,hy⟩:=zsD ht (i:=(k:Int)) (Int.natCast_nonneg _) (by omega)
  have e:=hy.at_
  rw [Int.toNat_natCast,hk] at e
  cases e
  exact ⟨hy.fl,by have:=hy.ok.ilen;omega⟩
 exact ⟨by omega,λx hx=>(key x hx).1,λx hx=>(key x hx).2,λx hx f hf=>zt7 ((hn x hx).f f hf),λx hx it hit=>zt7 ((hn x hx).i it hit)⟩
theorem zvk {S:Frz}:∀ (n:Nat) (v:Val),SizeOf.sizeOf v <= n->∀ cs,zib S v cs->zhv v:=by
 intro n
 induction n with
 | zero=>intro ⟨k,n,b,l,r,m⟩ h;rw [Val.mk.sizeOf_spec] at h;omega
 | succ n ih =>
  intro ⟨k,n',b,l,r,m⟩ hn cs h
  unfold zib at h
  obtain ⟨vb,vl,vm,_,_,hi,_,_,_,⟨_,_,_,_,hl,hl2⟩⟩:=h
  refine .mk hi.1 hi.2 λw hw=>?_
  rcases hl2 with hl2 | ⟨_,c,_,_,_,hl2⟩
  ·rw [show l=[] from hl2] at hw;cases hw
  ·obtain ⟨c,hc⟩:=znE (zhe.1 hl2) w hw
   refine ih w ?_ c hc
   have:=List.sizeOf_lt_of_mem (show w ∈ l from hw)
   rw [Val.mk.sizeOf_spec] at hn
   omega
theorem zzs {S:Frz} {u:Value} {v:Val} (h:(isv v).p S u):zhv v:=zvk _ v (zNl _) _ h.2
theorem zvA (x:zg) (n:Int) (hl:x.items.length <= 1000000):T (λr=>0 <= r->∃ it ∈ x.items,it.number=n) (zdk x n):=by
 unfold zdk
 refine T.cal (Q:=λr=>0 <= r->∃ it ∈ x.items,it.number=n) ?_ λy _ hy=>T.some hy
 unfold zaM
 refine T.lp (ι:=Int) (λq=>0 <= q/\q <= (x.items.length:Int)) (λq=>((x.items.length:Int) - q).toNat) ⟨zIl _,by omega⟩ (by omega) λJ q ⟨q0,q1⟩ hJ=>T.br (λhb=>?_) λhb=>T.some λh=>absurd h (by decide)
 have hb:=zOT hb
 refine T.get q0 hb λy hy=>T.eq (y:=decide (y.number=n)) ?_ (T.br (λh=>T.some λ_=>⟨y,List.mem_of_getElem? hy,zOT h⟩) λh=>T.ck (by omega) (hJ _ ⟨by omega,by omega⟩ (by omega)))
 unfold zfV
 rfl
theorem zzt {t:zab} (ht:zdp t) {b:Bool} {i:Int} {x:zg} {v:Val} (h0:0 <= i) (hx:t.types[i.toNat]?=some x) (hk:x.kind=7 \/ x.kind=8) (hlen:v.l.length=x.fields.length)
    (hw:∀ w ∈ v.l,w.kind=0->w=zcV) (hfl:x.fields.length <= 1000) (hr0:0 <= x.root):T (λr=>r.2=zf1 t b/\(r.1=true->∀ s ∈ slots x,Grp x v s)) (zct (zf1 t b) i v):=by
  unfold zct
  have hlt:=(List.getElem?_eq_some_iff.1 hx).1
  have e:zs t.types i=some x:=by rw [zcH h0 (by omega)];exact congrArg some (List.getElem?_eq_some_iff.1 hx).2
  refine T.eq e (T.eq (znc ht i) ?_)
  rw [zmG h0 hx hk]
  have hsl:=zli hr0
  refine T.lp (ι:=Int) (λ(q:Int)=>0 <= q/\q <= ((slots x).length:Int)/\∀ (k:Nat),(k:Int) < q->∀ s,(slots x)[k]?=some s->Grp x v s) (λ(q:Int)=>(((slots x).length:Int) - q).toNat) ⟨zIl _,by omega,λk hk=>by omega⟩ (by omega) λL q ⟨q1,q2,q3⟩ hL=>T.br (λhb=>?_) λhb=>T.some ⟨rfl,λ_ s hs=>?_⟩
  · have hb:=zOT hb
    obtain ⟨s,hs⟩:∃ s,(slots x)[q.toNat]?=some s:=⟨_,List.getElem?_eq_getElem (by omega)⟩
    refine T.jp (ι:=Unit) (λ_=>Grp x v s) (λJ kk=>?_) λ_ hG=>T.ck (by omega) (hL _ ⟨by omega,by omega,λn hn s' hs'=>?_⟩ (by omega))
    · refine T.get q1 hb λs' hs'=>?_
      rw [hs] at hs';cases hs'
      have hsm:=List.mem_of_getElem? hs
      obtain ⟨k0,r,e0,e1,e2⟩:=zoC hr0 s hsm
      have hsl2:=zlS hr0 s hsm
      obtain ⟨k1,k2⟩:=e2 k0 (by rw [e0];exact zMs)
      refine T.get (zIl _) (by rw [e0,zLc];omega) λk hk'=>?_
      have ek:k=k0:=by rw [e0] at hk';simpa using hk'.symm
      subst ek
      have eh:s.headD 0=k:=by rw [e0];rfl
      refine T.get (by omega) k2 λf hff=>?_
      have eg:grp x.fields k=f.group:=by unfold grp;rw [hff];rfl
      refine T.br (λhgz=>kk _ ?_) λhgz=>?_
      · have hgz:=zOT hgz
        unfold Grp
        rw [eh,eg,hgz];rfl
      refine T.lp (ι:=Bool × Bool × Int) (λp=>0 <= p.2.2/\p.2.2 <= (s.length:Int)/\p.1=(s.take p.2.2.toNat).any (thr v)/\p.2.1=(s.take p.2.2.toNat).any (lck x v)) (λp=>((s.length:Int) - p.2.2).toNat) ⟨zIl _,by dsimp only;omega,rfl,rfl⟩ (by dsimp only;omega) λL2 p ⟨p1,p2,p3,p4⟩ hL2=>T.br (λhc2=>?_) λhc2=>?_
      · obtain ⟨so,la,m⟩:=p
        dsimp only at p1 p2 p3 p4 hL2 hc2 ⊢
        have hc2:=zOT hc2
        have em:(m + 1).toNat=m.toNat + 1:=by omega
        refine T.get p1 hc2 λk hk=>?_
        obtain ⟨k1,k2⟩:=e2 k (List.mem_of_getElem? hk)
        refine T.get (by omega) (by omega) λw hwk=>T.eq (zhR w) ?_
        have ea:(decide (w.kind=0) && pln w false false false false)=decide (w.kind=0):=by
          by_cases hz:w.kind=0
          · rw [zl4.2 (hw w (List.mem_of_getElem? hwk) hz),zDT hz]
          · rw [zDF hz];rfl
        rw [ea]
        obtain ⟨f',hf'⟩:∃ f,x.fields[k.toNat]?=some f:=⟨_,List.getElem?_eq_getElem (by omega)⟩
        have e':zs x.fields k=some f':=by rw [zcH (by omega) (by omega)];exact congrArg some (List.getElem?_eq_some_iff.1 hf').2
        have eth:(!decide (w.kind=0))=thr v k:=by unfold thr;rw [hwk]
        have elk:(!(!decide (w.kind=0)) && (!f'.optional) && (!f'.has))=lck x v k:=by
          unfold lck
          rw [<- eth,hf']
          show _=(!(!decide (w.kind=0)) && !(f'.optional || f'.has))
          cases decide (w.kind=0) <;> cases f'.optional <;> cases f'.has <;> rfl
        refine T.or' (T.orJ (d:=lck x v k) (λJ h2=>T.andJ (d:=!f'.optional) (λJ3 h3=>T.eq e' h3) (T.andJ (d:=!f'.has) (λJ3 h3=>T.eq e' h3) ?_)) (T.ck (by omega) (hL2 _ ⟨by dsimp only;omega,by dsimp only;omega,?_,?_⟩ (by dsimp only;omega))))
        · rw [elk];exact h2
        · dsimp only;rw [em,zjj hk,p3,eth]
        · dsimp only;rw [em,zjj hk,p4]
      · obtain ⟨so,la,m⟩:=p
        dsimp only at p1 p2 p3 p4 hL2 hc2 ⊢
        have hc2:=zOF hc2
        rw [zTl (by omega)] at p3 p4
        refine T.and' (T.br (λ_=>T.some ⟨rfl,λh=>by cases h⟩) λh=>kk _ ?_)
        unfold Grp
        rw [p3,p4] at h
        rw [Bool.and_assoc,h,Bool.and_false]
    · rcases Int.lt_or_le (n:Int) q with h4 | h4
      · exact q3 n h4 s' hs'
      · have:n=q.toNat:=by omega
        subst this
        rw [hs] at hs';cases hs'
        exact hG
  · have hb:=zOF hb
    obtain ⟨n,hn⟩:=List.mem_iff_getElem?.1 hs
    exact q3 n (by have:=(List.getElem?_eq_some_iff.1 hn).1;omega) s hn
structure Was (t:zab) (b:Bool) (B:Val->Prop):Prop where
 kid:∀ v,B v->∀ w ∈ v.l,B w
 unk:∀ {i:Int} {v:Val},B v->v.kind=12->0 <= i->i < t.types.length->zcA v->T (λr=>r.2=zf1 t b) (zcI (zf1 t b) i v)
 raw:∀ {i:Int} {v:Val},B v->0 <= i->i < t.types.length->zcA v->T (λr=>r.2=zf1 t b/\(r.1=true->v.more=[]->v.rule=0)) (zcQ (zf1 t b) i v)
theorem fitsW {t:zab} (ht:zdp t) {b:Bool} {B:Val->Prop} (hB:Was t b B):∀ {h n:Nat} {i:Int} {v:Val} {d:Int},0 <= d->d + h=18->6 * h + 6 <= n->zcA v->cnt v <= 10000000->B v->T (λr=>r.2=zf1 t b/\(r.1=true->Fit t h i v)) (zX n (zf1 t b) i v d):=by
 intro h
 induction h with
 | zero =>
  intro n i v d d0 hd hn hf hc hv
  obtain ⟨n,rfl⟩:∃ n',n=n' + 1:=⟨n - 1,by omega⟩
  show T _ (zbG (zY n) (zX n) (zal n) (zm n) (zo n) (zac n) (zf1 t b) i v d)
  unfold zbG
  refine T.or' (T.or' (T.br (λ_=>T.some ⟨rfl,λh=>by cases h⟩) λhq=>?_))
  rw [Bool.or_eq_false_iff] at hq
  have:=zOF hq.2
  omega
 | succ h ih =>
  intro n i v d d0 hd hn hf hc hv
  obtain ⟨n,rfl⟩:∃ n',n=n' + 6:=⟨n - 6,by omega⟩
  have htl:=ht.types
  have hvl:=hf.l
  show T _ (zbG (zY (n + 5)) (zX (n + 5)) (zal (n + 5)) (zm (n + 5)) (zo (n + 5)) (zac (n + 5)) (zf1 t b) i v d)
  unfold zbG
  refine T.or' (T.or' (T.br (λ_=>T.some ⟨rfl,λh=>by cases h⟩) λhq=>?_))
  rw [Bool.or_eq_false_iff,Bool.or_eq_false_iff] at hq
  have i0:0 <= i:=by have:=zOF hq.1.1;omega
  have i1:i < t.types.length:=by have h9:¬ ((t.types.length:Int) <= i):=zOF hq.1.2;omega
  obtain ⟨x,hx⟩:∃ x,t.types[i.toNat]?=some x:=⟨_,List.getElem?_eq_getElem (by omega)⟩
  obtain ⟨j,hj⟩:=zbO.sub ht.kids i.toNat (by omega) (by omega)
  have hjl:=hj.inb
  obtain ⟨x',hx',hok,hkid⟩:=hj
  rw [hx] at hx';cases hx'
  have hfl:=ziA hkid hjl (by omega)
  have hil:=hok.ilen
  have eg:zs t.types i=some x:=by rw [zcH i0 i1];exact congrArg some (List.getElem?_eq_some_iff.1 hx).2
  have mk:∀ r:Bool,v.kind=x.kind->(r=true->zwv x v (Fit t h))->(r=true->Fit t (h + 1) i v):=λr e k hr=>⟨i0,x,hx,.inr ⟨e,k hr⟩⟩
  refine T.eq eg (T.br (λh12=>T.cal (hB.unk hv (zOT h12) i0 i1 hf) λy _ hy=>T.some ⟨hy,λ_=>⟨i0,x,hx,.inl (zOT h12)⟩⟩) λh12=>T.br (λ_=>T.some ⟨rfl,λh=>by cases h⟩) λhkk=>?_)
  have hkk:v.kind=x.kind:=by simpa using hkk
  refine T.br (λk1=>?_) λ_=>T.br (λk2=>?_) λ_=>T.br (λk3=>?_) λ_=>T.br (λk4=>?_) λ_=>?_
  ·refine T.eq (zcU _ _ (by decide)) (T.andJ (d:=decide (v.n=0) || decide (v.n=1)) (λJ hh=>T.or' hh) (T.some ⟨rfl,mk _ hkk λhr=>?_⟩))
   rw [zBa] at hr
   exact .inl ⟨zOT k1,hr.1,hr.2⟩
  ·refine T.eq (zcU _ _ (by decide)) (T.andJ (d:=x.con.more || zgc x.con v.n) (λJ hh=>T.orJ (d:=zgc x.con v.n) (λJ2 h2=>T.eq (zg7 _ _) h2) hh) (T.some ⟨rfl,mk _ hkk λhr=>?_⟩))
   rw [zBa] at hr
   exact .inr (.inl ⟨zOT k2,hr.1,hr.2⟩)
  ·refine T.eq (zcU _ _ (by decide)) (T.jp (λb=>b=true->pln v true false false false=true/\∃ it ∈ x.items,it.number=v.n) (λJ kk=>T.br (λhp=>T.cal (zvA x v.n (by omega)) λy _ hy=>kk _ λh=>⟨hp,hy (zOT h)⟩) λ_=>kk _ λh=>by cases h) λb hb=>T.some ⟨rfl,mk _ hkk λhr=>?_⟩)
   exact .inr (.inr (.inl ⟨zOT k3,(hb hr).1,(hb hr).2⟩))
  ·exact T.eq (zcU _ _ (by decide)) (T.some ⟨rfl,mk _ hkk λhr=>.inr (.inr (.inr (.inl ⟨zOT k4,hr⟩)))⟩)
  refine T.jp (λb=>b=true->x.kind=5 \/ x.kind=6) (λJ kk=>T.br (λh5=>kk _ λ_=>.inl (zOT h5)) λ_=>kk _ λh=>.inr (zOT h)) λb56 h56=>T.br (λhb=>?_) λ_=>T.br (λk10=>?_) λ_=>T.br (λk9=>?_) λ_=>?_
  ·refine T.cal (Q:=λr=>r.2=zf1 t b/\(r.1=true->(pln v false true false false=true/\(v.b.length:Int) <= 70000/\(x.con.more || zgc x.con (v.b.length:Int))=true)/\(x.kind=5 \/ zcy v.b=some true))) ?_ λy _ hy=>T.some ⟨hy.1,mk _ hkk λhr=>?_⟩
   ·unfold zdz
    refine T.eq (zcU _ _ (by decide)) (T.and' (T.andJ (d:=x.con.more || zgc x.con (v.b.length:Int)) (λJ hh=>T.orJ (d:=zgc x.con (v.b.length:Int)) (λJ2 h2=>T.eq (zg7 _ _) h2) hh) ?_))
    refine T.jp (λb=>b=true->(pln v false true false false=true/\(v.b.length:Int) <= 70000/\(x.con.more || zgc x.con (v.b.length:Int))=true)/\(x.kind=5 \/ zcy v.b=some true)) (λJ kk=>T.br (λhp=>?_) λ_=>kk _ λh=>by cases h) λb hb2=>T.some ⟨rfl,hb2⟩
    rw [zBa,zBa] at hp
    have hp1:=zOT hp.1.2
    refine T.jp (λb=>b=true->x.kind=5 \/ zcy v.b=some true) (λJ2 k2=>T.br (λh5=>k2 _ λ_=>.inl (zOT h5)) λ_=>T.cal (zr4 v.b (by omega)) λy hy _=>k2 _ λh=>.inr (by rw [hy,h])) λb hb3=>kk _ λh=>⟨⟨hp.1.1,hp1,hp.2⟩,hb3 h⟩
   ·obtain ⟨⟨r1,r2,r3⟩,r4⟩:=hy.2 hr
    exact .inr (.inr (.inr (.inr (.inl ⟨h56 hb,r1,r2,r3,r4⟩))))
  ·refine T.cal (Q:=λr=>r.2=zf1 t b/\(r.1=true->pln v false false true false=true/\(x.con.more || zgc x.con (v.l.length:Int))=true/\∀ w ∈ v.l,Fit t h x.of w)) ?_ λy _ hy=>T.some ⟨hy.1,mk _ hkk λhr=>.inr (.inr (.inr (.inr (.inr (.inl ⟨zOT k10,hy.2 hr⟩)))))⟩
   show T _ (zcr (zY (n + 4)) (zX (n + 4)) (zal (n + 4)) (zm (n + 4)) (zo (n + 4)) (zac (n + 4)) (zf1 t b) x v d)
   unfold zcr
   refine T.eq (zcU _ _ (by decide)) (T.andJ (d:=x.con.more || zgc x.con (v.l.length:Int)) (λJ hh=>T.orJ (d:=zgc x.con (v.l.length:Int)) (λJ2 h2=>T.eq (zg7 _ _) h2) hh) ?_)
   refine T.jp (ι:=Bool × zt) (λr=>r.2=zf1 t b/\(r.1=true->pln v false false true false=true/\(x.con.more || zgc x.con (v.l.length:Int))=true/\∀ w ∈ v.l,Fit t h x.of w)) (λJ kk=>T.br (λhp=>?_) λ_=>kk _ ⟨rfl,λh=>by cases h⟩) λp hp=>T.some hp
   rw [zBa] at hp
   refine T.cal (Q:=λr=>r.2=zf1 t b/\(r.1=false->∀ w ∈ v.l,Fit t h x.of w)) ?_ λy _ hy=>kk _ ⟨hy.1,λh=>⟨hp.1,hp.2,hy.2 (by simpa using h)⟩⟩
   show T _ (zas (zY (n + 3)) (zX (n + 3)) (zal (n + 3)) (zm (n + 3)) (zo (n + 3)) (zac (n + 3)) v.l (zf1 t b) x d)
   unfold zas
   refine T.cal (Q:=λr=>r.2=zf1 t b/\(¬ 0 <= r.1->∀ w ∈ v.l,Fit t h x.of w)) ?_ λy _ hy=>T.some ⟨hy.1,λh=>hy.2 (zOF h)⟩
   show T _ (zaw (zY (n + 2)) (zX (n + 2)) (zal (n + 2)) (zm (n + 2)) (zo (n + 2)) (zac (n + 2)) v.l (zf1 t b) x d)
   unfold zaw
   refine T.lp (ι:=Int × zt) (λq=>0 <= q.1/\q.1 <= (v.l.length:Int)/\q.2=zf1 t b/\∀ (k:Nat),(k:Int) < q.1->∀ w,v.l[k]?=some w->Fit t h x.of w) (λq=>((v.l.length:Int) - q.1).toNat) ⟨zIl _,by dsimp only;omega,rfl,λk hk=>by dsimp only at hk;omega⟩ (by dsimp only;omega) λL q ⟨q1,q2,q3,q4⟩ hL=>?_
   obtain ⟨q,c⟩:=q
   dsimp only at q1 q2 q3 q4 hL ⊢
   subst q3
   refine T.br (λhb2=>?_) λhb2=>T.some ⟨rfl,λ_ w hw=>?_⟩
   ·have hb2:=zOT hb2
    refine T.get q1 hb2 λw hw=>?_
    have hwm:=List.mem_of_getElem? hw
    refine T.cal (Q:=λr=>r.2=zf1 t b/\(r.1=false->Fit t h x.of w)) ?_ λy _ hy=>?_
    ·show T _ (zbR (zY (n + 1)) (zX (n + 1)) (zal (n + 1)) (zm (n + 1)) (zo (n + 1)) (zac (n + 1)) w (zf1 t b) x d)
     unfold zbR
     exact T.ck (by omega) (T.cal (ih (by omega) (by omega) (by omega) (hf.kid w hwm) (by have:=zdq hwm;omega) (hB.kid v hv w hwm)) λy _ hy=>T.some ⟨hy.1,λh=>hy.2 (by simpa using h)⟩)
    ·refine T.br (λ_=>T.some ⟨hy.1,λh=>absurd q1 h⟩) λhy2=>?_
     rw [hy.1]
     refine T.ck (by omega) (hL _ ⟨by dsimp only;omega,by dsimp only;omega,rfl,λk hk w' hw'=>?_⟩ (by dsimp only;omega))
     dsimp only at hk
     rcases Int.lt_or_le (k:Int) q with h4 | h4
     ·exact q4 k h4 w' hw'
     ·have:k=q.toNat:=by omega
      subst this
      rw [hw] at hw';cases hw'
      exact hy.2 hy2
   ·have hb2:=zOF hb2
    obtain ⟨k,hk⟩:=List.mem_iff_getElem?.1 hw
    exact q4 k (by have:=(List.getElem?_eq_some_iff.1 hk).1;omega) w hk
  ·refine T.eq (zcU _ _ (by decide)) (T.and' (T.and' (T.and' ?_)))
   refine T.jp (ι:=Bool × zt) (λr=>r.2=zf1 t b/\(r.1=true->zwv x v (Fit t h))) (λJ kk=>T.br (λhp=>?_) λ_=>kk _ ⟨rfl,λh=>by cases h⟩) λp hp=>T.some ⟨hp.1,mk _ hkk hp.2⟩
   rw [zBa,zBa,zBa] at hp
   have hn0:=zOT hp.1.1.2
   have hnl:=zOT hp.1.2
   have hl1:=zOT hp.2
   obtain ⟨w,hw⟩:=List.length_eq_one_iff.1 (show v.l.length=1 by omega)
   have hwm:w ∈ v.l:=by rw [hw];exact zMo.2 rfl
   refine T.get hn0 hnl λf hff=>T.eq (y:=w) (by rw [hw];rfl) (T.ck (by omega) (T.cal (ih (by omega) (by omega) (by omega) (hf.kid w hwm) (by have:=zdq hwm;omega) (hB.kid v hv w hwm)) λy _ hy=>kk _ ⟨hy.1,λhr=>?_⟩))
   exact .inr (.inr (.inr (.inr (.inr (.inr (.inl ⟨zOT k9,hp.1.1.1,hn0,f,w,hff,hw,hy.2 hr⟩))))))
  ·refine T.jp (λb=>b=true->x.kind=7 \/ x.kind=8) (λJ kk=>T.br (λh5=>kk _ λ_=>.inl (zOT h5)) λ_=>kk _ λh=>.inr (zOT h)) λb78 h78=>T.br (λhb=>?_) λ_=>T.some ⟨rfl,λh=>by cases h⟩
   have hk78:=h78 hb
   refine T.cal (Q:=λr=>r.2=zf1 t b/\(r.1=true->zwv x v (Fit t h))) ?_ λy _ hy=>T.some ⟨hy.1,mk _ hkk hy.2⟩
   show T _ (zcb (zY (n + 4)) (zX (n + 4)) (zal (n + 4)) (zm (n + 4)) (zo (n + 4)) (zac (n + 4)) (zf1 t b) i v d)
   unfold zcb
   refine T.eq eg (T.eq (zcU _ _ (by decide)) (T.or' ?_))
   refine T.jp (ι:=Bool × zt) (λp=>p.2=zf1 t b/\(p.1=false->pln v false false true true=true/\v.l.length=x.fields.length/\(v.more=[]->v.rule=0))) (λJ kk=>T.br (λ_=>kk _ ⟨rfl,λh=>by cases h⟩) λh1=>T.cal (hB.raw hv i0 i1 hf) λy _ hy=>kk _ ⟨hy.1,λh2=>?_⟩) λp hp=>?_
   ·rw [Bool.or_eq_false_iff] at h1
    exact ⟨nt h1.1,ztY h1.2,hy.2 (by simpa using h2)⟩
   obtain ⟨p1,c⟩:=p
   obtain ⟨pc,hp⟩:=hp
   dsimp only at pc hp ⊢
   subst pc
   refine T.br (λ_=>T.some ⟨rfl,λh=>by cases h⟩) λhp1=>?_
   obtain ⟨hpl,hlen,hrule⟩:=hp hp1
   refine T.lp (ι:=Int × zt) (λq=>0 <= q.1/\q.1 <= (x.fields.length:Int)/\q.2=zf1 t b/\∀ (k:Nat),(k:Int) < q.1->∀ f w,x.fields[k]?=some f->v.l[k]?=some w->zqR x (Fit t h) k f w) (λq=>((x.fields.length:Int) - q.1).toNat) ⟨zIl _,by dsimp only;omega,rfl,λk hk=>by dsimp only at hk;omega⟩ (by dsimp only;omega) λL q ⟨q1,q2,q3,q4⟩ hL=>?_
   obtain ⟨q,c⟩:=q
   dsimp only at q1 q2 q3 q4 hL ⊢
   subst q3
   refine T.br (λhb2=>?_) λhb2=>?_
   ·have hb2:=zOT hb2
    refine T.jp (ι:=zt) (λc=>c=zf1 t b/\∀ f w,x.fields[q.toNat]?=some f->v.l[q.toNat]?=some w->zqR x (Fit t h) q.toNat f w) (λJ kk=>?_) λc hc2=>T.ck (by omega) (hL _ ⟨by dsimp only;omega,by dsimp only;omega,hc2.1,λk hk f w hkf hkw=>?_⟩ (by dsimp only;omega))
    ·refine T.get q1 hb2 λf hff=>T.get q1 (by omega) λw hw=>?_
     have hwm:=List.mem_of_getElem? hw
     have hcw:=zdq hwm
     have fin:zqR x (Fit t h) q.toNat f w->zf1 t b=zf1 t b/\∀ f w,x.fields[q.toNat]?=some f->v.l[q.toNat]?=some w->zqR x (Fit t h) q.toNat f w:=λhF=>⟨rfl,λf' w' hf' hw'=>by
      rw [hff] at hf';cases hf'
      rw [hw] at hw';cases hw'
      exact hF⟩
     refine T.br (λhz=>?_) λhz=>?_
     ·have hz:=zOT hz
      refine T.eq (zhR _) (T.orJ (d:=!(f.optional || f.has || decide (x.root <= q))) (λJ2 hh=>T.eq (zmQ q1 hff) hh) (T.br (λ_=>T.some ⟨rfl,λh=>by cases h⟩) λha=>kk _ (fin ?_)))
      rw [Bool.or_eq_false_iff] at ha
      have ha1:(decide (w.kind=0) && pln w false false false false)=true:=by simpa using ha.1
      have ha2:(f.optional || f.has || decide (x.root <= q))=true:=nt ha.2
      rw [Bool.or_eq_true,Bool.or_eq_true] at ha2
      refine .inl ⟨hz,zl4.1 ha1,?_⟩
      rcases ha2 with (h2 | h2) | h2
      ·exact .inl h2
      ·exact .inr (.inl h2)
      ·have:=zOT h2;exact .inr (.inr (by omega))
     ·have hz:=zOF hz
      refine T.ck (by omega) (T.cal (ih (by omega) (by omega) (by omega) (hf.kid w hwm) (by omega) (hB.kid v hv w hwm)) λy _ hy=>?_)
      refine T.jp (λb=>b=false->y.1=true/\(f.has=true->w ≠ f.dflt)) (λJ2 k2=>T.br (λ_=>k2 _ λh=>by cases h) λhy2=>?_) λb hb2=>T.br (λ_=>T.some ⟨hy.1,λh=>by cases h⟩) λhq=>?_
      ·refine T.jp (λb=>b=false->f.has=true->w ≠ f.dflt) (λJ3 k3=>T.br (λhh=>T.cal (znb (k:=10000000) (n:=fuel) (by omega) (by unfold fuel;omega) (hf.kid w hwm) _) λr _ hr=>k3 _ λh1 _ h2=>?_) λhh=>k3 _ λ_ h=>by rw [hh] at h;cases h) λb hb3=>k2 _ λh=>⟨by simpa using hy2,hb3 h⟩
       rw [hr.2 h2] at h1;cases h1
      ·obtain ⟨b1,b2⟩:=hb2 hq
       rw [hy.1]
       exact kk _ (fin (.inr ⟨hz,hy.2 b1,b2⟩))
    ·dsimp only at hk
     rcases Int.lt_or_le (k:Int) q with h4 | h4
     ·exact q4 k h4 f w hkf hkw
     ·have:k=q.toNat:=by omega
      subst this
      exact hc2.2 f w hkf hkw
   ·have hb2:=zOF hb2
    have hfields:∀ (k:Nat) f w,x.fields[k]?=some f->v.l[k]?=some w->zqR x (Fit t h) k f w:=λk f w h1 h2=>q4 k (by have:=(List.getElem?_eq_some_iff.1 h1).1;omega) f w h1 h2
    refine T.cal (zzt ht i0 hx hk78 hlen (λw hw hz=>?_) hfl hok.root0) λy _ hy=>T.some ⟨hy.1,λhr=>.inr (.inr (.inr (.inr (.inr (.inr (.inr ⟨hk78,hpl,hrule,hlen,hfields,hy.2 hr⟩))))))⟩
    obtain ⟨k,hk⟩:=List.mem_iff_getElem?.1 hw
    have hlt:=(List.getElem?_eq_some_iff.1 hk).1
    obtain ⟨f,hff⟩:∃ f,x.fields[k]?=some f:=⟨_,List.getElem?_eq_getElem (by omega)⟩
    exact (hfields k f w hff hk).elim (λh=>h.2.1) λh=>absurd hz h.1
def zfh (za3:Str) (zfH:Int) (a_v:Val) (a_s:Str):Option (Bool) :=
 cal (zcg za3) λy1=>cal (zfj y1.1 zfH) λy3=>jp (ι:=Bool) (λJ5=>br (!y1.2) (J5 (true)) (J5 ((!y3.2)))) (λq4=>jp (ι:=Bool) (λJ8=>br q4 (J8 (true)) (cal (zmC a_v (2000:Int)) λy10=>J8 ((!y10)))) (λq7=>jp (ι:=Bool) (λJ12=>br q7 (J12 (true)) (J12 ((decide ((5000:Int) < (a_s.b.length:Int)))))) (λq11=>br q11 (cal (zfq ) λy14=>some (y14)) (cal (zew y1.1 y3.1 a_v) λy15=>jp (ι:=Unit) (λJ17=>br (decide (y15.2=(0:Int))) (cal (zeQ y1.1 y3.1 y15.1) λy18=>jp (ι:=Bool) (λJ21=>br (!decide (y18.2.2=(0:Int))) (J21 (true)) (J21 ((!decide (y18.2.1=(0:Int)))))) (λq20=>jp (ι:=Bool) (λJ24=>br q20 (J24 (true)) (cal (zfE fuel a_v y18.1) λy26=>J24 ((!y26)))) (λq23=>br q23 (some (false)) (J17 ())))) (J17 ())) (λq16=>cal (zeQ y1.1 y3.1 a_s) λy27=>cal (zfq ) λy29=>jp (ι:=Bool) (λJ31=>br (!y29) (J31 (true)) (J31 ((!decide (y27.2.2=(0:Int)))))) (λq30=>br q30 (cal (zfq ) λy33=>jp (ι:=Bool) (λJ35=>br y33 (cal (zfE fuel y27.1 (Val.mk (0:Int) (0:Int) ([]:(List UInt8)) ([]:(List Val)) (0:Int) ([]:(List Raw)))) λy37=>J35 (y37)) (J35 (false))) (λq34=>some (q34))) (cal (zew y1.1 y3.1 y27.1) λy38=>cal (zeQ y1.1 y3.1 y38.1) λy39=>cal (zjp y1.1 y3.1 y27.1) λy41=>jp (ι:=Bool) (λJ43=>br y41 (cal (zh7 fuel y27.1) λy45=>J43 (y45)) (J43 (false))) (λq42=>jp (ι:=Bool) (λJ47=>br q42 (jp (ι:=Bool) (λJ50=>br (decide (y38.2=(5:Int))) (J50 (true)) (jp (ι:=Bool) (λJ53=>br (decide (y38.2=(0:Int))) (J53 ((decide (y39.2.2=(0:Int))))) (J53 (false))) (λq52=>jp (ι:=Bool) (λJ56=>br q52 (cal (zfE fuel y27.1 y39.1) λy58=>J56 (y58)) (J56 (false))) (λq55=>J50 (q55))))) (λq49=>J47 (q49))) (J47 (false))) (λq46=>some (q46))))))))))
theorem zzo {t:zab} (ht:zdp t):Was t false (λ_=>True) where
 kid _ _ _ _:=trivial
 unk _ _ i0 i1 hf:=by
  obtain ⟨x,hx⟩:=zsD ht i0 i1
  exact ⟨_,unkC ht hx hf,rfl⟩
 raw {i v} _ i0 i1 hf:=by
  obtain ⟨x,hx⟩:=zsD ht i0 i1
  refine ⟨_,rawsC ht hx hf,rfl,λh hm=>?_⟩
  have h:rwP t i x v=true:=h
  unfold rwP at h
  rw [if_pos hm] at h
  exact zOT h
theorem zpx {t:zab} (ht:zdp t) {i:Int} {v:Val} (hf:zcA v) (hc:cnt v <= 10000000):T (λr=>r=true->Fit t 17 i v/\cnt v <= 5000) (zeZ t i v):=by
 unfold zeZ
 refine T.cal (fitsW ht (b:=false) (zzo ht) (h:=17) (n:=fuel) (i:=i) (d:=1) (by decide) (by decide) (by unfold fuel;decide) hf hc trivial) λy hy1 hy=>?_
 refine T.jp (λb=>b=true->(Fit t 17 i v/\cnt v <= 5000)) (λJ kk=>T.br (λh=>T.eq (zpU (by unfold fuel;omega) (by omega) hf) (kk _ λh2=>?_)) λh=>kk _ λh=>by cases h) λb hb=>T.some hb
 have:=zOT h2
 exact ⟨hy.2 h,by omega⟩
theorem zBi {t:zab} (ht:zdp t) (hn:∀ x ∈ t.types,TN x):TG t.types:=by
 have hB:=zA6 ht hn
 have key:∀ x ∈ t.types,∃ i:Int,TyF t i x:=λx hx=>by
  obtain ⟨k,hk⟩:=List.mem_iff_getElem?.1 hx
  have hlt:=(List.getElem?_eq_some_iff.1 hk).1
  obtain ⟨y,hy⟩:=zsD ht (i:=(k:Int)) (Int.natCast_nonneg _) (by omega)
  have e:=hy.at_
  rw [Int.toNat_natCast,hk] at e
  cases e
  exact ⟨_,hy⟩
 have kid:∀ x ∈ t.types,∀ j ∈ zhk x,0 <= j/\j < t.types.length:=λx hx j hj=>by
  obtain ⟨i,hi⟩:=key x hx
  obtain ⟨e,hkid,he⟩:=hi.kids
  obtain ⟨c,d,e1,e2,e3,e4⟩:=zaN.mem3 zbO.le' hkid hj
  have:=e2.lt
  omega
 exact ⟨⟨hB.len,hB.fl,hB.il,λx hx f hf=>kid x hx _ (znL f hf),λx hx hk=>kid x hx _ (List.mem_append_right _ (by rw [if_pos hk];exact zMo.2 rfl)),λx hx=>⟨(hn x hx).k1,(hn x hx).k2⟩⟩,hB,⟨λx hx=>(hn x hx).f,λx hx=>(hn x hx).i,λx hx=>(hn x hx).fd,λx hx=>(hn x hx).id⟩⟩
theorem zyj {t:zab} (ht:zdp t) (w:Int):T (λ(r:Int × Bool)=>r.2=true->0 <= r.1/\r.1 < (t.types.length:Int)) (zfj t w):=by
 unfold zfj
 have h1:=ht.names
 have h2:=ht.roots
 refine T.br (λ_=>T.some λh=>by cases h) λh=>?_
 have h:=zOF h
 have hn:(UInt64.ofNat ((t.roots.length:Int) % 18446744073709551616).toNat).toNat=t.roots.length:=by rw [UInt64.toNat_ofNat'];omega
 have hz:¬ (UInt64.ofNat ((t.roots.length:Int) % 18446744073709551616).toNat)=0:=λe=>by
  have:=congrArg UInt64.toNat e
  rw [hn] at this
  exact h (by rw [this];rfl)
 have hlt:((UInt64.ofNat (w % 18446744073709551616).toNat) % (UInt64.ofNat ((t.roots.length:Int) % 18446744073709551616).toNat)).toNat < t.roots.length:=by
  rw [UInt64.toNat_mod,hn];exact Nat.mod_lt _ (by omega)
 refine T.asr (by rw [zDF hz];rfl) (T.ck (by omega) (T.get (by omega) (by omega) λy hy=>T.some λ_=>?_))
 obtain ⟨c,d,e1,e2,e3,e4⟩:=zaN.mem3 zbO.le' ht.kids (List.mem_of_getElem? hy)
 have:=e2.lt
 show 0 <= y/\y < (t.types.length:Int)
 omega
theorem zuX {t:zab} (ht:zdp t) (hB:NmB t.types) {i:Int} {v:Val} (hI:zhv v) (hf:zcA v) (hc:cnt v <= 5000):T (λo=>o.2=0->Fit t 17 i v/\bare v=true/\o=zoB t.types i v) (zew t i v):=by
 obtain ⟨a,ha1,ha2⟩:=zpx ht (i:=i) hf (show cnt v <= 10000000 by omega)
 have hbc:=zsm (k:=5000) (n:=fuel) hc (by unfold fuel;decide) hf
 cases a with
 | false =>
  unfold zew
  exact T.eq ha1 (T.br (λ_=>T.some λh=>by cases h) λh=>by cases h)
 | true =>
  cases hb:bare v with
  | false =>
   rw [hb] at hbc
   unfold zew
   exact T.eq ha1 (T.br (λh=>by cases h) λ_=>T.eq hbc (T.br (λ_=>T.some λh=>by cases h) λh=>by cases h))
  | true=>exact ⟨_,zpc ht hB (ha2 rfl).1 hb hI hf hc,λ_=>⟨(ha2 rfl).1,rfl,rfl⟩⟩
theorem zy5 {t:zab} (ht:zdp t) (hn:∀ x ∈ t.types,TN x) {i:Int} {b:List UInt8} {v:Val} {r:List zU} (h:zns t.types i b=.ok v r):BI v:=by
 unfold zns at h
 split at h
 ·cases h
 ·split at h
  ·cases h
  ·rename_i w r' hp
   have key:BI w:=zt9 (λx hx=>?_) 17 hp
   ·split at h
    ·cases h
    ·split at h
     ·cases h;exact key
     ·cases h
   ·obtain ⟨k,hk⟩:=List.mem_iff_getElem?.1 hx
    have hlt:=(List.getElem?_eq_some_iff.1 hk).1
    obtain ⟨y,hy⟩:=zsD ht (i:=(k:Int)) (Int.natCast_nonneg _) (by omega)
    have e:=hy.at_
    rw [Int.toNat_natCast,hk] at e
    cases e
    have:=(hn x hx).k2
    refine ⟨by omega,hy.fl,λit hit=>?_⟩
    have:=hy.ok.nums it hit
    unfold I64 at this
    omega
theorem zp3 {t:zab} (ht:zdp t) (hn:∀ x ∈ t.types,TN x) (hG:TG t.types) {i:Int} (i0:0 <= i) (i1:i < t.types.length) (s:Str):T (λr=>(r.2.2 ≠ 0/\r.1=zcV) \/ (r.2.2=0/\BI r.1/\zcA r.1/\Fit t 17 i r.1/\cnt r.1 <= 5000)) (zeQ t i s):=by
 refine ztV hG.ok i0 i1 s (λp e _ he=>.inl ⟨he,rfl⟩) λv r hp hf hc=>?_
 obtain ⟨a,ha1,ha2⟩:=zpx ht (i:=i) hf hc
 refine ⟨a,ha1,?_⟩
 cases a with
 | false=>exact .inl ⟨by decide,rfl⟩
 | true=>exact .inr ⟨rfl,zy5 ht hn hp,hf,ha2 rfl⟩
theorem zuG (s:Str) (w:Int) (v:Val) (x:Str) (hm:zgU v/\zhv v):zfh s w v x=some true:=by
 refine T.eqs ?_
 unfold zfh
 refine T.cal (zuK s) λy hy1 ht=>?_
 have hn:=zxT s y hy1
 have hG:=zBi ht hn
 refine T.cal (zyj ht w) λr _ hr=>?_
 refine T.jp (λb=>b=false->r.2=true) (λJ k=>T.br (λ_=>k _ λh=>by cases h) λ_=>k _ λh=>by simpa using h) λq4 h4=>?_
 refine T.jp (λb=>b=false->q4=false/\cnt v <= 2000/\zcA v) (λJ k=>T.br (λ_=>k _ λh=>by cases h) λh0=>T.cal (zu4 hm.1) λz _ hz=>k _ λh=>⟨h0,hz (by simpa using h)⟩) λq7 h7=>?_
 refine T.jp (λb=>b=false->q7=false) (λJ k=>T.br (λ_=>k _ λh=>by cases h) λh=>k _ λ_=>h) λq11 h11=>T.br (λ_=>T.eq zoo (T.some rfl)) λh=>?_
 obtain ⟨h40,hc,hf⟩:=h7 (h11 h)
 obtain ⟨i0,i1⟩:=hr (h4 h40)
 refine T.cal (zuX ht hG.nb (i:=r.1) hm.2 hf (by omega)) λo _ ho=>?_
 refine T.jp (ι:=Unit) (λ_=>True) (λJ k=>T.br (λh=>?_) λ_=>k _ trivial) λ_ _=>?_
 ·have h:=zOT h
  obtain ⟨hF,hb,e⟩:=ho h
  have hl:(txt 17 y.1.types r.1 v).length <= 8000:=by
   rcases Nat.lt_or_ge 8000 (txt 17 y.1.types r.1 v).length with hl | hl
   ·unfold zoB at e
    rw [if_pos hl] at e
    rw [e] at h;cases h
   ·exact hl
  have e:o=(⟨txt 17 y.1.types r.1 v⟩,0):=by rw [e];unfold zoB;rw [if_neg (by omega)]
  subst e
  refine T.eq (zrQ ht hG.ok hG.nw hF hb hm.2 hf (by omega) hl) (T.or' ?_)
  refine T.jp (λb=>b=false) (λJ2 k2=>T.br (λh=>by simp at h) λ_=>T.cal (zh5 (k:=2000) (n:=fuel) hc (by unfold fuel;omega) hf _) λz _ hz=>k2 _ (by rw [hz.2 rfl];rfl)) λq hq=>T.br (λh=>by rw [hq] at h;cases h) λ_=>k _ trivial
 refine T.cal (zp3 ht hn hG i0 i1 x) λz _ hz=>T.eq zoo (T.or' (T.br (λh=>?_) λh=>?_))
 ·rcases hz with ⟨_,hz⟩ | ⟨hz,_⟩
  ·refine T.eq zoo (T.jp (λb=>b=true) (λJ k=>T.br (λ_=>?_) λh=>by cases h) λb hb=>T.some hb)
   rw [hz]
   exact T.cal (zh5 (k:=1) (n:=fuel) (by rw [znZ];omega) (by unfold fuel;omega) (.mk (zNz _) (zNz _) (zNz _) (λr hr=>by cases hr) λw hw=>by cases hw) _) λr _ hr=>k _ (hr.2 rfl)
  ·rw [hz] at h;simp at h
 ·rcases hz with ⟨hz,_⟩ | ⟨_,hB,hf2,hF2,hc2⟩
  ·rw [zDF hz] at h;simp at h
  have key:∀ (o:Str × Int) (q:Val × Int × Int),(o.2=5 \/ (o.2=0/\q=(z.1,0,0)))->T (λr=>r=true) (cal (zjp y.1 r.1 z.1) λy41=>jp (ι:=Bool) (λJ43=>br y41 (cal (zh7 fuel z.1) λy45=>J43 (y45)) (J43 (false))) (λq42=>jp (ι:=Bool) (λJ47=>br q42 (jp (ι:=Bool) (λJ50=>br (decide (o.2=(5:Int))) (J50 (true)) (jp (ι:=Bool) (λJ53=>br (decide (o.2=(0:Int))) (J53 ((decide (q.2.2=(0:Int))))) (J53 (false))) (λq52=>jp (ι:=Bool) (λJ56=>br q52 (cal (zfE fuel z.1 q.1) λy58=>J56 (y58)) (J56 (false))) (λq55=>J50 (q55))))) (λq49=>J47 (q49))) (J47 (false))) (λq46=>some (q46)))):=λo q hoq=>by
   refine T.cal (zsZ ht hf2 hc2 hF2 hB.1) λb _ hb=>T.jp (λb=>b=true) (λJ k=>T.br (λ_=>T.eq (zvp (n:=fuel) (by unfold fuel;omega) hf2) (k _ hB.1)) λh=>by rw [hb] at h;cases h) λq42 h42=>T.jp (λb=>b=true) (λJ k=>T.br (λ_=>?_) λh=>by rw [h42] at h;cases h) λb hb=>T.some hb
   refine T.jp (λb=>b=true) (λJ2 k2=>T.br (λ_=>k2 _ rfl) λh5=>?_) λq hq=>k _ hq
   obtain ⟨o0,eq⟩:=hoq.resolve_left (zOF h5)
   subst eq
   refine T.jp (λb=>b=true) (λJ3 k3=>T.br (λ_=>k3 _ rfl) λh=>absurd o0 (zOF h)) λq52 h52=>T.jp (λb=>b=true) (λJ3 k3=>T.br (λ_=>T.cal (zh5 (k:=5000) (n:=fuel) hc2 (by unfold fuel;omega) hf2 _) λz _ hz=>k3 _ (hz.2 rfl)) λh=>by rw [h52] at h;cases h) λq hq=>k2 _ hq
  have hp:=zpc ht hG.nb hF2 hB.1 hB.2 hf2 hc2
  rcases Nat.lt_or_ge 8000 (txt 17 y.1.types r.1 z.1).length with hl | hl
  ·have e:zoB y.1.types r.1 z.1=(⟨[]⟩,5):=by unfold zoB;rw [if_pos hl]
   rw [e] at hp
   exact T.eq hp (T.cal (zp3 ht hn hG i0 i1 _) λq _ _=>key _ q (.inl rfl))
  ·have e:zoB y.1.types r.1 z.1=(⟨txt 17 y.1.types r.1 z.1⟩,0):=by unfold zoB;rw [if_neg (by omega)]
   rw [e] at hp
   exact T.eq hp (T.eq (zrQ ht hG.ok hG.nw hF2 hB.1 hB.2 hf2 hc2 hl) (key _ _ (.inr ⟨rfl,rfl⟩)))
end Go.Proofs.Q

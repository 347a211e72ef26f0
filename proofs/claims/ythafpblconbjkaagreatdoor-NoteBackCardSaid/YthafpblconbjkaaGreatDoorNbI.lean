/- Walks, printed by mill.py and grow.py. -/
import Derived.Test.YthafpblconbjkaaGreatDoorNbH
set_option linter.unusedVariables false
set_option linter.unusedSimpArgs false
set_option maxRecDepth 4000
set_option maxHeartbeats 4000000
namespace Go.Proofs.Q
open Go.Sy
section
attribute [local irreducible] isv zbl zar zbI zbs zef zez zgw zgg zdV zdE zcO zj zO zM cal br ck asr jp lp zs
instance r10_maker_standard_g a_x a_i a_v:zd Tryz.prog 172 (zcS a_x a_i a_v) (.b λzC=>.v λzaV=>.mk [zar zC (Fld.id zfr),isv a_i,isv a_v] [zj zC (zeT a_x zaV),zM zaV a_x.l] λr=>.mk [isv r.1] [zj zC (zeT r.2 zaV),zM zaV r.2.l]):=by
 unfold zcS
 exact W (.q 1 (.q 1 (.w [] (.j 0 (.b 1 λb2=>.m [false,true] (.v (λq7:Bool × Val=>[(5,zar b2 (Fld.id Val)),(8,isv q7.1)]) λq7=>[zj b2 (q7.2:Val)])) (.j 0 (.w 3 λzaV=>.b 2 λzC=>.m [false,false,true,true] (.v (λq51:GMk=>[]) λq51=>[zj zC (zeT q51 zaV),zM zaV q51.l])) .a .a) (.w [24] (.b .a (.b (.o 1 36 .a .a) (.w [37] (.b (.o 11 48 (.o 1 58 .a (.b (.o 2 57 .a .a) .a)) .a) (.b (.b (.k (.b 1 λb2=>.m [false,true] (.v (λq28:Bool × Int × Val=>[(5,zar b2 (Fld.id Val)),(8,isv q28.1),(9,isv q28.2.1)]) λq28=>[zj b2 (q28.2.2:Val)])) (.o 0 69 (.b (.w [] (.j 0 (.b 0 λb2=>.m [true] (.v (λq43:Bool × Val=>[(5,zar b2 (Fld.id Val)),(8,isv q43.1)]) λq43=>[zj b2 (q43.2:Val)])) .a (.p 5 (.d 0 .a))) .a) .a) .a)) .a) .a)) .a))) .a)) .a))) Tryz.func172 e

instance r10_maker_soft_g a_x a_i:zd Tryz.prog 91 (zdv a_x a_i) (.b λzC=>.v λzaV=>.mk [zar zC (Fld.id zfr),isv a_i] [zj zC (zeT a_x zaV),zM zaV a_x.l] λr=>.mk [isv r.1] [zj zC (zeT r.2 zaV),zM zaV r.2.l]):=by
 unfold zdv
 exact W .a Tryz.func91 e

instance r09_Wrap_g zg8 zeq zi1:zd Tryz.prog 142 (zkA zg8 zeq zi1) (.mk [isv zg8,isv zeq,isv zi1] [] λr=>.mk [isv r.1,isv r.2] []):=by
 unfold zkA
 exact W (.o 9 14 (.o 0 23 .a (.b .a (.o 1 22 .a .a))) .a) Tryz.func142 e

instance r10_maker_wrap_g a_x a_i zeq zi1:zd Tryz.prog 92 (zdw a_x a_i zeq zi1) (.b λzC=>.v λzaV=>.mk [zar zC (Fld.id zfr),isv a_i,isv zeq,isv zi1] [zj zC (zeT a_x zaV),zM zaV a_x.l] λr=>.mk [] [zj zC (zeT r zaV),zM zaV r.l]):=by
 unfold zdw
 exact W .a Tryz.func92 e

abbrev zjU (a_l:(List zg)) (a_i:Int):AC (Bool):=.v λzoY=>.mk [zbs zoY (a_l.length),isv a_i] [zM zoY a_l] λr=>.mk [isv r] [zM zoY a_l]
theorem zrz {zjn:(List zg)->Int->Option (Bool)} [∀ a_l a_i,zd Tryz.prog 225 (zjn a_l a_i) (zjU a_l a_i)] a_l a_i:zd Tryz.prog 225 (zhY zjn a_l a_i) (zjU a_l a_i):=by
 unfold zhY
 exact W (.o 0 21 (.b .a (.l [5,6] (.b (.o 1 50 .a .a) .a))) .a) Tryz.func225 e
theorem zkY:∀ n,(∀ a_l a_i,zd Tryz.prog 225 (zji n a_l a_i) (zjU a_l a_i))
 | 0=>λ_ _=>⟨λr h=>by cases h⟩
 | n + 1=>by
  have:=zkY n
  exact λa_l a_i=>zrz (zjn:=zji n) a_l a_i
instance r10_wild_g n a_l a_i:zd Tryz.prog 225 (zji n a_l a_i) (zjU a_l a_i):=(zkY n) a_l a_i

abbrev zhD (a_l:(List zg)) (a_i:Int):AC ((List Tag)):=.v λzoY=>.mk [zbs zoY (a_l.length),isv a_i] [zM zoY a_l] λr=>.mk [isv r] [zM zoY a_l]
theorem zpt {zhq:(List zg)->Int->Option ((List Tag))} [∀ a_l a_i,zd Tryz.prog 202 (zhq a_l a_i) (zhD a_l a_i)] a_l a_i:zd Tryz.prog 202 (zgx zhq a_l a_i) (zhD a_l a_i):=by
 unfold zgx
 exact W (.b .a (.k (.m [] (.t λt0=>.v (λq6:(List Tag) × Int=>[(5,zbI t0 q6.1),(6,isv q6.2)]) λq6=>[zO t0])) .a)) Tryz.func202 e
theorem zjc:∀ n,(∀ a_l a_i,zd Tryz.prog 202 (zg9 n a_l a_i) (zhD a_l a_i))
 | 0=>λ_ _=>⟨λr h=>by cases h⟩
 | n + 1=>by
  have:=zjc n
  exact λa_l a_i=>zpt (zhq:=zg9 n) a_l a_i
instance r10_begins_g n a_l a_i:zd Tryz.prog 202 (zg9 n a_l a_i) (zhD a_l a_i):=(zjc n) a_l a_i

instance h_In_api_Tag_g a_l a_x:zd Tryz.prog 167 (zfD a_l a_x) (.mk [isv a_l,isv a_x] [] λr=>.mk [isv r] []):=by
 unfold zfD
 exact W (.l [5] (.b (.d 0 .a) .a)) Tryz.func167 e

instance r09_Distinct_g zlO:zd Tryz.prog 226 (zgz zlO) (.mk [isv zlO] [] λr=>.mk [isv r] []):=by
 unfold zgz
 exact W (.k (.m [] (.t λt0=>.v (λq1:(List Tag) × Int=>[(3,zbI t0 q1.1),(4,isv q1.2)]) λq1=>[zO t0])) (.b (.k (.m [true] (.t λt0=>.v (λq29:(List Tag) × Int=>[(3,zbI t0 q29.1),(5,isv q29.2)]) λq29=>[zO t0])) .a) .a)) Tryz.func226 e

instance r10_maker_told_g a_x a_l znB:zd Tryz.prog 204 (zcK a_x a_l znB) (.b λzC=>.v λzaV=>.mk [zar zC (Fld.id zfr),isv a_l,isv znB] [zj zC (zeT a_x zaV),zM zaV a_x.l] λr=>.mk [isv r.1] [zj zC (zeT r.2 zaV),zM zaV r.2.l]):=by
 unfold zcK
 exact W (.k (.b 0 λzC=>.m [] (.t λt0=>.v (λq2:(List (List Tag)) × Int=>[(0,zar zC (Fld.id zfr)),(7,zbI t0 q2.1),(8,isv q2.2)]) λq2=>[zO t0])) (.b (.p 0 (.d 512 (.o 0 32 (.b .a (.p 0 (.d 7168 .a))) (.b (.o 1 31 .a .a) .a)))) .a)) Tryz.func204 e

instance r10_Loose_g a_t:zd Tryz.prog 201 (zhJ a_t) (.mk [isv a_t] [] λr=>.mk [isv r] []):=by
 unfold zhJ
 exact W (.k (.m [] (.t λt0=>.v (λq1:(List Bool) × Int=>[(3,zbI t0 q1.1),(4,isv q1.2)]) λq1=>[zO t0])) (.b (.o 9 26 (.o 3 32 .a .a) .a) .a)) Tryz.func201 e

instance r10_Last_g a_t:zd Tryz.prog 166 (zjq a_t) (.mk [isv a_t] [] λr=>.mk [isv r] []):=by
 unfold zjq
 exact W (.l [4] (.o 0 17 .a .a)) Tryz.func166 e

instance r10_maker_apart_g a_x a_t:zd Tryz.prog 173 (zdN a_x a_t) (.b λzC=>.v λzaV=>.mk [zar zC (Fld.id zfr),isv a_t] [zj zC (zeT a_x zaV),zM zaV a_x.l] λr=>.mk [isv r.1] [zj zC (zeT r.2 zaV),zM zaV r.2.l]):=by
 unfold zdN
 exact W (.b .a (.k (.w 1 λzaV=>.b 0 λzC=>.m [true,true] (.v (λq4:Int × GMk=>[(6,isv q4.1)]) λq4=>[zj zC (zeT q4.2 zaV),zM zaV q4.2.l])) (.b (.w [] (.j 0 (.w 1 λzaV=>.b 0 λzC=>.m [true,true] (.v (λq36:GMk=>[]) λq36=>[zj zC (zeT q36 zaV),zM zaV q36.l])) .a (.b .a (.l [7] (.o 0 43 .a .a)))) .a) (.d 1280 (.j 1 (.w 1 λzaV=>.b 0 λzC=>.m [true,true] (.v (λq60:Bool × GMk=>[(70,isv q60.1)]) λq60=>[zj zC (zeT q60.2 zaV),zM zaV q60.2.l])) .a .a))))) Tryz.func173 e

end
section
attribute [local irreducible] isv zbl zar zbI zbs zef zez zgw zgg zdV zdE zcO zj zO zM cal br ck asr jp lp zs

abbrev zd7 (a_x:GMk) (a_i:Int) (a_n_:zh) (za:Int):AC (GMk):=.b λzC=>.v λzaV=>.mk [zar zC (Fld.id zfr),isv a_i,isv a_n_,isv za] [zj zC (zeT a_x zaV),zM zaV a_x.l] λr=>.v λu1=>.mk [] [zj zC (zeT r u1),zM u1 r.l]
abbrev zd1 (a_x:GMk) (a_k:Int) (za:Int):AC (Int × GMk):=.b λzC=>.v λzaV=>.mk [zar zC (Fld.id zfr),isv a_k,isv za] [zj zC (zeT a_x zaV),zM zaV a_x.l] λr=>.v λu1=>.mk [isv r.1] [zj zC (zeT r.2 u1),zM u1 r.2.l]
abbrev zeE (a_x:GMk) (a_n_:zh) (za:Int):AC (Int × GMk):=.b λzC=>.v λzaV=>.mk [zar zC (Fld.id zfr),isv a_n_,isv za] [zj zC (zeT a_x zaV),zM zaV a_x.l] λr=>.v λu1=>.mk [isv r.1] [zj zC (zeT r.2 u1),zM u1 r.2.l]
theorem zls {zaZ:GMk->Int->zh->Int->Option (GMk)} {za5:GMk->Int->Int->Option (Int × GMk)} {zbf:GMk->zh->Int->Option (Int × GMk)} [∀ a_x a_i a_n_ za,zd Tryz.prog 141 (zaZ a_x a_i a_n_ za) (zd7 a_x a_i a_n_ za)] [∀ a_x a_k za,zd Tryz.prog 41 (za5 a_x a_k za) (zd1 a_x a_k za)] [∀ a_x a_n_ za,zd Tryz.prog 90 (zbf a_x a_n_ za) (zeE a_x a_n_ za)] a_x a_i a_n_ za:zd Tryz.prog 141 (zcT zaZ za5 zbf a_x a_i a_n_ za) (zd7 a_x a_i a_n_ za):=by
 unfold zcT
 exact W (.k (.b 0 λzC=>.m [] (.v (λq2:Bool × Int=>[(0,zar zC (Fld.id zfr)),(8,isv q2.1),(9,isv q2.2)]) λq2=>[])) (.b (.p 0 (.d 0 (.o 1 46 .a .a))) (.o 5 55 (.o 0 60 (.j 0 (.w 1 λzaV=>.b 0 λzC=>.m [true,true] (.v (λq185:GMk=>[]) λq185=>[zj zC (zeT q185 zaV),zM zaV q185.l])) (.k (.b 0 λzC=>.m [true,true] (.t λt0=>.w λt1=>.v (λq188:(List zaC) × Int × GMk=>[(11,zbI t0 q188.1),(12,isv q188.2.1)]) λq188=>[zO t0,zj zC (zeT q188.2.2 t1),zM t1 (q188.2.2.l:List zg)])) (.o 0 74 (.b (.q 1 (.k (.w 3 λu0=>.b 2 λzC=>.b 0 λb266=>.m [false,false,true,true] (.v (λq267:Int × GMk=>[(13,zar b266 (Fld.id zaC)),(14,isv q267.1)]) λq267=>[zj zC (zeT q267.2 u0),zM u0 (q267.2.l:List zg)])) (.b (.w [] (.j 0 (.w 1 λu0=>.b 0 λzC=>.b 2 λb266=>.m [true,true] (.v (λq298:GMk=>[(13,zar b266 (Fld.id zaC))]) λq298=>[zj zC (zeT q298 u0),zM u0 (q298.l:List zg)])) .a (.p 13 (.d 0 .a))) .a) (.o 0 113 (.j 0 (.b 1 λzC=>.b 0 λb266=>.w 2 λv307=>.m [true,true,true] (.v (λq311:zaC × GMk=>[]) λq311=>[zj b266 (q311.1:zaC),zj zC (zeT q311.2 v307),zM v307 q311.2.l])) (.o 0 129 (.j 0 (.b 1 λzC=>.b 0 λb266=>.w 2 λv307=>.m [false,true,true] (.v (λq317:GMk=>[(13,zar b266 (Fld.id zaC))]) λq317=>[zj zC (zeT q317 v307),zM v307 q317.l])) .a (.b (.p 13 (.d 384 .a)) .a)) .a) .a) .a)))) (.b (.u 153 .a) .a)) .a)) .a) .a) .a))) Tryz.func141 e
theorem zmo {zaZ:GMk->Int->zh->Int->Option (GMk)} {za5:GMk->Int->Int->Option (Int × GMk)} {zbf:GMk->zh->Int->Option (Int × GMk)} [∀ a_x a_i a_n_ za,zd Tryz.prog 141 (zaZ a_x a_i a_n_ za) (zd7 a_x a_i a_n_ za)] [∀ a_x a_k za,zd Tryz.prog 41 (za5 a_x a_k za) (zd1 a_x a_k za)] [∀ a_x a_n_ za,zd Tryz.prog 90 (zbf a_x a_n_ za) (zeE a_x a_n_ za)] a_x a_k za:zd Tryz.prog 41 (zdi zaZ za5 zbf a_x a_k za) (zd1 a_x a_k za):=by
 unfold zdi
 exact W (.b .a (.j 0 (.b 0 λzC=>.m [true,true] (.w λt0=>.v (λq4:Int × GMk=>[(8,isv q4.1)]) λq4=>[zj zC (zeT q4.2 t0),zM t0 q4.2.l])) (.o 0 56 (.j 0 (.b 0 λzC=>.w 1 λg4=>.m [true,true] (.v (λq17:GMk=>[]) λq17=>[zj zC (zeT q17 g4),zM g4 q17.l])) .a (.b (.w [] (.j 0 (.b 0 λzC=>.w 1 λg4=>.m [true,true] (.v (λq19:Int × GMk=>[(9,isv q19.1)]) λq19=>[zj zC (zeT q19.2 g4),zM g4 q19.2.l])) .a (.b .a (.o 1 74 .a .a))) .a) .a)) .a) (.b (.e (.v 0 (.v 1 (.v 2 (.v 3 (.v 4 (.v 6 (.v 7 (.v 8 (.v 10 (.v 11 (.v 15 (.alt 5 (.t 9 (.t 12 (.v 13 (.v 14 (.t 16 (.v 17 .nil)))))) (.t 9 (.alt 5 (.t 12 (.v 13 (.v 14 (.t 16 (.v 17 .nil))))) (.t 12 (.t 5 (.v 13 (.v 14 (.t 16 (.v 17 .nil)))))))))))))))))))) (.b .a (.b .a .a))) .a))) Tryz.func41 e
theorem zmq {zaZ:GMk->Int->zh->Int->Option (GMk)} {za5:GMk->Int->Int->Option (Int × GMk)} {zbf:GMk->zh->Int->Option (Int × GMk)} [∀ a_x a_i a_n_ za,zd Tryz.prog 141 (zaZ a_x a_i a_n_ za) (zd7 a_x a_i a_n_ za)] [∀ a_x a_k za,zd Tryz.prog 41 (za5 a_x a_k za) (zd1 a_x a_k za)] [∀ a_x a_n_ za,zd Tryz.prog 90 (zbf a_x a_n_ za) (zeE a_x a_n_ za)] a_x a_n_ za:zd Tryz.prog 90 (zdf zaZ za5 zbf a_x a_n_ za) (zeE a_x a_n_ za):=by
 unfold zdf
 exact W (.o 0 20 (.b .a (.q 0 (.q 1 (.j 0 (.b 0 λb6=>.m [true] (.v (λq7:zg=>[]) λq7=>[zj b6 (q7:zg)])) (.v [] (.j 0 (.b 1 λzC=>.m [false,true,true] (.w λt0=>.v (λq11:GMk=>[(8,zgg)]) λq11=>[zj zC (zeT q11 t0),zM t0 q11.l])) (.w [] (.j 0 (.b 0 λzC=>.m [true,true] (.w λt0=>.v (λq20:GMk=>[]) λq20=>[zj zC (zeT q20 t0),zM t0 q20.l])) .a (.w [57] (.b (.j 0 (.b 0 λzC=>.w 1 λg11=>.m [true,true] (.v (λq25:GMk=>[]) λq25=>[zj zC (zeT q25 g11),zM g11 q25.l])) .a .a) (.b (.e (.v 0 (.v 1 (.v 2 (.v 4 (.v 5 (.v 6 (.alt 3 (.t 7 (.v 8 (.v 9 (.t 10 .nil)))) (.t 7 (.t 3 (.v 8 (.v 9 (.t 10 .nil)))))))))))) (.b .a .a)) (.w [107] .a .a))) .a)) .a) (.p 8 (.e (.v 0 (.v 1 (.v 2 (.v 3 (.v 5 (.alt 4 (.t 6 (.t 7 (.v 8 (.v 9 (.t 10 .nil))))) (.t 6 (.t 4 (.t 7 (.v 8 (.v 9 (.t 10 .nil)))))))))))) (.b .a .a)))) .a) .a)))) .a) Tryz.func90 e
theorem zgL:∀ n,(∀ a_x a_i a_n_ za,zd Tryz.prog 141 (zbU n a_x a_i a_n_ za) (zd7 a_x a_i a_n_ za))/\(∀ a_x a_k za,zd Tryz.prog 41 (zcs n a_x a_k za) (zd1 a_x a_k za))/\(∀ a_x a_n_ za,zd Tryz.prog 90 (zcv n a_x a_n_ za) (zeE a_x a_n_ za))
 | 0=>⟨λ_ _ _ _=>⟨λr h=>by cases h⟩,λ_ _ _=>⟨λr h=>by cases h⟩,λ_ _ _=>⟨λr h=>by cases h⟩⟩
 | n + 1=>by
  obtain ⟨h0,h1,h2⟩:=zgL n
  exact ⟨λa_x a_i a_n_ za=>zls (zaZ:=zbU n) (za5:=zcs n) (zbf:=zcv n) a_x a_i a_n_ za,λa_x a_k za=>zmo (zaZ:=zbU n) (za5:=zcs n) (zbf:=zcv n) a_x a_k za,λa_x a_n_ za=>zmq (zaZ:=zbU n) (za5:=zcs n) (zbf:=zcv n) a_x a_n_ za⟩
instance r10_maker_node_g n a_x a_k za:zd Tryz.prog 41 (zcs n a_x a_k za) (zd1 a_x a_k za):=(zgL n).2.1 a_x a_k za
end
end Go.Proofs.Q

/- Walks, printed by mill.py and grow.py. -/
import Derived.Test.YthafpblconbjkaaGreatDoorPqH
set_option linter.unusedVariables false
set_option linter.unusedSimpArgs false
set_option maxRecDepth 4000
set_option maxHeartbeats 4000000
namespace Go.Proofs.Q
open Go.Sy
section
attribute [local irreducible] isv zbn zal zbK zbw zem zeI zgQ zf1 zdV zdI zcO zj zO zI cal br ck asr jp lp zq
instance r10_maker_standard_g a_x a_i a_v:zd Tryz.prog 172 (zcQ a_x a_i a_v) (.b λzp=>.v λzaS=>.mk [zal zp (Fld.id zfy),isv a_i,isv a_v] [zj zp (zfa a_x zaS),zI zaS a_x.l] λr=>.mk [isv r.1] [zj zp (zfa r.2 zaS),zI zaS r.2.l]):=by
 unfold zcQ
 exact W (.q 1 (.q 1 (.w [] (.j 0 (.b 1 λb2=>.m [false,true] (.v (λq7:Bool × Val=>[(5,zal b2 (Fld.id Val)),(8,isv q7.1)]) λq7=>[zj b2 (q7.2:Val)])) (.j 0 (.w 3 λzaS=>.b 2 λzp=>.m [false,false,true,true] (.v (λq51:GMk=>[]) λq51=>[zj zp (zfa q51 zaS),zI zaS q51.l])) .a .a) (.w [24] (.b .a (.b (.o 1 36 .a .a) (.w [37] (.b (.o 11 48 (.o 1 58 .a (.b (.o 2 57 .a .a) .a)) .a) (.b (.b (.k (.b 1 λb2=>.m [false,true] (.v (λq28:Bool × Int × Val=>[(5,zal b2 (Fld.id Val)),(8,isv q28.1),(9,isv q28.2.1)]) λq28=>[zj b2 (q28.2.2:Val)])) (.o 0 69 (.b (.w [] (.j 0 (.b 0 λb2=>.m [true] (.v (λq43:Bool × Val=>[(5,zal b2 (Fld.id Val)),(8,isv q43.1)]) λq43=>[zj b2 (q43.2:Val)])) .a (.p 5 (.d 0 .a))) .a) .a) .a)) .a) .a)) .a))) .a)) .a))) Tryz.func172 e

instance r10_maker_soft_g a_x a_i:zd Tryz.prog 91 (zdF a_x a_i) (.b λzp=>.v λzaS=>.mk [zal zp (Fld.id zfy),isv a_i] [zj zp (zfa a_x zaS),zI zaS a_x.l] λr=>.mk [isv r.1] [zj zp (zfa r.2 zaS),zI zaS r.2.l]):=by
 unfold zdF
 exact W .a Tryz.func91 e

instance r09_Wrap_g zhA zew zi5:zd Tryz.prog 142 (zkM zhA zew zi5) (.mk [isv zhA,isv zew,isv zi5] [] λr=>.mk [isv r.1,isv r.2] []):=by
 unfold zkM
 exact W (.o 9 14 (.o 0 23 .a (.b .a (.o 1 22 .a .a))) .a) Tryz.func142 e

instance r10_maker_wrap_g a_x a_i zew zi5:zd Tryz.prog 92 (zdG a_x a_i zew zi5) (.b λzp=>.v λzaS=>.mk [zal zp (Fld.id zfy),isv a_i,isv zew,isv zi5] [zj zp (zfa a_x zaS),zI zaS a_x.l] λr=>.mk [] [zj zp (zfa r zaS),zI zaS r.l]):=by
 unfold zdG
 exact W .a Tryz.func92 e

abbrev zkg (a_l:(List zg)) (a_i:Int):AC (Bool):=.v λznW=>.mk [zbw znW (a_l.length),isv a_i] [zI znW a_l] λr=>.mk [isv r] [zI znW a_l]
theorem zqX {zjz:(List zg)->Int->Option (Bool)} [∀ a_l a_i,zd Tryz.prog 225 (zjz a_l a_i) (zkg a_l a_i)] a_l a_i:zd Tryz.prog 225 (ziJ zjz a_l a_i) (zkg a_l a_i):=by
 unfold ziJ
 exact W (.o 0 21 (.b .a (.l [5,6] (.b (.o 1 50 .a .a) .a))) .a) Tryz.func225 e
theorem zkY:∀ n,(∀ a_l a_i,zd Tryz.prog 225 (zjs n a_l a_i) (zkg a_l a_i))
 | 0=>λ_ _=>⟨λr h=>by cases h⟩
 | n + 1=>by
  have:=zkY n
  exact λa_l a_i=>zqX (zjz:=zjs n) a_l a_i
instance r10_wild_g n a_l a_i:zd Tryz.prog 225 (zjs n a_l a_i) (zkg a_l a_i):=(zkY n) a_l a_i

abbrev zh0 (a_l:(List zg)) (a_i:Int):AC ((List Tag)):=.v λznW=>.mk [zbw znW (a_l.length),isv a_i] [zI znW a_l] λr=>.mk [isv r] [zI znW a_l]
theorem zoQ {zhH:(List zg)->Int->Option ((List Tag))} [∀ a_l a_i,zd Tryz.prog 202 (zhH a_l a_i) (zh0 a_l a_i)] a_l a_i:zd Tryz.prog 202 (zgX zhH a_l a_i) (zh0 a_l a_i):=by
 unfold zgX
 exact W (.b .a (.k (.m [] (.t λt0=>.v (λq6:(List Tag) × Int=>[(5,zbK t0 q6.1),(6,isv q6.2)]) λq6=>[zO t0])) .a)) Tryz.func202 e
theorem zjk:∀ n,(∀ a_l a_i,zd Tryz.prog 202 (zhB n a_l a_i) (zh0 a_l a_i))
 | 0=>λ_ _=>⟨λr h=>by cases h⟩
 | n + 1=>by
  have:=zjk n
  exact λa_l a_i=>zoQ (zhH:=zhB n) a_l a_i
instance r10_begins_g n a_l a_i:zd Tryz.prog 202 (zhB n a_l a_i) (zh0 a_l a_i):=(zjk n) a_l a_i

instance h_In_api_Tag_g a_l a_x:zd Tryz.prog 167 (zfR a_l a_x) (.mk [isv a_l,isv a_x] [] λr=>.mk [isv r] []):=by
 unfold zfR
 exact W (.l [5] (.b (.d 0 .a) .a)) Tryz.func167 e

instance r09_Distinct_g zlX:zd Tryz.prog 226 (zg9 zlX) (.mk [isv zlX] [] λr=>.mk [isv r] []):=by
 unfold zg9
 exact W (.k (.m [] (.t λt0=>.v (λq1:(List Tag) × Int=>[(3,zbK t0 q1.1),(4,isv q1.2)]) λq1=>[zO t0])) (.b (.k (.m [true] (.t λt0=>.v (λq29:(List Tag) × Int=>[(3,zbK t0 q29.1),(5,isv q29.2)]) λq29=>[zO t0])) .a) .a)) Tryz.func226 e

instance r10_maker_told_g a_x a_l znr:zd Tryz.prog 204 (zcM a_x a_l znr) (.b λzp=>.v λzaS=>.mk [zal zp (Fld.id zfy),isv a_l,isv znr] [zj zp (zfa a_x zaS),zI zaS a_x.l] λr=>.mk [isv r.1] [zj zp (zfa r.2 zaS),zI zaS r.2.l]):=by
 unfold zcM
 exact W (.k (.b 0 λzp=>.m [] (.t λt0=>.v (λq2:(List (List Tag)) × Int=>[(0,zal zp (Fld.id zfy)),(7,zbK t0 q2.1),(8,isv q2.2)]) λq2=>[zO t0])) (.b (.p 0 (.d 512 (.o 0 32 (.b .a (.p 0 (.d 7168 .a))) (.b (.o 1 31 .a .a) .a)))) .a)) Tryz.func204 e

instance r10_Loose_g a_t:zd Tryz.prog 201 (zie a_t) (.mk [isv a_t] [] λr=>.mk [isv r] []):=by
 unfold zie
 exact W (.k (.m [] (.t λt0=>.v (λq1:(List Bool) × Int=>[(3,zbK t0 q1.1),(4,isv q1.2)]) λq1=>[zO t0])) (.b (.o 9 26 (.o 3 32 .a .a) .a) .a)) Tryz.func201 e

instance r10_Last_g a_t:zd Tryz.prog 166 (zjB a_t) (.mk [isv a_t] [] λr=>.mk [isv r] []):=by
 unfold zjB
 exact W (.l [4] (.o 0 17 .a .a)) Tryz.func166 e

instance r10_maker_apart_g a_x a_t:zd Tryz.prog 173 (zdQ a_x a_t) (.b λzp=>.v λzaS=>.mk [zal zp (Fld.id zfy),isv a_t] [zj zp (zfa a_x zaS),zI zaS a_x.l] λr=>.mk [isv r.1] [zj zp (zfa r.2 zaS),zI zaS r.2.l]):=by
 unfold zdQ
 exact W (.b .a (.k (.w 1 λzaS=>.b 0 λzp=>.m [true,true] (.v (λq4:Int × GMk=>[(6,isv q4.1)]) λq4=>[zj zp (zfa q4.2 zaS),zI zaS q4.2.l])) (.b (.w [] (.j 0 (.w 1 λzaS=>.b 0 λzp=>.m [true,true] (.v (λq36:GMk=>[]) λq36=>[zj zp (zfa q36 zaS),zI zaS q36.l])) .a (.b .a (.l [7] (.o 0 43 .a .a)))) .a) (.d 1280 (.j 1 (.w 1 λzaS=>.b 0 λzp=>.m [true,true] (.v (λq60:Bool × GMk=>[(70,isv q60.1)]) λq60=>[zj zp (zfa q60.2 zaS),zI zaS q60.2.l])) .a .a))))) Tryz.func173 e

end
section
attribute [local irreducible] isv zbn zal zbK zbw zem zeI zgQ zf1 zdV zdI zcO zj zO zI cal br ck asr jp lp zq

abbrev zd9 (a_x:GMk) (a_i:Int) (a_n_:zh) (za:Int):AC (GMk):=.b λzp=>.v λzaS=>.mk [zal zp (Fld.id zfy),isv a_i,isv a_n_,isv za] [zj zp (zfa a_x zaS),zI zaS a_x.l] λr=>.v λu1=>.mk [] [zj zp (zfa r u1),zI u1 r.l]
abbrev zd5 (a_x:GMk) (a_k:Int) (za:Int):AC (Int × GMk):=.b λzp=>.v λzaS=>.mk [zal zp (Fld.id zfy),isv a_k,isv za] [zj zp (zfa a_x zaS),zI zaS a_x.l] λr=>.v λu1=>.mk [isv r.1] [zj zp (zfa r.2 u1),zI u1 r.2.l]
abbrev zeN (a_x:GMk) (a_n_:zh) (za:Int):AC (Int × GMk):=.b λzp=>.v λzaS=>.mk [zal zp (Fld.id zfy),isv a_n_,isv za] [zj zp (zfa a_x zaS),zI zaS a_x.l] λr=>.v λu1=>.mk [isv r.1] [zj zp (zfa r.2 u1),zI u1 r.2.l]
theorem zlu {za2:GMk->Int->zh->Int->Option (GMk)} {za5:GMk->Int->Int->Option (Int × GMk)} {zbf:GMk->zh->Int->Option (Int × GMk)} [∀ a_x a_i a_n_ za,zd Tryz.prog 141 (za2 a_x a_i a_n_ za) (zd9 a_x a_i a_n_ za)] [∀ a_x a_k za,zd Tryz.prog 41 (za5 a_x a_k za) (zd5 a_x a_k za)] [∀ a_x a_n_ za,zd Tryz.prog 90 (zbf a_x a_n_ za) (zeN a_x a_n_ za)] a_x a_i a_n_ za:zd Tryz.prog 141 (zcU za2 za5 zbf a_x a_i a_n_ za) (zd9 a_x a_i a_n_ za):=by
 unfold zcU
 exact W (.k (.b 0 λzp=>.m [] (.v (λq2:Bool × Int=>[(0,zal zp (Fld.id zfy)),(8,isv q2.1),(9,isv q2.2)]) λq2=>[])) (.b (.p 0 (.d 0 (.o 1 46 .a .a))) (.o 5 55 (.o 0 60 (.j 0 (.w 1 λzaS=>.b 0 λzp=>.m [true,true] (.v (λq185:GMk=>[]) λq185=>[zj zp (zfa q185 zaS),zI zaS q185.l])) (.k (.b 0 λzp=>.m [true,true] (.t λt0=>.w λt1=>.v (λq188:(List zaF) × Int × GMk=>[(11,zbK t0 q188.1),(12,isv q188.2.1)]) λq188=>[zO t0,zj zp (zfa q188.2.2 t1),zI t1 (q188.2.2.l:List zg)])) (.o 0 74 (.b (.q 1 (.k (.w 3 λu0=>.b 2 λzp=>.b 0 λb266=>.m [false,false,true,true] (.v (λq267:Int × GMk=>[(13,zal b266 (Fld.id zaF)),(14,isv q267.1)]) λq267=>[zj zp (zfa q267.2 u0),zI u0 (q267.2.l:List zg)])) (.b (.w [] (.j 0 (.w 1 λu0=>.b 0 λzp=>.b 2 λb266=>.m [true,true] (.v (λq298:GMk=>[(13,zal b266 (Fld.id zaF))]) λq298=>[zj zp (zfa q298 u0),zI u0 (q298.l:List zg)])) .a (.p 13 (.d 0 .a))) .a) (.o 0 113 (.j 0 (.b 1 λzp=>.b 0 λb266=>.w 2 λv307=>.m [true,true,true] (.v (λq311:zaF × GMk=>[]) λq311=>[zj b266 (q311.1:zaF),zj zp (zfa q311.2 v307),zI v307 q311.2.l])) (.o 0 129 (.j 0 (.b 1 λzp=>.b 0 λb266=>.w 2 λv307=>.m [false,true,true] (.v (λq317:GMk=>[(13,zal b266 (Fld.id zaF))]) λq317=>[zj zp (zfa q317 v307),zI v307 q317.l])) .a (.b (.p 13 (.d 384 .a)) .a)) .a) .a) .a)))) (.b (.u 153 .a) .a)) .a)) .a) .a) .a))) Tryz.func141 e
theorem zmu {za2:GMk->Int->zh->Int->Option (GMk)} {za5:GMk->Int->Int->Option (Int × GMk)} {zbf:GMk->zh->Int->Option (Int × GMk)} [∀ a_x a_i a_n_ za,zd Tryz.prog 141 (za2 a_x a_i a_n_ za) (zd9 a_x a_i a_n_ za)] [∀ a_x a_k za,zd Tryz.prog 41 (za5 a_x a_k za) (zd5 a_x a_k za)] [∀ a_x a_n_ za,zd Tryz.prog 90 (zbf a_x a_n_ za) (zeN a_x a_n_ za)] a_x a_k za:zd Tryz.prog 41 (zdp za2 za5 zbf a_x a_k za) (zd5 a_x a_k za):=by
 unfold zdp
 exact W (.b .a (.j 0 (.b 0 λzp=>.m [true,true] (.w λt0=>.v (λq4:Int × GMk=>[(8,isv q4.1)]) λq4=>[zj zp (zfa q4.2 t0),zI t0 q4.2.l])) (.o 0 56 (.j 0 (.b 0 λzp=>.w 1 λg4=>.m [true,true] (.v (λq17:GMk=>[]) λq17=>[zj zp (zfa q17 g4),zI g4 q17.l])) .a (.b (.w [] (.j 0 (.b 0 λzp=>.w 1 λg4=>.m [true,true] (.v (λq19:Int × GMk=>[(9,isv q19.1)]) λq19=>[zj zp (zfa q19.2 g4),zI g4 q19.2.l])) .a (.b .a (.o 1 74 .a .a))) .a) .a)) .a) (.b (.e (.v 0 (.v 1 (.v 2 (.v 3 (.v 4 (.v 6 (.v 7 (.v 8 (.v 10 (.v 11 (.v 15 (.alt 5 (.t 9 (.t 12 (.v 13 (.v 14 (.t 16 (.v 17 .nil)))))) (.t 9 (.alt 5 (.t 12 (.v 13 (.v 14 (.t 16 (.v 17 .nil))))) (.t 12 (.t 5 (.v 13 (.v 14 (.t 16 (.v 17 .nil)))))))))))))))))))) (.b .a (.b .a .a))) .a))) Tryz.func41 e
theorem zmr {za2:GMk->Int->zh->Int->Option (GMk)} {za5:GMk->Int->Int->Option (Int × GMk)} {zbf:GMk->zh->Int->Option (Int × GMk)} [∀ a_x a_i a_n_ za,zd Tryz.prog 141 (za2 a_x a_i a_n_ za) (zd9 a_x a_i a_n_ za)] [∀ a_x a_k za,zd Tryz.prog 41 (za5 a_x a_k za) (zd5 a_x a_k za)] [∀ a_x a_n_ za,zd Tryz.prog 90 (zbf a_x a_n_ za) (zeN a_x a_n_ za)] a_x a_n_ za:zd Tryz.prog 90 (zdm za2 za5 zbf a_x a_n_ za) (zeN a_x a_n_ za):=by
 unfold zdm
 exact W (.o 0 20 (.b .a (.q 0 (.q 1 (.j 0 (.b 0 λb6=>.m [true] (.v (λq7:zg=>[]) λq7=>[zj b6 (q7:zg)])) (.v [] (.j 0 (.b 1 λzp=>.m [false,true,true] (.w λt0=>.v (λq11:GMk=>[(8,zf1)]) λq11=>[zj zp (zfa q11 t0),zI t0 q11.l])) (.w [] (.j 0 (.b 0 λzp=>.m [true,true] (.w λt0=>.v (λq20:GMk=>[]) λq20=>[zj zp (zfa q20 t0),zI t0 q20.l])) .a (.w [57] (.b (.j 0 (.b 0 λzp=>.w 1 λg11=>.m [true,true] (.v (λq25:GMk=>[]) λq25=>[zj zp (zfa q25 g11),zI g11 q25.l])) .a .a) (.b (.e (.v 0 (.v 1 (.v 2 (.v 4 (.v 5 (.v 6 (.alt 3 (.t 7 (.v 8 (.v 9 (.t 10 .nil)))) (.t 7 (.t 3 (.v 8 (.v 9 (.t 10 .nil)))))))))))) (.b .a .a)) (.w [107] .a .a))) .a)) .a) (.p 8 (.e (.v 0 (.v 1 (.v 2 (.v 3 (.v 5 (.alt 4 (.t 6 (.t 7 (.v 8 (.v 9 (.t 10 .nil))))) (.t 6 (.t 4 (.t 7 (.v 8 (.v 9 (.t 10 .nil)))))))))))) (.b .a .a)))) .a) .a)))) .a) Tryz.func90 e
theorem zhg:∀ n,(∀ a_x a_i a_n_ za,zd Tryz.prog 141 (zb2 n a_x a_i a_n_ za) (zd9 a_x a_i a_n_ za))/\(∀ a_x a_k za,zd Tryz.prog 41 (zcx n a_x a_k za) (zd5 a_x a_k za))/\(∀ a_x a_n_ za,zd Tryz.prog 90 (zcz n a_x a_n_ za) (zeN a_x a_n_ za))
 | 0=>⟨λ_ _ _ _=>⟨λr h=>by cases h⟩,λ_ _ _=>⟨λr h=>by cases h⟩,λ_ _ _=>⟨λr h=>by cases h⟩⟩
 | n + 1=>by
  obtain ⟨h0,h1,h2⟩:=zhg n
  exact ⟨λa_x a_i a_n_ za=>zlu (za2:=zb2 n) (za5:=zcx n) (zbf:=zcz n) a_x a_i a_n_ za,λa_x a_k za=>zmu (za2:=zb2 n) (za5:=zcx n) (zbf:=zcz n) a_x a_k za,λa_x a_n_ za=>zmr (za2:=zb2 n) (za5:=zcx n) (zbf:=zcz n) a_x a_n_ za⟩
instance r10_maker_node_g n a_x a_k za:zd Tryz.prog 41 (zcx n a_x a_k za) (zd5 a_x a_k za):=(zhg n).2.1 a_x a_k za
end
end Go.Proofs.Q

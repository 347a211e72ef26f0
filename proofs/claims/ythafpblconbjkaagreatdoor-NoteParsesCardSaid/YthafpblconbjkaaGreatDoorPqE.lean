/- NoteParses: the law's model answers true. No condition: general lemmas. -/
import Derived.Test.YthafpblconbjkaaGreatDoorPqD
set_option linter.unusedVariables false
set_option linter.unusedSimpArgs false
set_option maxRecDepth 4000
set_option maxHeartbeats 4000000
namespace Go.Proofs.Q
open Go.Sy
def conN:zbx:=⟨false,false,false,false,0,0⟩
def zta (l:List zg):Bool:=decide (l.length <= 1000) && l.all λx=>decide (x.fields.length <= 1000) && decide (x.items.length <= 1000) && (x.fields.all λf=>decide (0 <= f.ty) && decide (f.ty < l.length) && zml f.name.b && decide (f.name.b.length <= 90)) && (x.items.all λit=>zml it.name.b && decide (it.name.b.length <= 90)) &&
 (!decide (x.kind=10) || (decide (0 <= x.of) && decide (x.of < l.length))) && decide (1 <= x.kind) && decide (x.kind <= 10) && decide ((x.fields.map λf=>f.name).Nodup) && decide ((x.items.map λit=>it.name).Nodup)
structure TG (l:List zg):Prop where
 ok:TOk l
 nb:NmB l
 nw:NmW l
theorem zvP {l:List zg} (h:zta l=true):TG l:=by
 unfold zta at h
 rw [zBa] at h
 have hl:=zOT h.1
 have ha:=λx hx=>List.all_eq_true.1 h.2 x hx
 simp only [zBa] at ha
 refine ⟨⟨hl,λx hx=>zOT (ha x hx).1.1.1.1.1.1.1.1,λx hx=>?_,λx hx f hf=>?_,λx hx hk=>?_,λx hx=>?_⟩,⟨hl,λx hx=>zOT (ha x hx).1.1.1.1.1.1.1.1,λx hx=>?_,λx hx f hf=>?_,λx hx it hit=>?_⟩,⟨λx hx f hf=>?_,λx hx it hit=>?_,λx hx=>?_,λx hx=>?_⟩⟩
 ·have:=zOT (ha x hx).1.1.1.1.1.1.1.2;omega
 ·have:=List.all_eq_true.1 (ha x hx).1.1.1.1.1.1.2 f hf
  simp only [zBa] at this
  exact ⟨zOT this.1.1.1,zOT this.1.1.2⟩
 ·have:=(ha x hx).1.1.1.1.2
  rw [zDT hk,Bool.not_true,Bool.false_or,zBa] at this
  exact ⟨zOT this.1,zOT this.2⟩
 ·exact ⟨zOT (ha x hx).1.1.1.2,zOT (ha x hx).1.1.2⟩
 ·have:=zOT (ha x hx).1.1.1.1.1.1.1.2;omega
 ·have:=List.all_eq_true.1 (ha x hx).1.1.1.1.1.1.2 f hf
  simp only [zBa] at this
  exact zOT this.2
 ·have:=List.all_eq_true.1 (ha x hx).1.1.1.1.1.2 it hit
  simp only [zBa] at this
  exact zOT this.2
 ·have:=List.all_eq_true.1 (ha x hx).1.1.1.1.1.1.2 f hf
  simp only [zBa] at this
  exact this.1.2
 ·have:=List.all_eq_true.1 (ha x hx).1.1.1.1.1.2 it hit
  simp only [zBa] at this
  exact this.1
 ·exact zOT (ha x hx).1.2
 ·exact zOT (ha x hx).2
/-! ### A table is well made: by looking -/
def dokB (v:Val):Bool:=decide (v.b.length <= 8000) && v.l.isEmpty && v.more.isEmpty && decide (0 <= v.kind) && decide (v.kind <= 6) && decide (v.rule=0)
def zvO (t:zg):Bool:=(decide (t.kind=9) || !t.tags.isEmpty) && decide (t.tags.length <= 100000) && decide (0 <= t.root) && (if t.kind=7 \/ t.kind=8 \/ t.kind=9 then decide (t.root <= t.fields.length) else t.fields.isEmpty && (decide (t.kind=3) || decide (t.root=0))) && (if t.kind=3 then decide (t.root <= t.items.length) else t.items.isEmpty) && decide (t.items.length <= 8001) && (t.items.all λit=>decide (-9223372036854775808 <= it.number) && decide (it.number <= 9223372036854775807)) && t.fields.all λf=>dokB f.dflt
theorem zy9 {t:zg} (h:zvO t=true):zkS t:=by
 unfold zvO at h
 simp only [zBa] at h
 obtain ⟨⟨⟨⟨⟨⟨⟨h1,h2⟩,h3⟩,h4⟩,h5⟩,h6⟩,h7⟩,h8⟩:=h
 refine ⟨λk=>?_,zOT h2,zOT h3,λk=>?_,λk=>?_,λk=>?_,λk=>?_,zOT h6,λit hit=>?_,λf hf=>?_,λk k2=>?_⟩
 ·rw [zDF k,Bool.false_or] at h1
  intro e;rw [e] at h1;cases h1
 ·rw [if_pos k] at h4;exact zOT h4
 ·rw [if_pos k] at h5;exact zOT h5
 ·rw [if_neg k,zBa] at h4;exact List.isEmpty_iff.1 h4.1
 ·rw [if_neg k] at h5;exact List.isEmpty_iff.1 h5
 ·have:=List.all_eq_true.1 h7 it hit
  rw [zBa] at this
  exact ⟨zOT this.1,zOT this.2⟩
 ·have:=List.all_eq_true.1 h8 f hf
  unfold dokB at this
  simp only [zBa] at this
  exact ⟨zOT this.1.1.1.1.1,List.isEmpty_iff.1 this.1.1.1.1.2,List.isEmpty_iff.1 this.1.1.1.2,zOT this.1.1.2,zOT this.1.2,zOT this.2⟩
 ·rw [if_neg k2,zBa,zDF k,Bool.false_or] at h4
  exact zOT h4.2
def zpn (S:Nat->Option Nat):List Int->Nat->Option Nat
 | [],a=>some a
 | k :: r,a=>if k=(a:Int) then (match S a with
  | some c=>zpn S r c
  | none=>none) else none
theorem zpO {S:Nat->Option Nat} {R:Nat->Nat->Prop} (h:∀ a c,S a=some c->R a c):∀ {l:List Int} {a b:Nat},zpn S l a=some b->zaK R l a b
 | [],a,b,e=>by injection e
 | k :: r,a,b,e=>by
  change (if k=(a:Int) then (match S a with | some c=>zpn S r c | none=>none) else none)=some b at e
  by_cases hk:k=(a:Int)
  ·rw [if_pos hk] at e
   cases hc:S a with
   | none=>rw [hc] at e;cases e
   | some c=>rw [hc] at e;exact ⟨c,hk,h a c hc,zpO h e⟩
  ·rw [if_neg hk] at e;cases e
def subJ:Nat->List zg->Nat->Option Nat
 | 0,_,_=>none
 | h + 1,l,i=>match l[i]? with
  | none=>none
  | some t=>if zvO t=true then zpn (subJ h l) (zhn t) (i + 1) else none
theorem zzq:∀ {h:Nat} {l:List zg} {i j:Nat},subJ h l i=some j->zbu h l i j:=by
 intro h
 induction h with
 | zero=>intro l i j e;cases e
 | succ h ih =>
  intro l i j e
  change (match l[i]? with | none=>none | some t=>if zvO t=true then zpn (subJ h l) (zhn t) (i + 1) else none)=some j at e
  cases ht:l[i]? with
  | none=>rw [ht] at e;cases e
  | some t =>
   rw [ht] at e
   dsimp only at e
   by_cases hb:zvO t=true
   ·rw [if_pos hb] at e
    exact ⟨t,ht,zy9 hb,zpO (R:=zbu h l) (λa c h=>ih h) e⟩
   ·rw [if_neg hb] at e;cases e
def tabB (t:zZ):Bool:=decide (t.names.length <= 40) && decide (t.roots.length=t.names.length) && decide (t.types.length <= 300) && decide (zpn (subJ 17 t.types) t.roots 0=some t.types.length) && (List.range t.names.length).all λp=>(t.names[p]?).all λs=>decide (fnd t.names s=(p:Int))
theorem zy1 {t:zZ} (h:tabB t=true):zdt t:=by
 unfold tabB at h
 simp only [zBa] at h
 obtain ⟨⟨⟨⟨h1,h2⟩,h3⟩,h4⟩,h5⟩:=h
 refine ⟨zOT h1,zOT h2,zOT h3,zpO (R:=zbu 17 t.types) (λa c h=>zzq h) (zOT h4),λp s hp=>?_⟩
 have hlt:=(List.getElem?_eq_some_iff.1 hp).1
 have:=List.all_eq_true.1 h5 p (List.mem_range.2 hlt)
 rw [hp] at this
 exact zOT this

/-! ### awake -/
def zvt:zZ:=⟨⟨[77]⟩,[⟨[65]⟩],[0],[⟨7,[⟨0,16⟩],conN,[],[⟨⟨[97]⟩,1,false,false,zc2,0⟩,⟨⟨[98]⟩,2,true,false,zc2,0⟩],2,false,0⟩,⟨2,[⟨0,2⟩],conN,[],[],0,false,0⟩,⟨1,[⟨0,1⟩],conN,[],[],0,false,0⟩]⟩
theorem zyi:zck (Str.mk [77,32,68,69,70,73,78,73,84,73,79,78,83,32,58,58,61,32,66,69,71,73,78,32,65,32,58,58,61,32,83,69,81,85,69,78,67,69,32,123,32,97,32,73,78,84,69,71,69,82,44,32,98,32,66,79,79,76,69,65,78,32,79,80,84,73,79,78,65,76,32,125,32,69,78,68])=some (zvt,true):=by
 rw [zlp];kernel_rfl
theorem zzw:TG zvt.types:=zvP (by kernel_rfl)
theorem zxh:zdt zvt:=zy1 (by kernel_rfl)
def ztM:Val:=zd3 7 0 [] [zd3 2 5 [] [],zd3 1 1 [] []]
theorem zwZ {t:zZ} {h:Nat} {i n:Int} {x:zg} (h0:0 <= i) (hx:t.types[i.toNat]?=some x) (hk:x.kind=2) (hc:(x.con.more || ze0 x.con n)=true):Fit t (h + 1) i (zd3 2 n [] []) :=
 ⟨h0,x,hx,.inr ⟨hk.symm,.inr (.inl ⟨hk,rfl,hc⟩)⟩⟩
theorem zv9 {t:zZ} {h:Nat} {i n:Int} {x:zg} (h0:0 <= i) (hx:t.types[i.toNat]?=some x) (hk:x.kind=1) (hc:(decide (n=0) || decide (n=1))=true):Fit t (h + 1) i (zd3 1 n [] []) :=
 ⟨h0,x,hx,.inr ⟨hk.symm,.inl ⟨hk,rfl,hc⟩⟩⟩
theorem zxF {t:zZ} {h:Nat} {i:Int} {l:List Val} {x:zg} (h0:0 <= i) (hx:t.types[i.toNat]?=some x) (hk:x.kind=7) (hl:l.length=x.fields.length) (hf:∀ (k:Nat) f w,x.fields[k]?=some f->l[k]?=some w->znk x (Fit t h) k f w) (hs:slots x=[]):Fit t (h + 1) i (zd3 7 0 [] l) :=
 ⟨h0,x,hx,.inr ⟨hk.symm,.inr (.inr (.inr (.inr (.inr (.inr (.inr ⟨.inl hk,rfl,λ_=>rfl,hl,hf,λs hs'=>by rw [hs] at hs';cases hs'⟩))))))⟩⟩
theorem there {x:zg} {F:Int->Val->Prop} {k:Nat} {f:zaF} {w:Val} (h1:w.kind ≠ 0) (h2:F f.ty w) (h3:f.has=false):znk x F k f w:=.inr ⟨h1,h2,λh=>by rw [h3] at h;cases h⟩
theorem zrc {k n:Int} {b:List UInt8} {l:List Val} (h:zc3 n) (hl:∀ w ∈ l,zlo w):zlo (zd3 k n b l):=by
 unfold zc3 at h
 exact .mk h.1 (by have:=h.2;show n <= _;omega) hl
theorem zrd:zgN=some true:=by
 refine T.eqs ?_
 unfold zgN
 have hF:Fit zvt 17 0 ztM:=zxF (zIl _) rfl rfl rfl (λk f w hf hw=>by
  match k,hf,hw with
  | 0,hf,hw=>cases hf;cases hw;exact there (show (2:Int) ≠ 0 by decide) (zwZ (by decide) rfl rfl rfl) rfl
  | 1,hf,hw=>cases hf;cases hw;exact there (show (1:Int) ≠ 0 by decide) (zv9 (by decide) rfl rfl rfl) rfl
  | k + 2,hf,hw=>cases hw) rfl
 have hI:zlo ztM:=zrc (zk3 (by decide) (by decide)) λw hw=>by
  simp only [List.mem_cons,List.not_mem_nil,or_false] at hw
  rcases hw with e | e <;> subst e <;> exact zrc (zk3 (by decide) (by decide)) λw hw=>by cases hw
 have hf:zbV ztM:=zer (zNz _) (by decide) λw hw=>by
  simp only [List.mem_cons,List.not_mem_nil,or_false] at hw
  rcases hw with e | e <;> subst e <;> exact zer (zNz _) (zNz _) λw hw=>by cases hw
 have hb:bare ztM=true:=by decide +kernel
 have hc:cnt ztM <= 5000:=by decide +kernel
 have hp:=zwO zxh zzw.nb hF hb hI hf hc
 have ht:txt 17 zvt.types 0 ztM=[123,32,97,32,53,44,32,98,32,84,82,85,69,32,125]:=by
  have e5:Lib.itoa 5=[53]:=by
   unfold Lib.itoa
   rw [if_neg (by decide),Lib.decDigits_one (by decide)];rfl
  show brc [[97] ++ 32 :: Lib.itoa 5,[98] ++ 32 :: [84,82,85,69]]=_
  rw [e5];rfl
 unfold pTxt at hp
 rw [ht,if_neg (by decide)] at hp
 refine T.eq zyi (T.eq hp ?_)
 exact T.and' (T.and' (T.some rfl))

/-! ### NoteLeaves -/
def hz (e:Int):Tag × Bool × Int × Int × Int:=(Tag.mk 0 0,false,0,0,e)
structure TyF (t:zZ) (i:Int) (x:zg):Prop where
 i0:0 <= i
 i1:i < t.types.length
 at_:t.types[i.toNat]?=some x
 fl:x.fields.length <= 1000
 ok:zkS x
 kids:∃ j,zaK (zbu 16 t.types) (zhn x) (i.toNat + 1) j/\j <= t.types.length
theorem zu7 {t:zZ} (ht:zdt t) {i:Int} (h0:0 <= i) (h1:i < t.types.length):∃ x,TyF t i x:=by
 have htl:=ht.types
 obtain ⟨j,hj⟩:=zbu.sub ht.kids i.toNat (by omega) (by omega)
 have hjl:=hj.inb
 obtain ⟨x,hx,hok,hkid⟩:=hj
 exact ⟨x,h0,h1,hx,zf7 hkid hjl (by omega),hok,j,hkid,hjl⟩
section
variable {α β ι:Type}
def Wk (R:β->Prop) (o:Option β):Prop:=∀ r,o=some r->R r
theorem Wk.some {R:β->Prop} {r:β} (h:R r):Wk R (some r):=λ_ e=>by injection e with e;subst e;exact h
theorem Wk.none {R:β->Prop}:Wk R (none:Option β):=λ_ e=>by cases e
theorem Wk.mono {R R':β->Prop} {o:Option β} (h:Wk R o) (k:∀ r,R r->R' r):Wk R' o:=λr e=>k r (h r e)
theorem Wk.cal {Q:α->Prop} {R:β->Prop} {m:Option α} {k:α->Option β} (h:Wk Q m) (hk:∀ y,Q y->Wk R (k y)):Wk R (Sy.cal m k):=λr e=>by
 cases hm:m with
 | none=>rw [hm] at e;cases e
 | some y=>rw [hm] at e;exact hk y (h y hm) r e
theorem Wk.cal0 {R:β->Prop} {m:Option α} {k:α->Option β} (hk:∀ y,m=Option.some y->Wk R (k y)):Wk R (Sy.cal m k):=Wk.cal (Q:=λy=>m=Option.some y) (λ_ e=>e) hk
theorem Wk.ck {R:β->Prop} {x:Int} {k:Option β} (h:Wk R k):Wk R (Sy.ck x k):=λr e=>zfx e λ_ e=>h r e
theorem Wk.asr {R:β->Prop} {b:Bool} {k:Option β} (h:b=true->Wk R k):Wk R (Sy.asr b k):=λr e=>by
 cases b with
 | false=>cases e
 | true=>exact h rfl r e
theorem Wk.br {R:β->Prop} {b:Bool} {t e:Option β} (ht:b=true->Wk R t) (he:b=false->Wk R e):Wk R (Sy.br b t e):=by
 cases b with
 | false=>exact he rfl
 | true=>exact ht rfl
theorem Wk.jp (Q:ι->Prop) {R:β->Prop} {B:(ι->Option β)->Option β} {K:ι->Option β} (hB:∀ J,(∀ i,Q i->Wk R (J i))->Wk R (B J)) (hK:∀ i,Q i->Wk R (K i)):Wk R (Sy.jp B K):=hB K hK
theorem Wk.lp (I:ι->Prop) {R:β->Prop} {F:(ι->Option β)->ι->Option β} {i0:ι} (h0:I i0) (h:∀ (L:ι->Option β) i,I i->(∀ j,I j->Wk R (L j))->Wk R (F L i)):Wk R (Sy.lp F i0):=by
 have key:∀ n i,I i->Wk R (lpN F n i):=by
  intro n
  induction n with
  | zero=>intro i _ r e;cases e
  | succ n ih=>intro i hi;exact h _ i hi ih
 exact key _ _ h0
theorem zgd {l:List α} {i:Int} {y:α} (h:zq l i=Option.some y):y ∈ l/\0 <= i/\l[i.toNat]?=Option.some y:=by
 unfold zq at h
 cases i with
 | ofNat n=>exact ⟨List.mem_of_getElem? h,Int.natCast_nonneg n,h⟩
 | negSucc n=>cases h
end

/-! ### Signs of names -/
theorem ztE:∀ b:List UInt8,znc (b.take (nm b)) (hd (b.drop (nm b)))=true
 | []=>rfl
 | c :: r=>by
  rw [znl]
  cases h:zc1 c r with
  | false=>rfl
  | true =>
   have ih:=ztE r
   rw [zCt,List.take_succ_cons,List.drop_succ_cons]
   show (zc1 c (r.take (nm r) ++ [hd (r.drop (nm r))]) && znc (r.take (nm r)) (hd (r.drop (nm r))))=true
   rw [ih,Bool.and_true,<- h]
   refine zps ?_
   rw [<- zzg,List.take_append_drop]
theorem zuQ {b t r:List UInt8} (h:ziO b=some (2,t,r)):zml t=true:=by
 unfold ziO at h
 simp only at h
 cases h1:zbv (hd b) with
 | false =>
  rw [h1,zCf] at h
  exfalso
  cases h2:(za8 (hd b) || (decide (hd b=45) && za8 (hd (b.drop 1)))) with
  | true =>
   rw [h2,zCt] at h
   cases hn:ze9 b with
   | none=>rw [hn] at h;cases h
   | some n=>rw [hn] at h;injection h with h;injection h with h3 h;cases h3
  | false =>
   rw [h2,zCf] at h
   cases h3:decide (hd b=39) with
   | true =>
    rw [h3,zCt] at h
    cases h4:zeE (b.drop 1) with
    | true=>rw [h4] at h;cases h
    | false=>rw [h4,zCf] at h;injection h with h;injection h with h5 h;cases h5
   | false =>
    rw [h3,zCf] at h
    cases h4:decide (hd b=34) with
    | true =>
     rw [h4,zCt] at h
     cases hq:qd false (b.drop 1) [] with
     | none=>rw [hq] at h;cases h
     | some q=>obtain ⟨t',r'⟩:=q;rw [hq] at h;injection h with h;injection h with h5 h;cases h5
    | false =>
     rw [h4,zCf] at h
     cases h5:decide (0 < sg b) with
     | false=>rw [h5] at h;cases h
     | true=>rw [h5,zCt] at h;injection h with h;injection h with h6 h;cases h6
 | true =>
  rw [h1,zCt] at h
  cases h2:zhI b with
  | true=>rw [h2] at h;cases h
  | false =>
   rw [h2,zCf] at h
   injection h with h;injection h with h3 h;injection h with h4 h5
   subst h4
   unfold zhI at h2
   rw [Bool.or_eq_false_iff] at h2
   have hlast:=zOF h2.1
   have hlen:=zOF h2.2
   have hh:hd (b.take (nm b))=hd b:=by
    cases b with
    | nil=>rfl
    | cons c r =>
     have:zc1 c r=true:=by
      unfold zc1
      have h1:zbv c=true:=h1
      rw [h1];rfl
     rw [znl,this];rfl
   unfold zml zyC
   rw [hh,h1,zDF hlast,<- zpo (d:=hd (b.drop (nm b))) hlast,ztE,h3,zDT (show (b.take (nm b)).length <= 60 by rw [zLt];omega)]
   rfl
def NmT (l:List zS):Prop:=∀ t ∈ l,t.kind=2->zml t.text.b=true
theorem zqY (n:Nat):∀ (f:Nat) (b:List UInt8) (acc:List zS),NmT acc->NmT (zjP n f b acc).1
 | 0,b,acc,h=>λt ht=>by cases ht
 | f + 1,b,acc,h=>by
  rw [ziI]
  cases hwh:wh .out b with
  | nil =>
   intro t ht hk
   rcases List.mem_append.1 ht with h1 | h1
   ·exact h t h1 hk
   ·rw [zMo.1 h1] at hk;cases hk
  | cons c r =>
   simp only
   cases ho:ziO (c :: r) with
   | none=>intro t ht;cases ht
   | some q =>
    obtain ⟨k,t,r'⟩:=q
    simp only
    refine zqY n f r' _ λy hy hk=>?_
    rcases List.mem_append.1 hy with h1 | h1
    ·exact h y h1 hk
    ·rw [zMo.1 h1] at hk ⊢
     have hk:k=2:=hk
     subst hk
     exact zuQ ho
theorem zxx (b:List UInt8):NmT (toks b).1:=by
 unfold toks
 cases decide (8000 < b.length) with
 | true=>intro t ht;cases ht
 | false=>rw [zCf];exact zqY _ _ _ _ λt ht=>by cases ht

/-! ### The parser's small functions -/
structure SmP (x y:zA):Prop where
 l:y.l=x.l
 m:y.m=x.m
 e:y.e=0->x.e=0
theorem SmP.refl (x:zA):SmP x x:=⟨rfl,rfl,id⟩
theorem SmP.trans {x y z:zA} (h:SmP x y) (k:SmP y z):SmP x z:=⟨k.l.trans h.l,k.m.trans h.m,λe=>h.e (k.e e)⟩
theorem zkF (x:zA):Wk (λr=>r.2=x/\r.1 ∈ x.l) (zaD x):=by
 unfold zaD
 exact Wk.cal0 λy hy=>Wk.some ⟨rfl,(zgd hy).1⟩
theorem zkf (x:zA) (e:Int) (t:zS):Wk (λr=>SmP x r/\(e ≠ 0->r.e ≠ 0)) (za4 x e t):=by
 unfold za4
 exact Wk.br (λh=>Wk.some ⟨⟨rfl,rfl,λ_=>zOT h⟩,id⟩) λh=>Wk.some ⟨.refl x,λ_=>zOF h⟩
theorem zlQ (x:zA):Wk (λr=>SmP x r.2/\r.1 ∈ x.l/\zq x.l x.at_=some r.1) (zbA x):=by
 unfold zbA
 refine Wk.cal0 λy hy=>Wk.ck (Wk.jp (λq=>SmP x q) (λJ k=>Wk.br (λ_=>Wk.ck (k _ ⟨rfl,rfl,id⟩)) λ_=>k _ (.refl x)) λq hq=>Wk.some ⟨hq,(zgd hy).1,hy⟩)
theorem zon (x:zA) (k:Int):Wk (λr=>SmP x r.2/\(r.2.e=0->∃ t ∈ x.l,t.kind=k/\r.1=t.text)) (zbB x k):=by
 unfold zbB zaD
 refine Wk.cal (Q:=λr=>r.2=x/\zq x.l x.at_=some r.1) (Wk.cal0 λy hy=>Wk.some ⟨rfl,hy⟩) λ⟨t,x'⟩ ⟨hx,ht⟩=>?_
 dsimp only at hx ht ⊢
 subst hx
 refine Wk.jp (λb=>b=false->t.kind=k) (λJ h=>Wk.br (λ_=>h _ λh=>by cases h) λ_=>h _ λh=>by simpa using h) λb hb=>Wk.br (λ_=>?_) λh=>?_
 ·exact Wk.cal (zkf _ _ _) λy hy=>Wk.some ⟨hy.1,λe=>absurd e (hy.2 (by decide))⟩
 ·refine Wk.cal (zlQ _) λy hy=>Wk.some ⟨hy.1,λ_=>⟨t,(zgd ht).1,hb h,?_⟩⟩
  have:=hy.2.2
  rw [ht] at this
  injection this with this
  rw [this]
theorem zfp (x:zA) (s:Str):Wk (λr=>SmP x r.2) (zE x s):=by
 unfold zE
 refine Wk.cal (zkF x) λ⟨t,x'⟩ ⟨hx,_⟩=>?_
 dsimp only at hx ⊢
 subst hx
 refine Wk.jp (λ_=>True) (λJ k=>Wk.br (λ_=>Wk.jp (λ_=>True) (λJ2 k2=>Wk.br (λ_=>k2 _ trivial) λ_=>k2 _ trivial) λ_ _=>k _ trivial) λ_=>k _ trivial) λb _=>Wk.jp (λ_=>True) (λJ k=>Wk.br (λ_=>k _ trivial) λ_=>k _ trivial) λb _=>Wk.br (λ_=>Wk.cal (zlQ _) λy hy=>Wk.some hy.1) λ_=>Wk.some (.refl _)
theorem zec (x:zA) (s:Str):Wk (λr=>SmP x r) (zP x s):=by
 unfold zP
 refine Wk.jp (λq=>SmP x q.2) (λJ k=>Wk.br (λ_=>Wk.cal (zfp x s) λy hy=>k _ hy) λ_=>k _ (.refl x)) λq hq=>Wk.br (λ_=>?_) λ_=>Wk.some hq
 exact Wk.cal (zkF _) λy hy=>Wk.cal (zkf _ _ _) λz hz=>Wk.some (hq.trans (hy.1 ▸ hz.1))
theorem zmi (x:zA):Wk (λr=>SmP x r.2) (zb6 x):=by
 unfold zb6
 exact Wk.cal (zon x 3) λy hy=>Wk.br (λ_=>Wk.some hy.1) λ_=>Wk.cal0 λz _=>Wk.some hy.1
theorem zqJ (x:zA):Wk (λr=>SmP x r.2) (zcI x):=by
 unfold zcI
 refine Wk.cal (zfp x _) λy hy=>Wk.jp (λq=>SmP x q.1) (λJ k=>Wk.br (λ_=>Wk.cal (zmi _) λz hz=>k _ (hy.trans hz)) λ_=>k _ hy) λq hq=>?_
 refine Wk.jp (λq=>SmP x q.1) (λJ k=>Wk.cal (zfp _ _) λz hz=>Wk.br (λ_=>Wk.cal (zfp _ _) λu hu=>Wk.br (λ_=>Wk.cal (zmi _) λw hw=>k _ (((hq.trans hz).trans hu).trans hw)) λ_=>k _ ((hq.trans hz).trans hu)) λ_=>Wk.br (λ_=>k _ (hq.trans hz)) λ_=>k _ (hq.trans hz)) λq2 hq2=>?_
 exact Wk.cal (zfp _ _) λz hz=>Wk.jp (λq=>SmP x q.1) (λJ k=>Wk.br (λ_=>Wk.cal (zec _ _) λu hu=>k _ ((hq2.trans hz).trans hu)) λ_=>k _ (hq2.trans hz)) λq3 hq3=>Wk.some hq3
theorem zsF (x:zA):Wk (λr=>SmP x r.2) (zcN x):=by
 unfold zcN
 exact Wk.cal (zfp x _) λy hy=>Wk.br (λ_=>Wk.some hy) λ_=>Wk.cal (zec _ _) λa ha=>Wk.cal (zec _ _) λb hb=>Wk.cal (zqJ _) λc hc=>Wk.cal (zec _ _) λd hd=>Wk.cal (zec _ _) λf hf=>Wk.some (((((hy.trans ha).trans hb).trans hc).trans hd).trans hf)
theorem zxt (x:zA):Wk (λr=>SmP x r.2) (zdk x):=by
 unfold zdk
 refine Wk.cal (zkF x) λ⟨t,x'⟩ ⟨hx,_⟩=>?_
 dsimp only at hx ⊢
 subst hx
 refine Wk.jp (λq=>SmP x' q) (λJ k=>Wk.br (λ_=>k _ (.refl _)) λ_=>?_) λq hq=>Wk.some hq
 refine Wk.cal (zfp _ _) λa ha=>Wk.br (λ_=>Wk.some ha) λ_=>Wk.cal (zfp _ _) λb hb=>Wk.br (λ_=>Wk.some (ha.trans hb)) λ_=>Wk.cal (zfp _ _) λc hc=>Wk.br (λ_=>Wk.some ((ha.trans hb).trans hc)) λ_=>?_
 have h3:=(ha.trans hb).trans hc
 refine Wk.br (λ_=>Wk.cal (zlQ _) λd hd=>Wk.cal0 λz _=>Wk.some (h3.trans hd.1)) λ_=>Wk.br (λ_=>Wk.cal (zlQ _) λd hd=>Wk.asr λ_=>Wk.some (h3.trans hd.1)) λ_=>Wk.br (λ_=>Wk.cal (zlQ _) λd hd=>Wk.cal0 λz _=>Wk.some (h3.trans hd.1)) λ_=>Wk.br (λ_=>Wk.cal (zlQ _) λd hd=>Wk.asr λ_=>Wk.some (h3.trans hd.1)) λ_=>?_
 exact Wk.cal (zkf _ _ _) λd hd=>k _ (h3.trans hd.1)
def FN (l:List zaF):Prop:=∀ f ∈ l,zml f.name.b=true
def IN (l:List zai):Prop:=∀ it ∈ l,zml it.name.b=true
theorem zyf (x:zA) (n:zh) (hx:NmT x.l) (hn:n.items=[]):Wk (λr=>SmP x r.1/\r.2.kind=n.kind/\r.2.fields=n.fields/\(r.1.e=0->IN r.2.items)) (zdl x n):=by
 unfold zdl
 refine Wk.jp (λ(q:zA × zh)=>SmP x q.1/\q.2.kind=n.kind/\q.2.fields=n.fields/\(q.1.e=0->IN q.2.items)) (λJ k=>?_) λq hq=>Wk.br (λ_=>Wk.some hq) λ_=>Wk.some hq
 refine Wk.lp (λ(q:zA × zh)=>SmP x q.1/\q.2.kind=n.kind/\q.2.fields=n.fields/\(q.1.e=0->IN q.2.items)) ⟨.refl x,rfl,rfl,λ_ it hit=>by dsimp only at hit;rw [hn] at hit;cases hit⟩ λL q ⟨h1,h2,h3,h4⟩ hL=>Wk.br (λ_=>?_) λ_=>k _ ⟨h1,h2,h3,h4⟩
 refine Wk.jp (λ_=>True) (λJ2 k2=>Wk.br (λ_=>k2 _ trivial) λ_=>k2 _ trivial) λb _=>?_
 refine Wk.jp (λ(p:Bool × zA)=>SmP q.1 p.2) (λJ2 k2=>Wk.br (λ_=>Wk.cal (zfp _ _) λy hy=>k2 _ hy) λ_=>k2 _ (.refl _)) λp hp=>?_
 refine Wk.jp (λ(q':zA × zh)=>SmP x q'.1/\q'.2.kind=n.kind/\q'.2.fields=n.fields/\(q'.1.e=0->IN q'.2.items)) (λJ4 k4=>Wk.br (λ_=>k4 _ ⟨h1.trans hp,h2,h3,λe=>h4 (hp.e e)⟩) λ_=>?_) λq4 hq4=>?_
 ·refine Wk.cal (zon _ 2) λy hy=>Wk.cal (zfp _ _) λz hz=>?_
  refine Wk.jp (λ(u:zA × zai)=>SmP y.2 u.1/\u.2.name=y.1) (λJ5 k5=>Wk.br (λ_=>Wk.cal (zmi _) λu hu=>Wk.cal (zec _ _) λw hw=>k5 _ ⟨(hz.trans hu).trans hw,rfl⟩) λ_=>k5 _ ⟨hz,rfl⟩) λu hu=>Wk.asr λ_=>k4 _ ⟨((h1.trans hp).trans hy.1).trans hu.1,h2,h3,λe it hit=>?_⟩
  have e1:=hu.1.e e
  rcases List.mem_append.1 hit with h | h
  ·exact h4 ((hp.trans hy.1).e e1) it h
  ·rw [zMo.1 h,hu.2]
   obtain ⟨t,ht,hk,he⟩:=hy.2 e1
   rw [he]
   exact hx t (by rw [<- (h1.trans hp).l];exact ht) hk
 ·exact Wk.cal (zfp _ _) λy hy=>Wk.br (λ_=>k _ ⟨hq4.1.trans hy,hq4.2.1,hq4.2.2.1,λe=>hq4.2.2.2 (hy.e e)⟩) λ_=>hL _ ⟨hq4.1.trans hy,hq4.2.1,hq4.2.2.1,λe=>hq4.2.2.2 (hy.e e)⟩

/-! ### Trees -/
/-- A node of a known kind, with names. -/
structure NN (n:zh):Prop where
 k1:1 <= n.kind
 k2:n.kind <= 11
 f:FN n.fields
 i:IN n.items
structure Gw (x y:zA):Prop where
 l:y.l=x.l
 e:y.e=0->x.e=0
 le:x.m.nodes.length <= y.m.nodes.length
 pre:∀ p,p < x.m.nodes.length->y.m.nodes[p]?=x.m.nodes[p]?
 new:y.e=0->∀ (p:Nat) n,x.m.nodes.length <= p->y.m.nodes[p]?=some n->NN n
theorem SmP.gw {x y:zA} (h:SmP x y):Gw x y:=⟨h.l,h.e,by rw [h.m];exact zNl _,λp _=>by rw [h.m],λ_ p n h1 h2=>by
 have:=(List.getElem?_eq_some_iff.1 h2).1
 rw [h.m] at this;omega⟩
theorem Gw.trans {x y z:zA} (h:Gw x y) (k:Gw y z):Gw x z:=⟨k.l.trans h.l,λe=>h.e (k.e e),Nat.le_trans h.le k.le,λp hp=>(k.pre p (Nat.lt_of_lt_of_le hp h.le)).trans (h.pre p hp),λe p n h1 h2=>by
 by_cases hp:p < y.m.nodes.length
 ·rw [k.pre p hp] at h2;exact h.new (k.e e) p n h1 h2
 ·exact k.new e p n (by omega) h2⟩
structure GrpW (n:Nat):Prop where
 field:∀ (x:zA) (nd:zh) (d g:Int),NmT x.l->Wk (λr=>Gw x r.1/\r.2.kind=nd.kind/\r.2.items=nd.items/\(r.1.e=0->FN nd.fields->FN r.2.fields)) (zbb n x nd d g)
 typ:∀ (x:zA) (d:Int),NmT x.l->Wk (λr=>Gw x r.2) (zaY n x d)
 base:∀ (x:zA) (nd:zh) (d:Int),NmT x.l->nd.items=[]->nd.fields=[]->Wk (λr=>Gw x r.1/\(r.1.e=0->NN r.2)) (zbh n x nd d)
 fields:∀ (x:zA) (nd:zh) (d:Int),NmT x.l->Wk (λr=>Gw x r.1/\r.2.kind=nd.kind/\r.2.items=nd.items/\(r.1.e=0->FN nd.fields->FN r.2.fields)) (za0 n x nd d)
theorem grpW:∀ n,GrpW n:=by
 intro n
 induction n with
 | zero=>exact ⟨λ_ _ _ _ _=>Wk.none,λ_ _ _=>Wk.none,λ_ _ _ _ _ _=>Wk.none,λ_ _ _ _=>Wk.none⟩
 | succ n ih =>
  refine ⟨λx nd d g hx=>?_,λx d hx=>?_,λx nd d hx hi hf=>?_,λx nd d hx=>?_⟩
  ·show Wk _ (zcS (zbb n) (zaY n) (zbh n) (za0 n) x nd d g)
   unfold zcS
   refine Wk.cal (zon x 2) λy hy=>Wk.ck (Wk.cal (ih.typ _ _ (by rw [hy.1.l];exact hx)) λz hz=>?_)
   refine Wk.jp (λ(q:zaF × zA)=>Gw y.2 q.2/\q.1.name=y.1) (λJ k=>Wk.br (λ_=>k _ ⟨hz,rfl⟩) λ_=>Wk.cal (zfp _ _) λa ha=>Wk.br (λ_=>k _ ⟨hz.trans ha.gw,rfl⟩) λ_=>Wk.cal (zfp _ _) λb hb=>Wk.br (λ_=>Wk.cal (zxt _) λc hc=>k _ ⟨((hz.trans ha.gw).trans hb.gw).trans hc.gw,rfl⟩) λ_=>k _ ⟨(hz.trans ha.gw).trans hb.gw,rfl⟩) λq hq=>Wk.asr λ_=>Wk.some ⟨hy.1.gw.trans hq.1,rfl,rfl,λe hF f hf=>?_⟩
   rcases List.mem_append.1 hf with h | h
   ·exact hF f h
   ·rw [zMo.1 h,hq.2]
    obtain ⟨t,ht,hk,he⟩:=hy.2 (hq.1.e e)
    rw [he]
    exact hx t ht hk
  ·show Wk _ (zdr (zbb n) (zaY n) (zbh n) (za0 n) x d)
   unfold zdr
   refine Wk.br (λ_=>Wk.some (SmP.refl x).gw) λ_=>Wk.cal (zkF x) λ⟨t,x'⟩ ⟨hx',_⟩=>?_
   dsimp only at hx' ⊢
   subst hx'
   refine Wk.cal0 λb _=>Wk.br (λ_=>Wk.cal (zkF _) λy hy=>Wk.cal (zkf _ _ _) λz hz=>Wk.some (hy.1 ▸ hz.1).gw) λ_=>?_
   refine Wk.jp (λ_=>True) (λJ k=>Wk.br (λ_=>k _ trivial) λ_=>k _ trivial) λb _=>Wk.br (λ_=>Wk.cal (zkF _) λy hy=>Wk.cal (zkf _ _ _) λz hz=>Wk.some (hy.1 ▸ hz.1).gw) λ_=>Wk.asr λ_=>?_
   refine Wk.cal (zfp _ _) λy hy=>?_
   refine Wk.jp (λ(q:zA × zh)=>SmP y.2 q.1/\q.2.items=[]/\q.2.fields=[]) (λJ k=>Wk.br (λ_=>?_) λ_=>k _ ⟨.refl _,rfl,rfl⟩) λq hq=>?_
   ·refine Wk.cal (zkF _) λa ha=>Wk.cal (zmi _) λb hb=>?_
    have h1:SmP y.2 b.2:=ha.1 ▸ hb
    refine Wk.jp (λ_=>True) (λJ k=>Wk.br (λ_=>Wk.jp (λ_=>True) (λJ2 k2=>Wk.br (λ_=>k2 _ trivial) λ_=>k2 _ trivial) λ_ _=>k _ trivial) λ_=>k _ trivial) λc _=>?_
    refine Wk.jp (λz=>SmP y.2 z) (λJ k=>Wk.br (λ_=>Wk.cal (zkf _ _ _) λz hz=>k _ (h1.trans hz.1)) λ_=>k _ h1) λz hz=>?_
    exact Wk.cal (zec _ _) λu hu=>Wk.cal (zfp _ _) λv hv=>Wk.br (λ_=>k _ ⟨(hz.trans hu).trans hv,rfl,rfl⟩) λ_=>Wk.cal (zfp _ _) λw hw=>Wk.br (λ_=>k _ ⟨((hz.trans hu).trans hv).trans hw,rfl,rfl⟩) λ_=>k _ ⟨((hz.trans hu).trans hv).trans hw,rfl,rfl⟩
   have hs:=hy.trans hq.1
   refine Wk.cal (ih.base q.1 q.2 d (by rw [hs.l];exact hx) hq.2.1 hq.2.2) λz hz=>?_
   have hlen:q.1.m.nodes.length=x'.m.nodes.length + 1:=by rw [hs.m];show (x'.m.nodes ++ [_]).length=_;rw [zLa];rfl
   have hpre:∀ p,p < x'.m.nodes.length->z.1.m.nodes[p]?=x'.m.nodes[p]?:=λp hp=>by
    rw [hz.1.pre p (by omega),hs.m]
    exact List.getElem?_append_left hp
   have hl:z.1.l=x'.l:=hz.1.l.trans hs.l
   have he:z.1.e=0->x'.e=0:=λe=>hs.e (hz.1.e e)
   have hle:=hz.1.le
   refine Wk.br (λh=>Wk.some ⟨hl,he,by dsimp only;omega,hpre,λe=>absurd e (by simpa using h)⟩) λh=>Wk.asr λ_=>Wk.cal0 λw _=>Wk.some ?_
   refine ⟨hl,he,?_,λp hp=>?_,λe p nd h1 h2=>?_⟩
   ·dsimp only;rw [List.length_set];omega
   ·dsimp only
    rw [List.getElem?_set_ne (by rw [Int.toNat_natCast];omega)]
    exact hpre p hp
   ·dsimp only at e h2
    rw [Int.toNat_natCast] at h2
    by_cases hp:p=x'.m.nodes.length
    ·subst hp
     rw [List.getElem?_set_self (by omega)] at h2
     cases h2
     exact hz.2 e
    ·rw [List.getElem?_set_ne (by omega)] at h2
     exact hz.1.new e p nd (by omega) h2
  ·show Wk _ (zdb (zbb n) (zaY n) (zbh n) (za0 n) x nd d)
   unfold zdb
   have leaf:∀ (y:zA) (nd':zh) (k:Int),SmP x y->nd'.kind=k->1 <= k->k <= 11->nd'.items=[]->nd'.fields=[]->Gw x y/\(y.e=0->NN nd'):=λy nd' k hs hk h1 h2 h3 h4=>⟨hs.gw,λ_=>⟨by omega,by omega,by rw [h4];exact λf hf=>(by cases hf),by rw [h3];exact λf hf=>(by cases hf)⟩⟩
   have flds:∀ (y:zA) (k:Int),SmP x y->1 <= k->k <= 11->∀ r:zA × zh,(Gw y r.1/\r.2.kind=k/\r.2.items=nd.items/\(r.1.e=0->FN nd.fields->FN r.2.fields))->Gw x r.1/\(r.1.e=0->NN r.2):=λy k hs h1 h2 r ⟨g1,g2,g3,g4⟩=>⟨hs.gw.trans g1,λe=>⟨by rw [g2];exact h1,by rw [g2];exact h2,g4 e (by rw [hf];exact λf hf=>(by cases hf)),by rw [g3,hi];exact λf hf=>(by cases hf)⟩⟩
   have hxl:∀ {y:zA},SmP x y->NmT y.l:=λh=>by rw [h.l];exact hx
   refine Wk.cal (zkF x) λ⟨t,x'⟩ ⟨hx',_⟩=>?_
   dsimp only at hx' ⊢
   subst hx'
   refine Wk.br (λh=>Wk.some ⟨(SmP.refl _).gw,λe=>absurd e (by simpa using h)⟩) λ_=>?_
   refine Wk.cal (zfp _ _) λa1 s1=>Wk.br (λ_=>Wk.some (leaf _ _ 1 s1 rfl (by decide) (by decide) hi hf)) λ_=>Wk.cal (zfp _ _) λa2 t2=>?_
   have s2:=s1.trans t2
   refine Wk.br (λ_=>Wk.some (leaf _ _ 4 s2 rfl (by decide) (by decide) hi hf)) λ_=>Wk.cal (zfp _ _) λa3 t3=>?_
   have s3:=s2.trans t3
   refine Wk.br (λ_=>Wk.cal (zsF _) λb hb=>Wk.some (leaf _ _ 6 (s3.trans hb) rfl (by decide) (by decide) hi hf)) λ_=>Wk.cal (zfp _ _) λa4 t4=>?_
   have s4:=s3.trans t4
   refine Wk.br (λ_=>Wk.cal (zfp _ _) λb hb=>Wk.br (λ_=>Wk.cal (zqJ _) λc hc=>Wk.cal (zec _ _) λu hu=>Wk.some (leaf _ _ 2 (((s4.trans hb).trans hc).trans hu) rfl (by decide) (by decide) hi hf)) λ_=>Wk.some (leaf _ _ 2 (s4.trans hb) rfl (by decide) (by decide) hi hf)) λ_=>Wk.cal (zfp _ _) λa5 t5=>?_
   have s5:=s4.trans t5
   refine Wk.br (λ_=>Wk.cal (zec _ _) λb hb=>Wk.cal (zsF _) λc hc=>Wk.some (leaf _ _ 5 ((s5.trans hb).trans hc) rfl (by decide) (by decide) hi hf)) λ_=>Wk.cal (zfp _ _) λa6 t6=>?_
   have s6:=s5.trans t6
   refine Wk.br (λ_=>Wk.cal (zec _ _) λb hb=>Wk.cal (zyf _ _ (hxl (s6.trans hb)) hi) λc hc=>Wk.cal (zec _ _) λu hu=>Wk.some ⟨(((s6.trans hb).trans hc.1).trans hu).gw,λe=>⟨?_,?_,?_,hc.2.2.2 (hu.e e)⟩⟩) λ_=>Wk.cal (zfp _ _) λa7 t7=>?_
   ·rw [hc.2.1];show (1:Int) <= 3;decide
   ·rw [hc.2.1];show (3:Int) <= 11;decide
   ·rw [hc.2.2.1];show FN nd.fields;rw [hf];exact λf hf=>(by cases hf)
   have s7:=s6.trans t7
   refine Wk.br (λ_=>Wk.cal (zec _ _) λb hb=>Wk.cal (ih.fields _ _ _ (hxl (s7.trans hb))) λc hc=>Wk.some (flds _ 8 (s7.trans hb) (by decide) (by decide) c hc)) λ_=>Wk.cal (zfp _ _) λa8 t8=>?_
   have s8:=s7.trans t8
   refine Wk.br (λ_=>Wk.cal (zec _ _) λb hb=>Wk.cal (ih.fields _ _ _ (hxl (s8.trans hb))) λc hc=>Wk.some (flds _ 9 (s8.trans hb) (by decide) (by decide) c hc)) λ_=>Wk.cal (zfp _ _) λa9 t9=>?_
   have s9:=s8.trans t9
   refine Wk.br (λ_=>Wk.cal (zfp _ _) λb hb=>Wk.br (λ_=>Wk.cal (ih.fields _ _ _ (hxl (s9.trans hb))) λc hc=>Wk.some (flds _ 7 (s9.trans hb) (by decide) (by decide) c hc)) λ_=>?_) λ_=>?_
   ·refine Wk.cal (zsF _) λc hc=>Wk.cal (zec _ _) λu hu=>Wk.ck (Wk.cal (ih.typ _ _ (hxl (((s9.trans hb).trans hc).trans hu))) λw hw=>Wk.some ⟨(((s9.trans hb).trans hc).trans hu).gw.trans hw,λ_=>⟨show (1:Int) <= 10 by decide,show (10:Int) <= 11 by decide,?_,?_⟩⟩)
    ·show FN nd.fields;rw [hf];exact λf hf=>(by cases hf)
    ·show IN nd.items;rw [hi];exact λf hf=>(by cases hf)
   ·refine Wk.br (λ_=>Wk.cal (zlQ _) λb hb=>Wk.some (leaf _ _ 11 (s9.trans hb.1) rfl (by decide) (by decide) hi hf)) λ_=>Wk.cal (zkf _ _ _) λb hb=>Wk.some ⟨(s9.trans hb.1).gw,λe=>absurd e (hb.2 (by decide))⟩
  ·show Wk _ (zcE (zbb n) (zaY n) (zbh n) (za0 n) x nd d)
   unfold zcE
   refine Wk.cal (zfp _ _) λa ha=>Wk.br (λ_=>Wk.some ⟨ha.gw,rfl,rfl,λ_ h=>h⟩) λ_=>?_
   refine Wk.jp (λ(q:zA × zh)=>Gw x q.1/\q.2.kind=nd.kind/\q.2.items=nd.items/\(q.1.e=0->FN nd.fields->FN q.2.fields)) (λJ k=>?_) λq hq=>Wk.cal (zec _ _) λu hu=>Wk.br (λ_=>Wk.some ⟨hq.1.trans hu.gw,hq.2.1,hq.2.2.1,λe=>hq.2.2.2 (hu.e e)⟩) λ_=>Wk.some ⟨hq.1.trans hu.gw,hq.2.1,hq.2.2.1,λe=>hq.2.2.2 (hu.e e)⟩
   refine Wk.lp (λ(q:Int × zA × zh)=>Gw x q.2.1/\q.2.2.kind=nd.kind/\q.2.2.items=nd.items/\(q.2.1.e=0->FN nd.fields->FN q.2.2.fields)) ⟨ha.gw,rfl,rfl,λ_ h=>h⟩ λL q ⟨h1,h2,h3,h4⟩ hL=>Wk.br (λ_=>?_) λ_=>k _ ⟨h1,h2,h3,h4⟩
   have hxl:∀ {y:zA},Gw x y->NmT y.l:=λh=>by rw [h.l];exact hx
   refine Wk.jp (λ(q:Int × zA × zh)=>Gw x q.2.1/\q.2.2.kind=nd.kind/\q.2.2.items=nd.items/\(q.2.1.e=0->FN nd.fields->FN q.2.2.fields)) (λJ2 k2=>?_) λq2 hq2=>Wk.cal (zfp _ _) λu hu=>Wk.br (λ_=>k _ ⟨hq2.1.trans hu.gw,hq2.2.1,hq2.2.2.1,λe=>hq2.2.2.2 (hu.e e)⟩) λ_=>hL _ ⟨hq2.1.trans hu.gw,hq2.2.1,hq2.2.2.1,λe=>hq2.2.2.2 (hu.e e)⟩
   refine Wk.jp (λ(p:Bool × zA)=>SmP q.2.1 p.2) (λJ3 k3=>Wk.br (λ_=>Wk.cal (zfp _ _) λy hy=>k3 _ hy) λ_=>k3 _ (.refl _)) λp hp=>?_
   refine Wk.br (λ_=>k2 _ ⟨h1.trans hp.gw,h2,h3,λe=>h4 (hp.e e)⟩) λ_=>?_
   refine Wk.jp (λ(r:Bool × zA)=>SmP q.2.1 r.2) (λJ3 k3=>Wk.br (λ_=>Wk.cal (zfp _ _) λy hy=>k3 _ (hp.trans hy)) λ_=>k3 _ hp) λr hr=>Wk.br (λ_=>Wk.ck ?_) λ_=>?_
   ·refine Wk.jp (λ(q:zA × zh)=>Gw x q.1/\q.2.kind=nd.kind/\q.2.items=nd.items/\(q.1.e=0->FN nd.fields->FN q.2.fields)) (λJ4 k4=>?_) λz hz=>Wk.cal (zec _ _) λu hu=>k2 _ ⟨hz.1.trans hu.gw,hz.2.1,hz.2.2.1,λe=>hz.2.2.2 (hu.e e)⟩
    refine Wk.lp (λ(q:zA × zh)=>Gw x q.1/\q.2.kind=nd.kind/\q.2.items=nd.items/\(q.1.e=0->FN nd.fields->FN q.2.fields)) ⟨h1.trans hr.gw,h2,h3,λe=>h4 (hr.e e)⟩ λL2 z ⟨g1,g2,g3,g4⟩ hL2=>Wk.br (λ_=>?_) λ_=>k4 _ ⟨g1,g2,g3,g4⟩
    refine Wk.cal (ih.field _ _ _ _ (hxl g1)) λu hu=>Wk.cal (zfp _ _) λw hw=>?_
    have hh:Gw x w.2/\u.2.kind=nd.kind/\u.2.items=nd.items/\(w.2.e=0->FN nd.fields->FN u.2.fields):=⟨(g1.trans hu.1).trans hw.gw,hu.2.1.trans g2,hu.2.2.1.trans g3,λe h=>hu.2.2.2 (hw.e e) (g4 (hu.1.e (hw.e e)) h)⟩
    exact Wk.br (λ_=>k4 _ hh) λ_=>hL2 _ hh
   ·have g1:=h1.trans hr.gw
    exact Wk.cal (ih.field _ _ _ _ (hxl g1)) λu hu=>k2 _ ⟨g1.trans hu.1,hu.2.1.trans h2,hu.2.2.1.trans h3,λe h=>hu.2.2.2 e (h4 (hr.e (hu.1.e e)) h)⟩
def AN (m:zaA):Prop:=∀ n ∈ m.nodes,NN n
theorem Gw.an {x y:zA} (h:Gw x y) (hx:x.e=0->AN x.m):y.e=0->AN y.m:=λe n hn=>by
 obtain ⟨p,hp⟩:=List.mem_iff_getElem?.1 hn
 by_cases h1:p < x.m.nodes.length
 ·rw [h.pre p h1] at hp
  exact hx (h.e e) n (List.mem_of_getElem? hp)
 ·exact h.new e p n (by omega) hp
theorem zxX (s:Str):Wk (λr=>r.2.2=0->AN r.1) (zfN s):=by
 unfold zfN
 rw [zla]
 have hT:=zxx s.b
 refine Wk.cal0 λy hy=>?_
 injection hy with hy
 subst hy
 refine Wk.br (λh=>Wk.some λe=>absurd e (by simpa using h)) λ_=>?_
 refine Wk.cal (zon _ _) λa ha=>Wk.cal (zec _ _) λb hb=>?_
 have P:∀ {y z:zA},SmP y z->y.l=(toks s.b).1->y.m.nodes=[]->z.l=(toks s.b).1/\z.m.nodes=[]:=λhz h1 h2=>⟨hz.l.trans h1,by rw [hz.m];exact h2⟩
 have hA:a.2.l=(toks s.b).1/\a.2.m.nodes=[]:=P ha.1 rfl rfl
 have h0:=P hb hA.1 hA.2
 refine Wk.jp (λ(z:zA)=>z.l=(toks s.b).1/\z.m.nodes=[]) (λJ k=>?_) λz hz=>?_
 ·refine Wk.cal (zfp _ _) λc hc=>?_
  have h00:=P hc h0.1 h0.2
  refine Wk.br (λ_=>Wk.cal (zec _ _) λu hu=>k _ (P hu h00.1 h00.2)) λ_=>Wk.cal (zfp _ _) λd hd=>?_
  have h1:=P hd h00.1 h00.2
  refine Wk.br (λ_=>Wk.cal (zec _ _) λu hu=>k _ (P hu h1.1 h1.2)) λ_=>Wk.cal (zfp _ _) λf hf=>?_
  have h2:=P hf h1.1 h1.2
  exact Wk.br (λ_=>Wk.cal (zec _ _) λu hu=>k _ (P hu h2.1 h2.2)) λ_=>k _ h2
 ·refine Wk.cal (zec _ _) λc hc=>Wk.cal (zec _ _) λd hd=>?_
  have hcc:=P hc hz.1 hz.2
  have h1:=P hd hcc.1 hcc.2
  refine Wk.lp (λ(q:zA)=>q.l=(toks s.b).1/\(q.e=0->AN q.m)) ⟨h1.1,λ_ n hn=>by rw [h1.2] at hn;cases hn⟩ λL q ⟨q1,q2⟩ hL=>?_
  have S:∀ {y z:zA},Gw y z->(y.l=(toks s.b).1/\(y.e=0->AN y.m))->z.l=(toks s.b).1/\(z.e=0->AN z.m):=λh ⟨h1,h2⟩=>⟨h.l.trans h1,h.an h2⟩
  refine Wk.jp (λ(p:Bool × zA)=>p.2.l=(toks s.b).1/\(p.2.e=0->AN p.2.m)) (λJ k=>Wk.br (λ_=>Wk.cal (zfp _ _) λy hy=>k _ (S hy.gw ⟨q1,q2⟩)) λ_=>k _ ⟨q1,q2⟩) λp hp=>Wk.br (λ_=>?_) λ_=>?_
  ·refine Wk.cal (zkF _) λ⟨t,x'⟩ ⟨hx',_⟩=>?_
   dsimp only at hx' ⊢
   subst hx'
   refine Wk.cal (zon _ _) λf hf=>Wk.jp (λ_=>True) (λJ k=>Wk.br (λ_=>k _ trivial) λ_=>k _ trivial) λbb _=>?_
   have hf:=S hf.1.gw hp
   refine Wk.jp (λ(z:zA)=>z.l=(toks s.b).1/\(z.e=0->AN z.m)) (λJ k=>Wk.br (λ_=>Wk.cal (zkf _ _ _) λz hz=>k _ (S hz.1.gw hf)) λ_=>k _ hf) λz hz=>Wk.cal (zec _ _) λu hu=>?_
   have hu:=S hu.gw hz
   refine Wk.cal ((grpW fuel).typ _ _ (by rw [hu.1];exact hT)) λw hw=>Wk.asr λ_=>Wk.asr λ_=>hL _ ?_
   have h9:=S hw hu
   exact ⟨h9.1,λe n hn=>h9.2 e n hn⟩
  ·refine Wk.jp (λ(r:Bool × zA)=>r.2.l=(toks s.b).1/\(r.2.e=0->AN r.2.m)) (λJ k=>Wk.br (λ_=>Wk.cal (zkF _) λy hy=>k _ (by rw [hy.1];exact hp)) λ_=>k _ hp) λr hr=>?_
   refine Wk.jp (λ(z:zA)=>z.l=(toks s.b).1/\(z.e=0->AN z.m)) (λJ k=>Wk.br (λ_=>Wk.cal (zkF _) λy hy=>Wk.cal (zkf _ _ _) λz hz=>k _ (S hz.1.gw (by rw [hy.1];exact hr))) λ_=>k _ hr) λz hz=>Wk.br (λh=>Wk.some λe=>?_) λh=>Wk.some λ_=>hz.2 (by simpa using h)
   exact absurd e (by simpa using h)
structure TN (t:zg):Prop where
 k1:1 <= t.kind
 k2:t.kind <= 10
 f:FN t.fields
 i:IN t.items
 fd:(t.fields.map λf=>f.name).Nodup
 id:(t.items.map λit=>it.name).Nodup
structure Mx (x y:GMk):Prop where
 m:y.m=x.m
 e:y.e=0->x.e=0
 t:y.e=0->(∀ t ∈ x.l,TN t)->∀ t ∈ y.l,TN t
theorem Mx.refl (x:GMk):Mx x x:=⟨rfl,id,λ_ h=>h⟩
theorem Mx.trans {x y z:GMk} (h:Mx x y) (k:Mx y z):Mx x z:=⟨k.m.trans h.m,λe=>h.e (k.e e),λe ht=>k.t e (h.t (k.e e) ht)⟩
theorem zh3 (x:GMk) (e:Int):Wk (λr=>r.m=x.m/\r.l=x.l/\(r.e=0->x.e=0)/\(e ≠ 0->r.e ≠ 0)) (zbi x e):=by
 unfold zbi
 exact Wk.br (λh=>Wk.some ⟨rfl,rfl,λ_=>zOT h,id⟩) λh=>Wk.some ⟨rfl,rfl,id,λ_=>zOF h⟩
theorem zj6 {x y:GMk} (h1:y.m=x.m) (h2:y.l=x.l) (h3:y.e=0->x.e=0):Mx x y:=⟨h1,h3,λ_ h=>by rw [h2];exact h⟩
theorem zu4 (x:GMk) (i:Int):Wk (λr=>r.2=x) (zdF x i):=by
 unfold zdF
 exact Wk.asr λ_=>Wk.cal0 λy _=>Wk.br (λ_=>Wk.some rfl) λ_=>Wk.some rfl
theorem zqk {l:List zg} {i:Nat} {t:zg} (h:∀ t ∈ l,TN t) (ht:TN t):∀ y ∈ l.set i t,TN y:=λy hy=>(List.mem_or_eq_of_mem_set hy).elim (h y) λe=>by rw [e];exact ht
theorem zvu (x:GMk) (i k m:Int):Wk (λr=>Mx x r) (zdG x i k m):=by
 unfold zdG
 refine Wk.br (λ_=>Wk.some (.refl x)) λ_=>Wk.asr λ_=>Wk.cal0 λy _=>Wk.cal0 λz _=>Wk.br (λ_=>Wk.cal (zh3 _ _) λu hu=>Wk.some (zj6 hu.1 hu.2.1 hu.2.2.1)) λ_=>Wk.asr λ_=>Wk.cal0 λw hw=>Wk.some ⟨rfl,id,λ_ h=>?_⟩
 have hT:=h w (List.mem_of_getElem? hw)
 exact zqk h ⟨hT.k1,hT.k2,hT.f,hT.i,hT.fd,hT.id⟩
theorem zz0 (x:GMk) (i:Int) (v:Val):Wk (λr=>Mx x r.2) (zcQ x i v):=by
 unfold zcQ
 refine Wk.asr λ_=>Wk.cal0 λy _=>?_
 refine Wk.jp (λ_=>True) (λJ k=>?_) λq _=>Wk.jp (λ(z:GMk)=>Mx x z) (λJ k=>Wk.br (λ_=>Wk.cal (zh3 _ _) λu hu=>k _ (zj6 hu.1 hu.2.1 hu.2.2.1)) λ_=>k _ (.refl x)) λz hz=>Wk.some hz
 refine Wk.jp (λ_=>True) (λJ2 k2=>Wk.br (λ_=>k2 _ trivial) λ_=>k2 _ trivial) λb _=>Wk.br (λ_=>k _ trivial) λ_=>?_
 refine Wk.br (λ_=>Wk.jp (λ_=>True) (λJ2 k2=>Wk.br (λ_=>Wk.cal0 λz _=>k2 _ trivial) λ_=>k2 _ trivial) λb _=>k _ trivial) λ_=>?_
 refine Wk.jp (λ_=>True) (λJ2 k2=>Wk.br (λ_=>k2 _ trivial) λ_=>k2 _ trivial) λb _=>Wk.br (λ_=>?_) λ_=>?_
 ·refine Wk.jp (λ_=>True) (λJ2 k2=>Wk.br (λ_=>Wk.cal0 λz _=>k2 _ trivial) λ_=>k2 _ trivial) λb _=>?_
  exact Wk.jp (λ_=>True) (λJ2 k2=>Wk.br (λ_=>Wk.jp (λ_=>True) (λJ3 k3=>Wk.br (λ_=>k3 _ trivial) λ_=>Wk.cal0 λz _=>k3 _ trivial) λ_ _=>k2 _ trivial) λ_=>k2 _ trivial) λb _=>k _ trivial
 ·refine Wk.br (λ_=>Wk.br (λ_=>?_) λ_=>k _ trivial) λ_=>k _ trivial
  refine Wk.lp (λ_=>True) trivial λL q _ hL=>Wk.jp (λ_=>True) (λJ2 k2=>Wk.br (λ_=>k2 _ trivial) λ_=>k2 _ trivial) λb _=>Wk.br (λ_=>?_) λ_=>k _ trivial
  exact Wk.jp (λ_=>True) (λJ2 k2=>Wk.cal0 λz _=>Wk.br (λ_=>Wk.cal0 λu _=>k2 _ trivial) λ_=>k2 _ trivial) λz _=>Wk.ck (hL _ trivial)
def NdTo (l:List zai) (n:Int):Prop:=∀ (i k:Nat) a b,(i:Int) < n->k < i->l[i]?=some a->l[k]?=some b->b.name ≠ a.name
theorem zzS {l:List zai} (h:NdTo l l.length):(l.map λit=>it.name).Nodup:=by
 rw [List.nodup_iff_pairwise_ne] at *
 rw [List.pairwise_iff_getElem]
 intro i j hi hj hij
 rw [List.length_map] at hi hj
 rw [List.getElem_map,List.getElem_map]
 exact h j i l[j] l[i] (by omega) hij (List.getElem?_eq_getElem hj) (List.getElem?_eq_getElem hi)
theorem zwA (x:GMk) (n:zh) (hn:IN n.items):Wk (λr=>r.2.m=x.m/\r.2.l=x.l/\(r.2.e=0->x.e=0/\IN r.1/\(r.1.map λit=>it.name).Nodup)) (zdP x n):=by
 unfold zdP
 have sn:∀ {l:List zai} {it:zai},IN l->zml it.name.b=true->IN (l ++ [it]):=λh k it' hit=>by
  rcases List.mem_append.1 hit with h1 | h1
  ·exact h it' h1
  ·rw [zMo.1 h1];exact k
 refine Wk.lp (λ(q:List zai × Int × Int)=>IN q.1) (λit h=>by cases h) λL q hq hL=>Wk.br (λ_=>Wk.cal0 λy hy=>?_) λ_=>?_
 ·have hyn:=hn y (zgd hy).1
  refine Wk.jp (λ(z:Int × zai)=>z.2.name=y.name) (λJ k=>Wk.br (λ_=>Wk.lp (λ_=>True) trivial λL2 z _ hL2=>Wk.asr λ_=>Wk.cal0 λu _=>Wk.br (λ_=>Wk.ck (hL2 _ trivial)) λ_=>Wk.ck (k _ rfl)) λ_=>k _ rfl) λz hz=>Wk.asr λ_=>Wk.ck (hL _ (sn hq ?_))
  show zml z.2.name.b=true
  rw [hz];exact hyn
 ·refine Wk.lp (λ(q:List zai × Int × Bool × Bool × Int)=>IN q.1) hq λL q hq hL=>Wk.br (λ_=>Wk.cal0 λy hy=>?_) λ_=>?_
  ·have hyn:=hn y (zgd hy).1
   refine Wk.jp (λ(z:zai)=>z.name=y.name) (λJ k=>Wk.br (λ_=>?_) λ_=>k _ rfl) λz hz=>?_
   ·refine Wk.lp (λ(z:Int × zai)=>z.2.name=y.name) rfl λL2 z hz hL2=>Wk.br (λ_=>?_) λ_=>k _ hz
    refine Wk.jp (λ(u:zai)=>u.name=y.name) (λJ3 k3=>Wk.cal0 λu _=>Wk.br (λ_=>Wk.cal (zh3 _ _) λw hw=>Wk.some ⟨hw.1,hw.2.1,λe=>absurd e (hw.2.2.2 (by decide))⟩) λ_=>?_) λu hu=>Wk.ck (hL2 _ hu)
    exact Wk.jp (λ_=>True) (λJ4 k4=>Wk.br (λ_=>k4 _ trivial) λ_=>Wk.cal0 λw _=>k4 _ trivial) λb _=>Wk.br (λ_=>Wk.cal0 λw _=>Wk.ck (k3 _ hz)) λ_=>k3 _ hz
   ·refine Wk.jp (λ_=>True) (λJ k=>Wk.br (λ_=>k _ trivial) λ_=>Wk.jp (λ_=>True) (λJ2 k2=>Wk.br (λ_=>k2 _ trivial) λ_=>k2 _ trivial) λ_ _=>k _ trivial) λb _=>Wk.asr λ_=>Wk.ck (hL _ (sn hq ?_))
    show zml z.name.b=true
    rw [hz];exact hyn
  ·refine Wk.lp (λ(p:Bool × Int)=>0 <= p.2/\p.2 <= (q.1.length:Int)/\(p.1=false->NdTo q.1 p.2)) ⟨zIl _,by dsimp only;omega,λ_ i k a b h=>by dsimp only at h;omega⟩ λL2 p ⟨p0,p1,p2⟩ hL2=>Wk.br (λhb=>?_) λhb=>?_
   ·have hb:=zOT hb
    refine Wk.lp (λ(u:Bool × Int)=>0 <= u.2/\(u.1=false->NdTo q.1 p.2/\∀ (k:Nat) a b,(k:Int) < u.2->q.1[p.2.toNat]?=some a->q.1[k]?=some b->b.name ≠ a.name)) ⟨zIl _,λh=>⟨p2 h,λk a b hk=>by dsimp only at hk;omega⟩⟩ λL3 u ⟨u0,u1⟩ hL3=>Wk.br (λhc=>?_) λhc=>?_
    ·refine Wk.jp (λb=>b=false->u.1=false/\∀ a b,q.1[p.2.toNat]?=some a->q.1[u.2.toNat]?=some b->b.name ≠ a.name) (λJ k=>Wk.br (λ_=>k _ λh=>by cases h) λh1=>Wk.cal0 λy hy=>Wk.cal0 λz hz=>k _ λh=>⟨h1,λa b ha hb=>?_⟩) λb hb2=>?_
     ·have e1:=(zgd hy).2.2
      have e2:=(zgd hz).2.2
      rw [ha] at e2;rw [hb] at e1
      cases e1;cases e2
      exact zOF h
     ·refine Wk.jp (λc=>c=false->b=false) (λJ k=>Wk.br (λ_=>k _ λh=>by cases h) λh1=>Wk.cal0 λy hy=>Wk.cal0 λz hz=>k _ λ_=>h1) λc hc2=>Wk.ck (hL3 _ ⟨by dsimp only;omega,λh=>?_⟩)
      dsimp only at h
      obtain ⟨g1,g2⟩:=hb2 (hc2 h)
      refine ⟨(u1 g1).1,λk a b hk ha hb=>?_⟩
      dsimp only at hk
      by_cases hk2:(k:Int) < u.2
      ·exact (u1 g1).2 k a b hk2 ha hb
      ·have:k=u.2.toNat:=by omega
       subst this
       exact g2 a b ha hb
    ·have hc:=zOF hc
     refine Wk.ck (hL2 _ ⟨by dsimp only;omega,by dsimp only;omega,λh=>?_⟩)
     dsimp only at h ⊢
     obtain ⟨g1,g2⟩:=u1 h
     intro i k a b hi hk ha hb
     by_cases hi2:(i:Int) < p.2
     ·exact g1 i k a b hi2 hk ha hb
     ·have:i=p.2.toNat:=by omega
      subst this
      exact g2 k a b (by omega) ha hb
   ·have hb:=zOF hb
    refine Wk.jp (λ(z:GMk)=>z.m=x.m/\z.l=x.l/\(z.e=0->x.e=0/\p.1=false)) (λJ k=>Wk.br (λ_=>Wk.cal (zh3 _ _) λu hu=>k _ ⟨hu.1,hu.2.1,λe=>absurd e (hu.2.2.2 (by decide))⟩) λh=>k _ ⟨rfl,rfl,λe=>⟨e,h⟩⟩) λz hz=>Wk.some ⟨hz.1,hz.2.1,λe=>⟨(hz.2.2 e).1,hq,zzS ?_⟩⟩
    have:=p2 (hz.2.2 e).2
    rwa [show p.2=(q.1.length:Int) by omega] at this
theorem zsQ (x:GMk) (l:List zaF) (o:Bool):Wk (λr=>r.2=x) (zcM x l o):=by
 unfold zcM
 refine Wk.lp (λ_=>True) trivial λL q _ hL=>Wk.br (λ_=>Wk.cal0 λy _=>Wk.cal0 λz _=>?_) λ_=>Wk.cal0 λy _=>Wk.some rfl
 refine Wk.jp (λ_=>True) (λJ k=>Wk.br (λ_=>Wk.jp (λ_=>True) (λJ2 k2=>Wk.br (λ_=>k2 _ trivial) λ_=>k2 _ trivial) λ_ _=>k _ trivial) λ_=>k _ trivial) λb _=>Wk.br (λ_=>Wk.some rfl) λ_=>Wk.cal0 λu _=>Wk.cal0 λw _=>Wk.asr λ_=>Wk.ck (hL _ trivial)
theorem zyg (x:GMk) (t:zg):Wk (λr=>r.2=x) (zdQ x t):=by
 unfold zdQ
 refine Wk.br (λ_=>Wk.cal (zsQ _ _ _) λy hy=>Wk.some hy) λ_=>Wk.cal0 λy _=>?_
 refine Wk.lp (λ(q:Int × GMk)=>q.2=x) rfl λL q hq hL=>Wk.br (λ_=>?_) λ_=>?_
 ·refine Wk.jp (λ(z:GMk)=>z=x) (λJ k=>Wk.cal0 λz _=>Wk.br (λ_=>k _ hq) λ_=>Wk.ck ?_) λz hz=>Wk.ck (hL _ hz)
  refine Wk.lp (λ_=>True) trivial λL2 u _ hL2=>Wk.jp (λ_=>True) (λJ2 k2=>Wk.br (λ_=>Wk.cal0 λw _=>k2 _ trivial) λ_=>k2 _ trivial) λb _=>Wk.br (λ_=>Wk.ck (hL2 _ trivial)) λ_=>Wk.ck (Wk.asr λ_=>Wk.cal (zsQ _ _ _) λw hw=>Wk.br (λ_=>Wk.some (hw.trans hq)) λ_=>k _ (hw.trans hq))
 ·refine Wk.jp (λ(z:Bool × GMk)=>z.2=x) (λJ k=>Wk.br (λ_=>k _ hq) λ_=>Wk.cal0 λu _=>Wk.asr λ_=>Wk.cal (zsQ _ _ _) λw hw=>k _ (hw.trans hq)) λz hz=>Wk.some hz
structure MkW (n:Nat):Prop where
 fields:∀ (x:GMk) (i:Int) (nd:zh) (d:Int),AN x.m->NN nd->Wk (λr=>Mx x r) (zb2 n x i nd d)
 node:∀ (x:GMk) (k d:Int),AN x.m->Wk (λr=>Mx x r.2) (zcx n x k d)
 made:∀ (x:GMk) (nd:zh) (d:Int),AN x.m->NN nd->nd.kind ≠ 11->Wk (λr=>Mx x r.2) (zcz n x nd d)
theorem mkW:∀ n,MkW n:=by
 intro n
 induction n with
 | zero=>exact ⟨λ_ _ _ _ _ _=>Wk.none,λ_ _ _ _=>Wk.none,λ_ _ _ _ _ _=>Wk.none⟩
 | succ n ih =>
  refine ⟨λx i nd d hx hn=>?_,λx k d hx=>?_,λx nd d hx hn h11=>?_⟩
  ·show Wk _ (zcU (zb2 n) (zcx n) (zcz n) x i nd d)
   unfold zcU
   refine Wk.lp (λ_=>True) trivial λL0 q0 _ hL0=>Wk.br (λ_=>Wk.cal0 λy _=>Wk.jp (λ_=>True) (λJ k=>Wk.br (λ_=>k _ trivial) λ_=>Wk.cal0 λz _=>k _ trivial) λb _=>Wk.ck (hL0 _ trivial)) λ_=>?_
   refine Wk.jp (λ_=>True) (λJ k=>Wk.br (λ_=>k _ trivial) λ_=>k _ trivial) λb _=>Wk.jp (λ_=>True) (λJ k=>Wk.br (λ_=>k _ trivial) λ_=>k _ trivial) λb2 _=>?_
   refine Wk.jp (λ(z:GMk)=>Mx x z) (λJ k=>Wk.br (λ_=>Wk.cal (zh3 _ _) λu hu=>k _ (zj6 hu.1 hu.2.1 hu.2.2.1)) λ_=>k _ (.refl x)) λz hz=>?_
   refine Wk.lp (λ(q:List zaF × Int × GMk)=>0 <= q.2.1/\q.2.1 <= (nd.fields.length:Int)/\Mx x q.2.2/\(q.2.2.e=0->q.1.map (λf=>f.name)=(nd.fields.take q.2.1.toNat).map (λf=>f.name)/\((nd.fields.take q.2.1.toNat).map λf=>f.name).Nodup)) ⟨zIl _,by dsimp only;omega,hz,λ_=>⟨rfl,List.nodup_nil⟩⟩ λL q ⟨q0,q1,q2,q3⟩ hL=>?_
   refine Wk.jp (λb=>(b=true->q.2.1 < (nd.fields.length:Int))/\(b=false->q.2.2.e=0->(nd.fields.length:Int) <= q.2.1)) (λJ k=>Wk.br (λh=>k _ ⟨λ_=>zOT h,λh2 e=>absurd e (zOF h2)⟩) λh=>k _ ⟨λh=>(by cases h),λ_ _=>by have:=zOF h;omega⟩) λb hb=>Wk.br (λh=>?_) λh=>?_
   ·have hlt:=hb.1 h
    refine Wk.cal0 λf hf=>?_
    have hfi:=(zgd hf).2.2
    refine Wk.lp (λ(p:Int × GMk)=>0 <= p.1/\p.2.m=q.2.2.m/\p.2.l=q.2.2.l/\(p.2.e=0->q.2.2.e=0/\∀ (j:Nat) g,(j:Int) < p.1->nd.fields[j]?=some g->g.name ≠ f.name)) ⟨zIl _,rfl,rfl,λe=>⟨e,λj g hj=>by dsimp only at hj;omega⟩⟩ λL2 p ⟨p0,p1,p2,p3⟩ hL2=>Wk.br (λhc=>?_) λhc=>?_
    ·refine Wk.jp (λ(z:GMk)=>z.m=q.2.2.m/\z.l=q.2.2.l/\(z.e=0->p.2.e=0/\∀ g,nd.fields[p.1.toNat]?=some g->g.name ≠ f.name)) (λJ k=>Wk.cal0 λg hg=>Wk.br (λ_=>Wk.cal (zh3 _ _) λu hu=>k _ ⟨hu.1.trans p1,hu.2.1.trans p2,λe=>absurd e (hu.2.2.2 (by decide))⟩) λhne=>k _ ⟨p1,p2,λe=>⟨e,λg' hg'=>?_⟩⟩) λz hz=>Wk.ck (hL2 _ ⟨by dsimp only;omega,hz.1,hz.2.1,λe=>?_⟩)
     ·have:=(zgd hg).2.2
      rw [hg'] at this;cases this
      exact zOF hne
     ·dsimp only at e ⊢
      obtain ⟨e1,e2⟩:=hz.2.2 e
      refine ⟨(p3 e1).1,λj g hj hg=>?_⟩
      by_cases hj2:(j:Int) < p.1
      ·exact (p3 e1).2 j g hj2 hg
      ·have:j=p.1.toNat:=by omega
       subst this
       exact e2 g hg
    ·have hc:=zOF hc
     have hM:Mx x p.2:=q2.trans (zj6 p1 p2 λe=>(p3 e).1)
     refine Wk.ck (Wk.cal (ih.node _ _ _ (by rw [hM.m];exact hx)) λy hy=>?_)
     refine Wk.jp (λ_=>True) (λJ k=>Wk.br (λ_=>k _ trivial) λ_=>k _ trivial) λb3 _=>?_
     refine Wk.jp (λ(u:zaF × GMk)=>Mx p.2 u.2/\u.1.name=f.name) (λJ k=>Wk.br (λ_=>Wk.cal (zz0 _ _ _) λu hu=>k _ ⟨hy.trans hu,rfl⟩) λ_=>k _ ⟨hy,rfl⟩) λu hu=>?_
     refine Wk.jp (λ_=>True) (λJ k=>Wk.br (λ_=>k _ trivial) λ_=>k _ trivial) λb4 _=>?_
     refine Wk.jp (λ(w:GMk)=>Mx p.2 w) (λJ k=>Wk.br (λ_=>Wk.cal (zu4 _ _) λw hw=>Wk.cal (zvu _ _ _ _) λv hv=>k _ (hu.1.trans (by rw [hw] at hv;exact hv))) λ_=>k _ hu.1) λw hw=>Wk.asr λ_=>Wk.ck (hL _ ⟨by dsimp only;omega,by dsimp only;omega,hM.trans hw,λe=>?_⟩)
     dsimp only at e ⊢
     obtain ⟨e1,e2⟩:=p3 (hw.e e)
     obtain ⟨g1,g2⟩:=q3 e1
     have et:(nd.fields.take (q.2.1 + 1).toNat).map (λf=>f.name)=(nd.fields.take q.2.1.toNat).map (λf=>f.name) ++ [f.name]:=by
      rw [show (q.2.1 + 1).toNat=q.2.1.toNat + 1 by omega,List.take_add_one,hfi,List.map_append];rfl
     rw [et]
     refine ⟨by rw [List.map_append,g1];show _ ++ [u.1.name]=_;rw [hu.2],?_⟩
     rw [List.nodup_append]
     refine ⟨g2,(List.nodup_cons.2 ⟨List.not_mem_nil,List.nodup_nil⟩),λa ha b hb=>?_⟩
     rw [zMo.1 hb]
     obtain ⟨g,hg,rfl⟩:=List.mem_map.1 ha
     obtain ⟨j,hj⟩:=List.mem_iff_getElem?.1 hg
     have hjl:=(List.getElem?_eq_some_iff.1 hj).1
     rw [zLt] at hjl
     rw [List.getElem?_take,if_pos (by omega)] at hj
     exact e2 j g (by omega) hj
   ·refine Wk.br (λhe=>Wk.asr λ_=>Wk.cal0 λy hy=>Wk.asr λ_=>Wk.cal0 λz _=>Wk.cal (zyg _ _) λu hu=>?_) λ_=>Wk.some q2
    have he:=zOT he
    have hlen:=hb.2 h he
    obtain ⟨g1,g2⟩:=q3 he
    rw [zTl (by omega)] at g1 g2
    have key:Mx x (GMk.mk q.2.2.m (q.2.2.l.set i.toNat { y with fields:=q.1 }) q.2.2.e):=⟨q2.m,q2.e,λe ht=>by
     have h1:=q2.t e ht
     have hT:=h1 y (List.mem_of_getElem? hy)
     refine zqk h1 ⟨hT.k1,hT.k2,λf hf=>?_,hT.i,by show (q.1.map _).Nodup;rw [g1];exact g2,hT.id⟩
     have:f.name ∈ nd.fields.map (λf=>f.name):=by rw [<- g1];exact List.mem_map.2 ⟨f,hf,rfl⟩
     obtain ⟨g,hg,e2⟩:=List.mem_map.1 this
     rw [<- e2];exact hn.f g hg⟩
    rw [hu]
    exact Wk.br (λ_=>Wk.cal (zh3 _ _) λv hv=>Wk.some (key.trans (zj6 hv.1 hv.2.1 hv.2.2.1))) λ_=>Wk.some key
  ·show Wk _ (zdp (zb2 n) (zcx n) (zcz n) x k d)
   unfold zdp
   refine Wk.br (λ_=>Wk.some (.refl x)) λ_=>Wk.cal0 λy hy=>?_
   have hyn:=hx y (zgd hy).1
   refine Wk.jp (λ(q:Int × GMk)=>Mx x q.2) (λJ k=>Wk.br (λ_=>Wk.cal0 λa _=>Wk.cal0 λb _=>Wk.cal (ih.node _ _ _ hx) λc hc=>k _ hc) λh=>Wk.cal (ih.made _ _ _ hx hyn (zOF h)) λc hc=>k _ hc) λq hq=>?_
   refine Wk.jp (λ_=>True) (λJ k=>Wk.br (λ_=>k _ trivial) λ_=>k _ trivial) λb _=>?_
   refine Wk.jp (λ(z:GMk)=>Mx x z) (λJ k=>Wk.br (λ_=>?_) λ_=>k _ hq) λz hz=>Wk.some hz
   refine Wk.jp (λ(p:Int × GMk)=>p.2=q.2) (λJ2 k2=>Wk.br (λ_=>k2 _ rfl) λ_=>Wk.jp (λ_=>True) (λJ3 k3=>Wk.br (λ_=>k3 _ trivial) λ_=>k3 _ trivial) λc _=>Wk.br (λ_=>Wk.cal (zu4 _ _) λu hu=>k2 _ hu) λ_=>k2 _ rfl) λp hp=>Wk.cal (zvu _ _ _ _) λu hu=>k _ (hq.trans (by rw [hp] at hu;exact hu))
  ·show Wk _ (zdm (zb2 n) (zcx n) (zcz n) x nd d)
   unfold zdm
   refine Wk.jp (λ_=>True) (λJ k=>Wk.br (λ_=>k _ trivial) λ_=>k _ trivial) λb _=>Wk.br (λ_=>Wk.cal (zh3 _ _) λu hu=>Wk.some (zj6 hu.1 hu.2.1 hu.2.2.1)) λ_=>?_
   have hk1:=hn.k1
   have hk2:=hn.k2
   refine Wk.jp (λ(t:zg)=>TN t) (λJ k=>Wk.br (λ_=>Wk.cal0 λu _=>k _ ⟨hk1,by show nd.kind <= 10;omega,(λf hf=>by cases hf),(λf hf=>by cases hf),List.nodup_nil,List.nodup_nil⟩) λ_=>k _ ⟨hk1,by show nd.kind <= 10;omega,(λf hf=>by cases hf),(λf hf=>by cases hf),List.nodup_nil,List.nodup_nil⟩) λt ht=>?_
   refine Wk.jp (λ(z:GMk)=>Mx x z) (λJ k=>Wk.asr λ_=>k _ ⟨rfl,id,λ_ h y hy=>(List.mem_append.1 hy).elim (h y) λh1=>by rw [zMo.1 h1];exact ht⟩) λz hz=>?_
   have hzm:AN z.m:=by rw [hz.m];exact hx
   refine Wk.jp (λ(w:GMk)=>Mx x w) (λJ k=>?_) λw hw=>Wk.some hw
   refine Wk.jp (λ_=>True) (λJ2 k2=>Wk.br (λ_=>k2 _ trivial) λ_=>Wk.br (λ_=>k2 _ trivial) λ_=>Wk.br (λ_=>k2 _ trivial) λ_=>k2 _ trivial) λc _=>Wk.br (λ_=>Wk.cal0 λu _=>?_) λ_=>?_
   ·refine Wk.jp (λ(w:GMk)=>Mx x w) (λJ2 k2=>Wk.br (λ_=>Wk.cal (zh3 _ _) λv hv=>k2 _ (hz.trans (zj6 hv.1 hv.2.1 hv.2.2.1))) λ_=>k2 _ hz) λw hw=>Wk.br (λ_=>Wk.ck (Wk.cal (ih.node _ _ _ (by rw [hw.m];exact hx)) λv hv=>Wk.br (λ_=>Wk.asr λ_=>Wk.cal0 λs hs=>k _ ?_) λ_=>k _ (hw.trans hv))) λ_=>k _ hw
    have h1:=hw.trans hv
    exact ⟨h1.m,h1.e,λe ht2=>by
     have h2:=h1.t e ht2
     have hT:=h2 s (List.mem_of_getElem? hs)
     exact zqk h2 ⟨hT.k1,hT.k2,hT.f,hT.i,hT.fd,hT.id⟩⟩
   ·refine Wk.br (λ_=>Wk.cal (zwA _ _ hn.i) λv hv=>Wk.asr λ_=>Wk.asr λ_=>Wk.cal0 λs hs=>k _ ?_) λ_=>?_
    ·refine ⟨hv.1.trans hz.m,λe=>hz.e (hv.2.2 e).1,λe ht2=>?_⟩
     obtain ⟨e1,e2,e3⟩:=hv.2.2 e
     have h2:=hz.t e1 ht2
     dsimp only
     rw [hv.2.1] at hs ⊢
     have hT:=h2 s (List.mem_of_getElem? hs)
     exact zqk h2 ⟨hT.k1,hT.k2,hT.f,e2,hT.fd,e3⟩
    ·refine Wk.jp (λ_=>True) (λJ2 k2=>Wk.br (λ_=>k2 _ trivial) λ_=>Wk.br (λ_=>k2 _ trivial) λ_=>k2 _ trivial) λc _=>Wk.br (λ_=>Wk.cal (ih.fields _ _ _ _ hzm hn) λv hv=>k _ (hz.trans hv)) λ_=>k _ hz
theorem zyU (m:zaA) (hm:AN m):Wk (λr=>∀ t ∈ r.1.types,TN t) (zhl m):=by
 unfold zhl
 refine Wk.cal0 λy _=>Wk.br (λ_=>Wk.some λt ht=>by cases ht) λ_=>?_
 refine Wk.jp (λ_=>True) (λJ k=>Wk.asr λ_=>k _ trivial) λq5 _=>?_
 refine Wk.lp (λ(q:Int × zZ × GMk)=>q.2.2.m=m/\∀ t ∈ q.2.2.l,TN t) ⟨rfl,λt ht=>by cases ht⟩ λL q ⟨h1,h2⟩ hL=>Wk.br (λ_=>?_) λ_=>Wk.some h2
 refine Wk.jp (λ(p:zZ × GMk)=>Mx q.2.2 p.2) (λJ k=>Wk.cal0 λa _=>Wk.cal ((mkW fuel).node _ _ _ (by rw [h1];exact hm)) λb hb=>Wk.asr λ_=>k _ hb) λp hp=>Wk.br (λ_=>Wk.some λt ht=>by cases ht) λhe=>Wk.ck (hL _ ⟨hp.m.trans h1,hp.t (by simpa using he) h2⟩)
theorem zvF (s:Str):Wk (λr=>∀ t ∈ r.1.types,TN t) (zck s):=by
 unfold zck
 refine Wk.br (λ_=>Wk.some λt ht=>by cases ht) λ_=>Wk.cal (zxX s) λy hy=>Wk.br (λ_=>Wk.some λt ht=>by cases ht) λhe=>Wk.cal (zyU _ (hy (by simpa using he))) λz hz=>?_
 exact Wk.jp (λ_=>True) (λJ k=>Wk.br (λ_=>k _ trivial) λ_=>k _ trivial) λb _=>Wk.some hz
theorem ztn {s:List UInt8} (h:zml s=true):s.length <= 90:=by
 unfold zml at h
 simp only [zBa] at h
 have:=zOT h.1.2
 omega
theorem zyX {t:zZ} (ht:zdt t) (hn:∀ x ∈ t.types,TN x):NmB t.types:=by
 have htl:=ht.types
 have key:∀ x ∈ t.types,x.fields.length <= 1000/\x.items.length <= 100000:=λx hx=>by
  obtain ⟨k,hk⟩:=List.mem_iff_getElem?.1 hx
  have hlt:=(List.getElem?_eq_some_iff.1 hk).1
  obtain ⟨y,hy⟩:=zu7 ht (i:=(k:Int)) (Int.natCast_nonneg _) (by omega)
  have e:=hy.at_
  rw [Int.toNat_natCast,hk] at e
  cases e
  exact ⟨hy.fl,by have:=hy.ok.ilen;omega⟩
 exact ⟨by omega,λx hx=>(key x hx).1,λx hx=>(key x hx).2,λx hx f hf=>ztn ((hn x hx).f f hf),λx hx it hit=>ztn ((hn x hx).i it hit)⟩
theorem zur (x:zg) (n:Int) (hl:x.items.length <= 1000000):T (λr=>0 <= r->∃ it ∈ x.items,it.number=n) (zeb x n):=by
 unfold zeb
 refine T.cal (Q:=λr=>0 <= r->∃ it ∈ x.items,it.number=n) ?_ λy _ hy=>T.some hy
 unfold za7
 refine T.lp (ι:=Int) (λq=>0 <= q/\q <= (x.items.length:Int)) (λq=>((x.items.length:Int) - q).toNat) ⟨zIl _,by omega⟩ (by omega) λJ q ⟨q0,q1⟩ hJ=>T.br (λhb=>?_) λhb=>T.some λh=>absurd h (by decide)
 have hb:=zOT hb
 refine T.get q0 hb λy hy=>T.eq (y:=decide (y.number=n)) ?_ (T.br (λh=>T.some λ_=>⟨y,List.mem_of_getElem? hy,zOT h⟩) λh=>T.ck (by omega) (hJ _ ⟨by omega,by omega⟩ (by omega)))
 unfold zgk
 rfl
theorem zw3 {t:zZ} (ht:zdt t) {b:Bool} {i:Int} {x:zg} {v:Val} (h0:0 <= i) (hx:t.types[i.toNat]?=some x) (hk:x.kind=7 \/ x.kind=8) (hlen:v.l.length=x.fields.length)
    (hw:∀ w ∈ v.l,w.kind=0->w=zc2) (hfl:x.fields.length <= 1000) (hr0:0 <= x.root):T (λr=>r.2=zhS t b/\(r.1=true->∀ s ∈ slots x,Grp x v s)) (zcv (zhS t b) i v):=by
  unfold zcv
  have hlt:=(List.getElem?_eq_some_iff.1 hx).1
  have e:zq t.types i=some x:=by rw [zbm h0 (by omega)];exact congrArg some (List.getElem?_eq_some_iff.1 hx).2
  refine T.eq e (T.eq (zpF ht i) ?_)
  rw [zld h0 hx hk]
  have hsl:=zlh hr0
  refine T.lp (ι:=Int) (λ(q:Int)=>0 <= q/\q <= ((slots x).length:Int)/\∀ (k:Nat),(k:Int) < q->∀ s,(slots x)[k]?=some s->Grp x v s) (λ(q:Int)=>(((slots x).length:Int) - q).toNat) ⟨zIl _,by omega,λk hk=>by omega⟩ (by omega) λL q ⟨q1,q2,q3⟩ hL=>T.br (λhb=>?_) λhb=>T.some ⟨rfl,λ_ s hs=>?_⟩
  · have hb:=zOT hb
    obtain ⟨s,hs⟩:∃ s,(slots x)[q.toNat]?=some s:=⟨_,List.getElem?_eq_getElem (by omega)⟩
    refine T.jp (ι:=Unit) (λ_=>Grp x v s) (λJ kk=>?_) λ_ hG=>T.ck (by omega) (hL _ ⟨by omega,by omega,λn hn s' hs'=>?_⟩ (by omega))
    · refine T.get q1 hb λs' hs'=>?_
      rw [hs] at hs';cases hs'
      have hsm:=List.mem_of_getElem? hs
      obtain ⟨k0,r,e0,e1,e2⟩:=zl7 hr0 s hsm
      have hsl2:=zkj hr0 s hsm
      obtain ⟨k1,k2⟩:=e2 k0 (by rw [e0];exact zMs)
      refine T.get (zIl _) (by rw [e0,zLc];omega) λk hk'=>?_
      have ek:k=k0:=by rw [e0] at hk';simpa using hk'.symm
      subst ek
      have eh:s.headD 0=k:=by rw [e0];rfl
      refine T.get (by omega) k2 λf hff=>?_
      have eg:grp x.fields k=f.group:=by unfold grp;rw [hff];rfl
      refine T.br (λhgz=>kk _ ?_) λhgz=>?_
      · have hgz:=zOT hgz
        unfold Grp
        rw [eh,eg,hgz];rfl
      refine T.lp (ι:=Bool × Bool × Int) (λp=>0 <= p.2.2/\p.2.2 <= (s.length:Int)/\p.1=(s.take p.2.2.toNat).any (thr v)/\p.2.1=(s.take p.2.2.toNat).any (lck x v)) (λp=>((s.length:Int) - p.2.2).toNat) ⟨zIl _,by dsimp only;omega,rfl,rfl⟩ (by dsimp only;omega) λL2 p ⟨p1,p2,p3,p4⟩ hL2=>T.br (λhc2=>?_) λhc2=>?_
      · obtain ⟨so,la,m⟩:=p
        dsimp only at p1 p2 p3 p4 hL2 hc2 ⊢
        have hc2:=zOT hc2
        have em:(m + 1).toNat=m.toNat + 1:=by omega
        refine T.get p1 hc2 λk hk=>?_
        obtain ⟨k1,k2⟩:=e2 k (List.mem_of_getElem? hk)
        refine T.get (by omega) (by omega) λw hwk=>T.eq (zh9 w) ?_
        have ea:(decide (w.kind=0) && pln w false false false false)=decide (w.kind=0):=by
          by_cases hz:w.kind=0
          · rw [zmt.2 (hw w (List.mem_of_getElem? hwk) hz),zDT hz]
          · rw [zDF hz];rfl
        rw [ea]
        obtain ⟨f',hf'⟩:∃ f,x.fields[k.toNat]?=some f:=⟨_,List.getElem?_eq_getElem (by omega)⟩
        have e':zq x.fields k=some f':=by rw [zbm (by omega) (by omega)];exact congrArg some (List.getElem?_eq_some_iff.1 hf').2
        have eth:(!decide (w.kind=0))=thr v k:=by unfold thr;rw [hwk]
        have elk:(!(!decide (w.kind=0)) && (!f'.optional) && (!f'.has))=lck x v k:=by
          unfold lck
          rw [<- eth,hf']
          show _=(!(!decide (w.kind=0)) && !(f'.optional || f'.has))
          cases decide (w.kind=0) <;> cases f'.optional <;> cases f'.has <;> rfl
        refine T.or' (T.orJ (d:=lck x v k) (λJ h2=>T.andJ (d:=!f'.optional) (λJ3 h3=>T.eq e' h3) (T.andJ (d:=!f'.has) (λJ3 h3=>T.eq e' h3) ?_)) (T.ck (by omega) (hL2 _ ⟨by dsimp only;omega,by dsimp only;omega,?_,?_⟩ (by dsimp only;omega))))
        · rw [elk];exact h2
        · dsimp only;rw [em,zhJ hk,p3,eth]
        · dsimp only;rw [em,zhJ hk,p4]
      · obtain ⟨so,la,m⟩:=p
        dsimp only at p1 p2 p3 p4 hL2 hc2 ⊢
        have hc2:=zOF hc2
        rw [zTl (by omega)] at p3 p4
        refine T.and' (T.br (λ_=>T.some ⟨rfl,λh=>by cases h⟩) λh=>kk _ ?_)
        unfold Grp
        rw [p3,p4] at h
        rw [Bool.and_assoc,h,Bool.and_false]
    · rcases Int.lt_or_le (n:Int) q with h4 | h4
      · exact q3 n h4 s' hs'
      · have:n=q.toNat:=by omega
        subst this
        rw [hs] at hs';cases hs'
        exact hG
  · have hb:=zOF hb
    obtain ⟨n,hn⟩:=List.mem_iff_getElem?.1 hs
    exact q3 n (by have:=(List.getElem?_eq_some_iff.1 hn).1;omega) s hn
structure Was (t:zZ) (b:Bool) (B:Val->Prop):Prop where
 kid:∀ v,B v->∀ w ∈ v.l,B w
 unk:∀ {i:Int} {v:Val},B v->v.kind=12->0 <= i->i < t.types.length->zbV v->T (λr=>r.2=zhS t b) (zei (zhS t b) i v)
 raw:∀ {i:Int} {v:Val},B v->0 <= i->i < t.types.length->zbV v->T (λr=>r.2=zhS t b/\(r.1=true->v.more=[]->v.rule=0)) (zdo (zhS t b) i v)
theorem fitsW {t:zZ} (ht:zdt t) {b:Bool} {B:Val->Prop} (hB:Was t b B):∀ {h n:Nat} {i:Int} {v:Val} {d:Int},0 <= d->d + h=18->6 * h + 6 <= n->zbV v->cnt v <= 10000000->B v->T (λr=>r.2=zhS t b/\(r.1=true->Fit t h i v)) (zW n (zhS t b) i v d):=by
 intro h
 induction h with
 | zero =>
  intro n i v d d0 hd hn hf hc hv
  obtain ⟨n,rfl⟩:∃ n',n=n' + 1:=⟨n - 1,by omega⟩
  show T _ (zbF (zY n) (zW n) (zam n) (zk n) (zo n) (zac n) (zhS t b) i v d)
  unfold zbF
  refine T.or' (T.or' (T.br (λ_=>T.some ⟨rfl,λh=>by cases h⟩) λhq=>?_))
  rw [Bool.or_eq_false_iff] at hq
  have:=zOF hq.2
  omega
 | succ h ih =>
  intro n i v d d0 hd hn hf hc hv
  obtain ⟨n,rfl⟩:∃ n',n=n' + 6:=⟨n - 6,by omega⟩
  have htl:=ht.types
  have hvl:=hf.l
  show T _ (zbF (zY (n + 5)) (zW (n + 5)) (zam (n + 5)) (zk (n + 5)) (zo (n + 5)) (zac (n + 5)) (zhS t b) i v d)
  unfold zbF
  refine T.or' (T.or' (T.br (λ_=>T.some ⟨rfl,λh=>by cases h⟩) λhq=>?_))
  rw [Bool.or_eq_false_iff,Bool.or_eq_false_iff] at hq
  have i0:0 <= i:=by have:=zOF hq.1.1;omega
  have i1:i < t.types.length:=by have h9:¬ ((t.types.length:Int) <= i):=zOF hq.1.2;omega
  obtain ⟨x,hx⟩:∃ x,t.types[i.toNat]?=some x:=⟨_,List.getElem?_eq_getElem (by omega)⟩
  obtain ⟨j,hj⟩:=zbu.sub ht.kids i.toNat (by omega) (by omega)
  have hjl:=hj.inb
  obtain ⟨x',hx',hok,hkid⟩:=hj
  rw [hx] at hx';cases hx'
  have hfl:=zf7 hkid hjl (by omega)
  have hil:=hok.ilen
  have eg:zq t.types i=some x:=by rw [zbm i0 i1];exact congrArg some (List.getElem?_eq_some_iff.1 hx).2
  have mk:∀ r:Bool,v.kind=x.kind->(r=true->zp0 x v (Fit t h))->(r=true->Fit t (h + 1) i v):=λr e k hr=>⟨i0,x,hx,.inr ⟨e,k hr⟩⟩
  refine T.eq eg (T.br (λh12=>T.cal (hB.unk hv (zOT h12) i0 i1 hf) λy _ hy=>T.some ⟨hy,λ_=>⟨i0,x,hx,.inl (zOT h12)⟩⟩) λh12=>T.br (λ_=>T.some ⟨rfl,λh=>by cases h⟩) λhkk=>?_)
  have hkk:v.kind=x.kind:=by simpa using hkk
  refine T.br (λk1=>?_) λ_=>T.br (λk2=>?_) λ_=>T.br (λk3=>?_) λ_=>T.br (λk4=>?_) λ_=>?_
  ·refine T.eq (zcY _ _ (by decide)) (T.andJ (d:=decide (v.n=0) || decide (v.n=1)) (λJ hh=>T.or' hh) (T.some ⟨rfl,mk _ hkk λhr=>?_⟩))
   rw [zBa] at hr
   exact .inl ⟨zOT k1,hr.1,hr.2⟩
  ·refine T.eq (zcY _ _ (by decide)) (T.andJ (d:=x.con.more || ze0 x.con v.n) (λJ hh=>T.orJ (d:=ze0 x.con v.n) (λJ2 h2=>T.eq (zhx _ _) h2) hh) (T.some ⟨rfl,mk _ hkk λhr=>?_⟩))
   rw [zBa] at hr
   exact .inr (.inl ⟨zOT k2,hr.1,hr.2⟩)
  ·refine T.eq (zcY _ _ (by decide)) (T.jp (λb=>b=true->pln v true false false false=true/\∃ it ∈ x.items,it.number=v.n) (λJ kk=>T.br (λhp=>T.cal (zur x v.n (by omega)) λy _ hy=>kk _ λh=>⟨hp,hy (zOT h)⟩) λ_=>kk _ λh=>by cases h) λb hb=>T.some ⟨rfl,mk _ hkk λhr=>?_⟩)
   exact .inr (.inr (.inl ⟨zOT k3,(hb hr).1,(hb hr).2⟩))
  ·exact T.eq (zcY _ _ (by decide)) (T.some ⟨rfl,mk _ hkk λhr=>.inr (.inr (.inr (.inl ⟨zOT k4,hr⟩)))⟩)
  refine T.jp (λb=>b=true->x.kind=5 \/ x.kind=6) (λJ kk=>T.br (λh5=>kk _ λ_=>.inl (zOT h5)) λ_=>kk _ λh=>.inr (zOT h)) λb56 h56=>T.br (λhb=>?_) λ_=>T.br (λk10=>?_) λ_=>T.br (λk9=>?_) λ_=>?_
  ·refine T.cal (Q:=λr=>r.2=zhS t b/\(r.1=true->(pln v false true false false=true/\(v.b.length:Int) <= 70000/\(x.con.more || ze0 x.con (v.b.length:Int))=true)/\(x.kind=5 \/ zcy v.b=some true))) ?_ λy _ hy=>T.some ⟨hy.1,mk _ hkk λhr=>?_⟩
   ·unfold zdD
    refine T.eq (zcY _ _ (by decide)) (T.and' (T.andJ (d:=x.con.more || ze0 x.con (v.b.length:Int)) (λJ hh=>T.orJ (d:=ze0 x.con (v.b.length:Int)) (λJ2 h2=>T.eq (zhx _ _) h2) hh) ?_))
    refine T.jp (λb=>b=true->(pln v false true false false=true/\(v.b.length:Int) <= 70000/\(x.con.more || ze0 x.con (v.b.length:Int))=true)/\(x.kind=5 \/ zcy v.b=some true)) (λJ kk=>T.br (λhp=>?_) λ_=>kk _ λh=>by cases h) λb hb2=>T.some ⟨rfl,hb2⟩
    rw [zBa,zBa] at hp
    have hp1:=zOT hp.1.2
    refine T.jp (λb=>b=true->x.kind=5 \/ zcy v.b=some true) (λJ2 k2=>T.br (λh5=>k2 _ λ_=>.inl (zOT h5)) λ_=>T.cal (znS v.b (by omega)) λy hy _=>k2 _ λh=>.inr (by rw [hy,h])) λb hb3=>kk _ λh=>⟨⟨hp.1.1,hp1,hp.2⟩,hb3 h⟩
   ·obtain ⟨⟨r1,r2,r3⟩,r4⟩:=hy.2 hr
    exact .inr (.inr (.inr (.inr (.inl ⟨h56 hb,r1,r2,r3,r4⟩))))
  ·refine T.cal (Q:=λr=>r.2=zhS t b/\(r.1=true->pln v false false true false=true/\(x.con.more || ze0 x.con (v.l.length:Int))=true/\∀ w ∈ v.l,Fit t h x.of w)) ?_ λy _ hy=>T.some ⟨hy.1,mk _ hkk λhr=>.inr (.inr (.inr (.inr (.inr (.inl ⟨zOT k10,hy.2 hr⟩)))))⟩
   show T _ (zcA (zY (n + 4)) (zW (n + 4)) (zam (n + 4)) (zk (n + 4)) (zo (n + 4)) (zac (n + 4)) (zhS t b) x v d)
   unfold zcA
   refine T.eq (zcY _ _ (by decide)) (T.andJ (d:=x.con.more || ze0 x.con (v.l.length:Int)) (λJ hh=>T.orJ (d:=ze0 x.con (v.l.length:Int)) (λJ2 h2=>T.eq (zhx _ _) h2) hh) ?_)
   refine T.jp (ι:=Bool × zy) (λr=>r.2=zhS t b/\(r.1=true->pln v false false true false=true/\(x.con.more || ze0 x.con (v.l.length:Int))=true/\∀ w ∈ v.l,Fit t h x.of w)) (λJ kk=>T.br (λhp=>?_) λ_=>kk _ ⟨rfl,λh=>by cases h⟩) λp hp=>T.some hp
   rw [zBa] at hp
   refine T.cal (Q:=λr=>r.2=zhS t b/\(r.1=false->∀ w ∈ v.l,Fit t h x.of w)) ?_ λy _ hy=>kk _ ⟨hy.1,λh=>⟨hp.1,hp.2,hy.2 (by simpa using h)⟩⟩
   show T _ (zar (zY (n + 3)) (zW (n + 3)) (zam (n + 3)) (zk (n + 3)) (zo (n + 3)) (zac (n + 3)) v.l (zhS t b) x d)
   unfold zar
   refine T.cal (Q:=λr=>r.2=zhS t b/\(¬ 0 <= r.1->∀ w ∈ v.l,Fit t h x.of w)) ?_ λy _ hy=>T.some ⟨hy.1,λh=>hy.2 (zOF h)⟩
   show T _ (zav (zY (n + 2)) (zW (n + 2)) (zam (n + 2)) (zk (n + 2)) (zo (n + 2)) (zac (n + 2)) v.l (zhS t b) x d)
   unfold zav
   refine T.lp (ι:=Int × zy) (λq=>0 <= q.1/\q.1 <= (v.l.length:Int)/\q.2=zhS t b/\∀ (k:Nat),(k:Int) < q.1->∀ w,v.l[k]?=some w->Fit t h x.of w) (λq=>((v.l.length:Int) - q.1).toNat) ⟨zIl _,by dsimp only;omega,rfl,λk hk=>by dsimp only at hk;omega⟩ (by dsimp only;omega) λL q ⟨q1,q2,q3,q4⟩ hL=>?_
   obtain ⟨q,c⟩:=q
   dsimp only at q1 q2 q3 q4 hL ⊢
   subst q3
   refine T.br (λhb2=>?_) λhb2=>T.some ⟨rfl,λ_ w hw=>?_⟩
   ·have hb2:=zOT hb2
    refine T.get q1 hb2 λw hw=>?_
    have hwm:=List.mem_of_getElem? hw
    refine T.cal (Q:=λr=>r.2=zhS t b/\(r.1=false->Fit t h x.of w)) ?_ λy _ hy=>?_
    ·show T _ (zb0 (zY (n + 1)) (zW (n + 1)) (zam (n + 1)) (zk (n + 1)) (zo (n + 1)) (zac (n + 1)) w (zhS t b) x d)
     unfold zb0
     exact T.ck (by omega) (T.cal (ih (by omega) (by omega) (by omega) (hf.kid w hwm) (by have:=zc9 hwm;omega) (hB.kid v hv w hwm)) λy _ hy=>T.some ⟨hy.1,λh=>hy.2 (by simpa using h)⟩)
    ·refine T.br (λ_=>T.some ⟨hy.1,λh=>absurd q1 h⟩) λhy2=>?_
     rw [hy.1]
     refine T.ck (by omega) (hL _ ⟨by dsimp only;omega,by dsimp only;omega,rfl,λk hk w' hw'=>?_⟩ (by dsimp only;omega))
     dsimp only at hk
     rcases Int.lt_or_le (k:Int) q with h4 | h4
     ·exact q4 k h4 w' hw'
     ·have:k=q.toNat:=by omega
      subst this
      rw [hw] at hw';cases hw'
      exact hy.2 hy2
   ·have hb2:=zOF hb2
    obtain ⟨k,hk⟩:=List.mem_iff_getElem?.1 hw
    exact q4 k (by have:=(List.getElem?_eq_some_iff.1 hk).1;omega) w hk
  ·refine T.eq (zcY _ _ (by decide)) (T.and' (T.and' (T.and' ?_)))
   refine T.jp (ι:=Bool × zy) (λr=>r.2=zhS t b/\(r.1=true->zp0 x v (Fit t h))) (λJ kk=>T.br (λhp=>?_) λ_=>kk _ ⟨rfl,λh=>by cases h⟩) λp hp=>T.some ⟨hp.1,mk _ hkk hp.2⟩
   rw [zBa,zBa,zBa] at hp
   have hn0:=zOT hp.1.1.2
   have hnl:=zOT hp.1.2
   have hl1:=zOT hp.2
   obtain ⟨w,hw⟩:=List.length_eq_one_iff.1 (show v.l.length=1 by omega)
   have hwm:w ∈ v.l:=by rw [hw];exact zMo.2 rfl
   refine T.get hn0 hnl λf hff=>T.eq (y:=w) (by rw [hw];rfl) (T.ck (by omega) (T.cal (ih (by omega) (by omega) (by omega) (hf.kid w hwm) (by have:=zc9 hwm;omega) (hB.kid v hv w hwm)) λy _ hy=>kk _ ⟨hy.1,λhr=>?_⟩))
   exact .inr (.inr (.inr (.inr (.inr (.inr (.inl ⟨zOT k9,hp.1.1.1,hn0,f,w,hff,hw,hy.2 hr⟩))))))
  ·refine T.jp (λb=>b=true->x.kind=7 \/ x.kind=8) (λJ kk=>T.br (λh5=>kk _ λ_=>.inl (zOT h5)) λ_=>kk _ λh=>.inr (zOT h)) λb78 h78=>T.br (λhb=>?_) λ_=>T.some ⟨rfl,λh=>by cases h⟩
   have hk78:=h78 hb
   refine T.cal (Q:=λr=>r.2=zhS t b/\(r.1=true->zp0 x v (Fit t h))) ?_ λy _ hy=>T.some ⟨hy.1,mk _ hkk hy.2⟩
   show T _ (zch (zY (n + 4)) (zW (n + 4)) (zam (n + 4)) (zk (n + 4)) (zo (n + 4)) (zac (n + 4)) (zhS t b) i v d)
   unfold zch
   refine T.eq eg (T.eq (zcY _ _ (by decide)) (T.or' ?_))
   refine T.jp (ι:=Bool × zy) (λp=>p.2=zhS t b/\(p.1=false->pln v false false true true=true/\v.l.length=x.fields.length/\(v.more=[]->v.rule=0))) (λJ kk=>T.br (λ_=>kk _ ⟨rfl,λh=>by cases h⟩) λh1=>T.cal (hB.raw hv i0 i1 hf) λy _ hy=>kk _ ⟨hy.1,λh2=>?_⟩) λp hp=>?_
   ·rw [Bool.or_eq_false_iff] at h1
    exact ⟨nt h1.1,zpS h1.2,hy.2 (by simpa using h2)⟩
   obtain ⟨p1,c⟩:=p
   obtain ⟨pc,hp⟩:=hp
   dsimp only at pc hp ⊢
   subst pc
   refine T.br (λ_=>T.some ⟨rfl,λh=>by cases h⟩) λhp1=>?_
   obtain ⟨hpl,hlen,hrule⟩:=hp hp1
   refine T.lp (ι:=Int × zy) (λq=>0 <= q.1/\q.1 <= (x.fields.length:Int)/\q.2=zhS t b/\∀ (k:Nat),(k:Int) < q.1->∀ f w,x.fields[k]?=some f->v.l[k]?=some w->znk x (Fit t h) k f w) (λq=>((x.fields.length:Int) - q.1).toNat) ⟨zIl _,by dsimp only;omega,rfl,λk hk=>by dsimp only at hk;omega⟩ (by dsimp only;omega) λL q ⟨q1,q2,q3,q4⟩ hL=>?_
   obtain ⟨q,c⟩:=q
   dsimp only at q1 q2 q3 q4 hL ⊢
   subst q3
   refine T.br (λhb2=>?_) λhb2=>?_
   ·have hb2:=zOT hb2
    refine T.jp (ι:=zy) (λc=>c=zhS t b/\∀ f w,x.fields[q.toNat]?=some f->v.l[q.toNat]?=some w->znk x (Fit t h) q.toNat f w) (λJ kk=>?_) λc hc2=>T.ck (by omega) (hL _ ⟨by dsimp only;omega,by dsimp only;omega,hc2.1,λk hk f w hkf hkw=>?_⟩ (by dsimp only;omega))
    ·refine T.get q1 hb2 λf hff=>T.get q1 (by omega) λw hw=>?_
     have hwm:=List.mem_of_getElem? hw
     have hcw:=zc9 hwm
     have fin:znk x (Fit t h) q.toNat f w->zhS t b=zhS t b/\∀ f w,x.fields[q.toNat]?=some f->v.l[q.toNat]?=some w->znk x (Fit t h) q.toNat f w:=λhF=>⟨rfl,λf' w' hf' hw'=>by
      rw [hff] at hf';cases hf'
      rw [hw] at hw';cases hw'
      exact hF⟩
     refine T.br (λhz=>?_) λhz=>?_
     ·have hz:=zOT hz
      refine T.eq (zh9 _) (T.orJ (d:=!(f.optional || f.has || decide (x.root <= q))) (λJ2 hh=>T.eq (zo5 q1 hff) hh) (T.br (λ_=>T.some ⟨rfl,λh=>by cases h⟩) λha=>kk _ (fin ?_)))
      rw [Bool.or_eq_false_iff] at ha
      have ha1:(decide (w.kind=0) && pln w false false false false)=true:=by simpa using ha.1
      have ha2:(f.optional || f.has || decide (x.root <= q))=true:=nt ha.2
      rw [Bool.or_eq_true,Bool.or_eq_true] at ha2
      refine .inl ⟨hz,zmt.1 ha1,?_⟩
      rcases ha2 with (h2 | h2) | h2
      ·exact .inl h2
      ·exact .inr (.inl h2)
      ·have:=zOT h2;exact .inr (.inr (by omega))
     ·have hz:=zOF hz
      refine T.ck (by omega) (T.cal (ih (by omega) (by omega) (by omega) (hf.kid w hwm) (by omega) (hB.kid v hv w hwm)) λy _ hy=>?_)
      refine T.jp (λb=>b=false->y.1=true/\(f.has=true->w ≠ f.dflt)) (λJ2 k2=>T.br (λ_=>k2 _ λh=>by cases h) λhy2=>?_) λb hb2=>T.br (λ_=>T.some ⟨hy.1,λh=>by cases h⟩) λhq=>?_
      ·refine T.jp (λb=>b=false->f.has=true->w ≠ f.dflt) (λJ3 k3=>T.br (λhh=>T.cal (zmK (k:=10000000) (n:=fuel) (by omega) (by unfold fuel;omega) (hf.kid w hwm) _) λr _ hr=>k3 _ λh1 _ h2=>?_) λhh=>k3 _ λ_ h=>by rw [hh] at h;cases h) λb hb3=>k2 _ λh=>⟨by simpa using hy2,hb3 h⟩
       rw [hr.2 h2] at h1;cases h1
      ·obtain ⟨b1,b2⟩:=hb2 hq
       rw [hy.1]
       exact kk _ (fin (.inr ⟨hz,hy.2 b1,b2⟩))
    ·dsimp only at hk
     rcases Int.lt_or_le (k:Int) q with h4 | h4
     ·exact q4 k h4 f w hkf hkw
     ·have:k=q.toNat:=by omega
      subst this
      exact hc2.2 f w hkf hkw
   ·have hb2:=zOF hb2
    have hfields:∀ (k:Nat) f w,x.fields[k]?=some f->v.l[k]?=some w->znk x (Fit t h) k f w:=λk f w h1 h2=>q4 k (by have:=(List.getElem?_eq_some_iff.1 h1).1;omega) f w h1 h2
    refine T.cal (zw3 ht i0 hx hk78 hlen (λw hw hz=>?_) hfl hok.root0) λy _ hy=>T.some ⟨hy.1,λhr=>.inr (.inr (.inr (.inr (.inr (.inr (.inr ⟨hk78,hpl,hrule,hlen,hfields,hy.2 hr⟩))))))⟩
    obtain ⟨k,hk⟩:=List.mem_iff_getElem?.1 hw
    have hlt:=(List.getElem?_eq_some_iff.1 hk).1
    obtain ⟨f,hff⟩:∃ f,x.fields[k]?=some f:=⟨_,List.getElem?_eq_getElem (by omega)⟩
    exact (hfields k f w hff hk).elim (λh=>h.2.1) λh=>absurd hz h.1
theorem zvq {t:zZ} {b:Bool}:Was t b (λv=>bare v=true) where
 kid v h:=(zjO h).2.2
 unk h k:=absurd k (zjO h).1
 raw {i v} h i0 i1 hf:=by
  have hm:=(zjO h).2.1
  obtain ⟨x,hx⟩:∃ x,t.types[i.toNat]?=some x:=⟨_,List.getElem?_eq_getElem (by omega)⟩
  have eg:zq t.types i=some x:=by rw [zbm i0 i1];exact congrArg some (List.getElem?_eq_some_iff.1 hx).2
  unfold zdo
  refine T.eq eg (T.br (λ_=>T.some ⟨rfl,λh _=>zOT h⟩) λh=>?_)
  rw [hm] at h;cases h
theorem zz2 {t:zZ} (ht:zdt t) (hn:∀ x ∈ t.types,TN x):TG t.types:=by
 have hB:=zyX ht hn
 have key:∀ x ∈ t.types,∃ i:Int,TyF t i x:=λx hx=>by
  obtain ⟨k,hk⟩:=List.mem_iff_getElem?.1 hx
  have hlt:=(List.getElem?_eq_some_iff.1 hk).1
  obtain ⟨y,hy⟩:=zu7 ht (i:=(k:Int)) (Int.natCast_nonneg _) (by omega)
  have e:=hy.at_
  rw [Int.toNat_natCast,hk] at e
  cases e
  exact ⟨_,hy⟩
 have kid:∀ x ∈ t.types,∀ j ∈ zhn x,0 <= j/\j < t.types.length:=λx hx j hj=>by
  obtain ⟨i,hi⟩:=key x hx
  obtain ⟨e,hkid,he⟩:=hi.kids
  obtain ⟨c,d,e1,e2,e3,e4⟩:=zaK.mem3 zbu.le' hkid hj
  have:=e2.lt
  omega
 exact ⟨⟨hB.len,hB.fl,hB.il,λx hx f hf=>kid x hx _ (zmv f hf),λx hx hk=>kid x hx _ (List.mem_append_right _ (by rw [if_pos hk];exact zMo.2 rfl)),λx hx=>⟨(hn x hx).k1,(hn x hx).k2⟩⟩,hB,⟨λx hx=>(hn x hx).f,λx hx=>(hn x hx).i,λx hx=>(hn x hx).fd,λx hx=>(hn x hx).id⟩⟩
theorem zxf {t:zZ} (ht:zdt t) (w:Int):T (λ(r:Int × Bool)=>r.2=true->0 <= r.1/\r.1 < (t.types.length:Int)) (zfK t w):=by
 unfold zfK
 have h1:=ht.names
 have h2:=ht.roots
 refine T.br (λ_=>T.some λh=>by cases h) λh=>?_
 have h:=zOF h
 have hn:(UInt64.ofNat ((t.roots.length:Int) % 18446744073709551616).toNat).toNat=t.roots.length:=by rw [UInt64.toNat_ofNat'];omega
 have hz:¬ (UInt64.ofNat ((t.roots.length:Int) % 18446744073709551616).toNat)=0:=λe=>by
  have:=congrArg UInt64.toNat e
  rw [hn] at this
  exact h (by rw [this];rfl)
 have hlt:((UInt64.ofNat (w % 18446744073709551616).toNat) % (UInt64.ofNat ((t.roots.length:Int) % 18446744073709551616).toNat)).toNat < t.roots.length:=by
  rw [UInt64.toNat_mod,hn];exact Nat.mod_lt _ (by omega)
 refine T.asr (by rw [zDF hz];rfl) (T.ck (by omega) (T.get (by omega) (by omega) λy hy=>T.some λ_=>?_))
 obtain ⟨c,d,e1,e2,e3,e4⟩:=zaK.mem3 zbu.le' ht.kids (List.mem_of_getElem? hy)
 have:=e2.lt
 show 0 <= y/\y < (t.types.length:Int)
 omega
theorem zxA {t:zZ} (ht:zdt t) (hn:∀ x ∈ t.types,TN x) {i:Int} {b:List UInt8} {v:Val} {r:List zS} (h:zk4 t.types i b=.ok v r):BI v:=by
 unfold zk4 at h
 split at h
 ·cases h
 ·split at h
  ·cases h
  ·rename_i w r' hp
   have key:BI w:=zts (λx hx=>?_) 17 hp
   ·split at h
    ·cases h
    ·split at h
     ·cases h;exact key
     ·cases h
   ·obtain ⟨k,hk⟩:=List.mem_iff_getElem?.1 hx
    have hlt:=(List.getElem?_eq_some_iff.1 hk).1
    obtain ⟨y,hy⟩:=zu7 ht (i:=(k:Int)) (Int.natCast_nonneg _) (by omega)
    have e:=hy.at_
    rw [Int.toNat_natCast,hk] at e
    cases e
    have:=(hn x hx).k2
    refine ⟨by omega,hy.fl,λit hit=>?_⟩
    have:=hy.ok.nums it hit
    unfold I64 at this
    omega
/-! ### Octets as digits of 16 -/
def hxd (c:UInt8):UInt8:=if (65:UInt8) <= c then (c - 65) + 10 else c - 48
def hxf (v c:UInt8):UInt8:=(zsT v (4:UInt64).toNat) ||| hxd c
theorem zw8:(zuH.all λa=>zuH.all λb=>decide (hxf (hxf 0 a) b=UInt8.ofNat (zq4 a * 16 + zq4 b)))=true:=by decide +kernel
theorem zxJ {l:List UInt8} (h:l.all zfW=true) (h2:l.length % 2=0) (hl:l.length <= 1000000):zhf ⟨l⟩=some (znh l):=by
 refine T.eqs ?_
 unfold zhf
 refine T.lp (ι:=List UInt8 × Int) (λq=>0 <= q.2/\q.2 <= (l.length:Int)/\q.2.toNat % 2=0/\q.1.length <= q.2.toNat/\q.1 ++ znh (l.drop q.2.toNat)=znh l) (λq=>((l.length:Int) - q.2).toNat) ⟨zIl _,by dsimp only;omega,rfl,zNl _,rfl⟩ (by dsimp only;omega) λJ q ⟨q0,q1,q2,q3,q4⟩ hJ=>?_
 obtain ⟨acc,k⟩:=q
 dsimp only at q0 q1 q2 q3 q4 hJ ⊢
 refine T.ck (by omega) (T.br (λhb=>?_) λhb=>?_)
 ·have hb:=zOT hb
  obtain ⟨a,ha⟩:∃ a,l[k.toNat]?=some a:=⟨_,List.getElem?_eq_getElem (by omega)⟩
  obtain ⟨b,hb'⟩:∃ b,l[(k + 1).toNat]?=some b:=⟨_,List.getElem?_eq_getElem (by omega)⟩
  have e1:(k + 1).toNat=k.toNat + 1:=by omega
  have hd:l.drop k.toNat=a :: b :: l.drop (k.toNat + 2):=by
   obtain ⟨h1,h2⟩:=List.getElem?_eq_some_iff.1 ha
   rw [e1] at hb'
   obtain ⟨h3,h4⟩:=List.getElem?_eq_some_iff.1 hb'
   rw [List.drop_eq_getElem_cons h1,h2,List.drop_eq_getElem_cons h3,h4]
  have hab:=zOT (List.all_eq_true.1 (List.all_eq_true.1 zw8 a (znp (List.all_eq_true.1 h a (List.mem_of_getElem? ha)))) b (znp (List.all_eq_true.1 h b (List.mem_of_getElem? hb'))))
  refine T.lp (ι:=UInt8 × Int) (λq=>q=(0,k) \/ q=(hxf 0 a,k + 1) \/ q=(hxf (hxf 0 a) b,k + 2)) (λq=>(k + 2 - q.2).toNat) (.inl rfl) (by dsimp only;omega) λJ2 q hq hJ2=>?_
  rcases hq with rfl | rfl | rfl
  ·dsimp only at hJ2 ⊢
   refine T.ck (by omega) (T.br (λ_=>T.eq (y:=a) (by rw [zbm (by omega) (by omega)];exact congrArg some (List.getElem?_eq_some_iff.1 ha).2) (T.eq (y:=a) (by rw [zbm (by omega) (by omega)];exact congrArg some (List.getElem?_eq_some_iff.1 ha).2) (T.jp (λu=>u=hxd a) (λJ h6=>T.br (λh7=>T.eq (y:=a) (by rw [zbm (by omega) (by omega)];exact congrArg some (List.getElem?_eq_some_iff.1 ha).2) (h6 _ (by unfold hxd;rw [if_pos (zOT h7)]))) λh7=>h6 _ (by unfold hxd;rw [if_neg (zOF h7)])) λu hu=>?_))) λh=>absurd (zOF h) (by omega))
   rw [hu]
   exact T.asr (by decide) (T.ck (by omega) (hJ2 _ (.inr (.inl rfl)) (by dsimp only;omega)))
  ·dsimp only at hJ2 ⊢
   refine T.ck (by omega) (T.br (λ_=>T.eq (y:=b) (by rw [zbm (by omega) (by omega)];exact congrArg some (List.getElem?_eq_some_iff.1 hb').2) (T.eq (y:=b) (by rw [zbm (by omega) (by omega)];exact congrArg some (List.getElem?_eq_some_iff.1 hb').2) (T.jp (λu=>u=hxd b) (λJ h6=>T.br (λh7=>T.eq (y:=b) (by rw [zbm (by omega) (by omega)];exact congrArg some (List.getElem?_eq_some_iff.1 hb').2) (h6 _ (by unfold hxd;rw [if_pos (zOT h7)]))) λh7=>h6 _ (by unfold hxd;rw [if_neg (zOF h7)])) λu hu=>?_))) λh=>absurd (zOF h) (by omega))
   rw [hu]
   exact T.asr (by decide) (T.ck (by omega) (hJ2 _ (.inr (.inr (by rw [show k + 1 + 1=k + 2 by omega];rfl))) (by dsimp only;omega)))
  ·dsimp only at hJ2 ⊢
   refine T.ck (by omega) (T.br (λh=>absurd (zOT h) (by omega)) λ_=>T.abl (by simp only [zLs];omega) (T.ck (by omega) (hJ _ ⟨by dsimp only;omega,by dsimp only;omega,by dsimp only;omega,?_,?_⟩ (by dsimp only;omega))))
   ·dsimp only
    rw [zLa,zLs];omega
   ·dsimp only
    rw [<- q4,hd,show (k + 2).toNat=k.toNat + 2 by omega,hab,zLA];rfl
 ·have hb:=zOF hb
  refine T.some ?_
  have e:l.drop k.toNat=[]:=zDn (by omega)
  rw [<- q4,e]
  exact (List.append_nil _).symm
theorem Src.hex {l:List zS} (h:Src l):∀ y ∈ l,y.kind=4->y.text.b.all zfW=true/\y.text.b.length % 2=0:=by
 induction h with
 | fin=>intro y hy k;rw [zMo.1 hy] at k;cases k
 | cons h1 _ ih =>
  intro y hy k
  rcases List.mem_cons.1 hy with e | e
  ·subst e;exact h1.hex k
  ·exact ih y e k
theorem zzW {s:Str} (h:(toks s.b).2.2=0):∀ y ∈ (toks s.b).1,TokR y:=by
 intro y hy
 have hk:=((zoq s).get? (zla s) h).ok y hy
 have hl:=hk.len
 refine ⟨by omega,hk.num,λk=>?_⟩
 obtain ⟨h1,h2⟩:=(zn6 s.b h).hex y hy k
 have hx:=zoa y.text.b
 have e:zsi y.text=znh y.text.b:=zwN (l:=y.text.b) h1 h2 (by omega)
 rw [e]
 exact ⟨zxJ (l:=y.text.b) h1 h2 (by omega),by omega⟩
theorem zrb {t:zZ} (ht:TOk t.types) {i:Int} (i0:0 <= i) (i1:i < t.types.length) (s:Str) {R:Val × Int × Int->Prop}
    (hb:∀ p e,zk4 t.types i s.b=.bad p e->e ≠ 0->R (zc2,p,e))
    (hk:∀ v r,zk4 t.types i s.b=.ok v r->zbV v->cnt v <= 10000000->T (λy=>if y=true then R (v,0,0) else R (zc2,0,13)) (zga t i v)):T R (zh5 t i s):=by
  unfold zh5
  refine T.eq (zla s) (T.br (λh=>?_) λh=>?_)
  · have h:¬ (toks s.b).2.2=0:=by simpa using h
    exact T.some (hb _ _ (by unfold zk4;rw [if_pos h]) h)
  have h:(toks s.b).2.2=0:=by simpa using h
  have hl:=zq3 s.b
  have hA:=(zn6 s.b h).sd hl
  unfold zk4 at hb hk
  rw [if_neg (show ¬ (toks s.b).2.2 ≠ 0 from λk=>k h)] at hb hk
  refine T.or' (T.br (λh=>?_) λ_=>?_)
  · rw [Bool.or_eq_true] at h
    rcases h with h | h
    · exact absurd (zOT h) (by omega)
    · exact absurd (zOT h) (by omega)
  refine T.cal (pvR ht (zzW h) 17 fuel i 0 (zIl _) (by decide) (by unfold fuel;decide) i0 i1 0 _ hA) λy _ hy=>?_
  cases hR:pv 17 t.types i (toks s.b).1 with
  | bad p e =>
    rw [hR] at hy hb
    obtain ⟨⟨a',y',e1,e2,e3⟩,_,_⟩:=hy
    refine T.jp (λq=>q=false) (λJ k=>T.br (λh=>by rw [e1] at h;exact absurd (zOT h) e3) λ_=>k _ rfl) λq hq=>?_
    subst hq
    refine T.jp (λq=>q=y.2) (λJ k=>T.br (λh=>by cases h) λ_=>k _ rfl) λq hq=>?_
    subst hq
    rw [e1]
    exact T.br (λ_=>T.some (hb _ _ rfl e3)) λh=>absurd (by simpa using h) e3
  | ok v r =>
    rw [hR] at hy hb hk
    obtain ⟨a',e1,A1,f1,c1⟩:=hy
    subst e1
    obtain ⟨z,r',er,e2,_,_⟩:=A1.cons
    subst er
    dsimp only at hb hk
    have hc:cnt v <= 10000000:=by omega
    refine T.jp (λq=>q=!decide (z.kind=0)) (λJ k=>T.br (λ_=>T.eq e2 (k _ rfl)) λh=>by cases h) λq hq=>?_
    subst hq
    by_cases hz:z.kind=0
    · rw [if_pos hz] at hb hk
      rw [zDT hz]
      refine T.jp (λq=>q=sr t (toks s.b).1 a') (λJ k=>T.br (λh=>by cases h) λ_=>k _ rfl) λq hq=>?_
      subst hq
      refine T.br (λh=>by cases h) λ_=>T.cal (hk _ _ rfl f1 hc) λb _ hb'=>T.br (λh=>T.some ?_) λh=>T.some ?_
      · have:b=false:=by simpa using h
        subst this
        rw [if_neg (by decide)] at hb'
        exact hb'
      · have:b=true:=by simpa using h
        subst this
        rw [if_pos rfl] at hb'
        exact hb'
    · rw [if_neg hz] at hb hk
      rw [zDF hz]
      refine T.jp (λq=>q=⟨t,(toks s.b).1,a',7,z.at_⟩) (λJ k=>T.br (λ_=>T.eq (zmJ A1 7) (k _ rfl)) λh=>by cases h) λq hq=>?_
      subst hq
      exact T.br (λ_=>T.some (hb z.at_ 7 rfl (by decide))) λh=>by cases h
theorem zo6 {t:zZ} (ht:zdt t) {i:Int} {v:Val} (hb:bare v=true) (hf:zbV v) (hc:cnt v <= 10000000):∃ b,zea t i v=some b/\zga t i v=some b/\(b=true->cnt v <= 5000):=by
 have hV:T (λr=>r=true->Fit t 17 i v/\cnt v <= 5000) (zea t i v):=by
  unfold zea
  refine T.cal (fitsW ht (b:=false) zvq (h:=17) (n:=fuel) (i:=i) (d:=1) (by decide) (by decide) (by unfold fuel;decide) hf hc hb) λy hy1 hy=>?_
  refine T.jp (λb=>b=true->(Fit t 17 i v/\cnt v <= 5000)) (λJ kk=>T.br (λh=>T.eq (zpr (by unfold fuel;omega) (by omega) hf) (kk _ λh2=>?_)) λh=>kk _ λh=>by cases h) λb hb=>T.some hb
  have:=zOT h2
  exact ⟨hy.2 h,by omega⟩
 obtain ⟨a,ha1,ha2⟩:=hV
 cases a with
 | true =>
  obtain ⟨hF,h5⟩:=ha2 rfl
  obtain ⟨b,hb1,hb2⟩:=zsa ht hf h5 hF hb
  exact ⟨true,ha1,by rw [hb1,hb2],λ_=>h5⟩
 | false =>
  refine ⟨false,ha1,?_,λh=>by cases h⟩
  rcases Nat.lt_or_ge 5000 (cnt v) with h5 | h5
  ·refine T.eqs ?_
   unfold zga
   exact T.eq (zlR (by unfold fuel;omega) (by omega) hf) (T.jp (λb=>b=false) (λJ kk=>T.br (λh=>absurd (zOT h) (by omega)) λ_=>kk _ rfl) λb hb=>T.some hb)
  ·obtain ⟨b,hb1,hb2⟩:=ztV ht i hf (show cnt v <= 100000 by omega)
   cases b with
   | false=>exact hb1
   | true =>
    obtain ⟨hF,_⟩:=hb2 rfl
    rw [zq6 ht hF hb hf h5] at ha1;cases ha1
theorem zun {t:zZ} (ht:zdt t) (hn:∀ x ∈ t.types,TN x) (hG:TG t.types) {i:Int} (i0:0 <= i) (i1:i < t.types.length) (s:Str):∃ r,zgs t i s=some r/\zh5 t i s=some r/\zbV r.1/\cnt r.1 <= 5000:=by
 cases hp:zk4 t.types i s.b with
 | bad p e =>
  refine ⟨(zc2,p,e),T.eqs (ztf hG.ok i0 i1 s (λp' e' h _=>?_) λv r h=>?_),T.eqs (zrb hG.ok i0 i1 s (λp' e' h _=>?_) λv r h=>?_),zid,by rw [zjo];decide⟩
  all_goals rw [hp] at h;cases h
  all_goals rfl
 | ok v r =>
  have hbv:=(zxA ht hn hp).1
  obtain ⟨q,h1,hf,hc,b,h2,e⟩:T (λq=>zbV v/\cnt v <= 10000000/\∃ b,zea t i v=some b/\q=if b=true then (v,(0:Int),(0:Int)) else (zc2,0,13)) (zgs t i s):=by
   refine ztf hG.ok i0 i1 s (λp' e' h _=>by rw [hp] at h;cases h) λv' r' h hf hc=>?_
   rw [hp] at h;cases h
   obtain ⟨b,h2,_⟩:=zo6 ht (i:=i) hbv hf hc
   refine ⟨b,h2,?_⟩
   cases b with
   | true=>exact ⟨hf,hc,true,h2,rfl⟩
   | false=>exact ⟨hf,hc,false,h2,rfl⟩
  obtain ⟨b',h3,h4,h5⟩:=zo6 ht (i:=i) hbv hf hc
  rw [h2] at h3;cases h3
  refine ⟨q,h1,T.eqs (zrb hG.ok i0 i1 s (λp' e' h _=>by rw [hp] at h;cases h) λv' r' h _ _=>?_),?_⟩
  ·rw [hp] at h;cases h
   refine ⟨b,h4,?_⟩
   rw [e]
   cases b <;> rfl
  ·rw [e]
   cases b with
   | true=>exact ⟨hf,h5 rfl⟩
   | false=>exact ⟨zid,by show cnt zc2 <= _;rw [zjo];decide⟩
theorem zrq (s:Str) (w:Int) (x:Str):zeL s w x=some true:=by
 refine T.eqs ?_
 unfold zeL
 refine T.cal (zum s) λy hy1 ht=>?_
 have hn:=zvF s y hy1
 have hG:=zz2 ht hn
 refine T.cal (zxf ht w) λr _ hr=>?_
 refine T.jp (λb=>b=false->r.2=true) (λJ k=>T.br (λ_=>k _ λh=>by cases h) λ_=>k _ λh=>by simpa using h) λq4 h4=>?_
 refine T.jp (λb=>b=false->q4=false) (λJ k=>T.br (λ_=>k _ λh=>by cases h) λh=>k _ λ_=>h) λq7 h7=>T.br (λ_=>T.eq zrd (T.some rfl)) λh=>?_
 obtain ⟨i0,i1⟩:=hr (h4 (h7 h))
 obtain ⟨o,e1,e2,hf,hc⟩:=zun ht hn hG i0 i1 x
 refine T.eq e1 (T.eq e2 (T.eq zrd (T.jp (λb=>b=true) (λJ k=>T.br (λ_=>T.cal (zhp (k:=5000) (n:=fuel) hc (by unfold fuel;omega) hf _) λz _ hz=>k _ (hz.2 rfl)) λh=>by cases h) λq hq=>T.and' (T.and' (T.some ?_)))))
 rw [hq,zDT rfl,zDT rfl];rfl
end Go.Proofs.Q

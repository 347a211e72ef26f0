/- A value's text as a plain function; the code prints it. No condition: general lemmas. -/
import Derived.Test.YtmahnaanhhojkaaGreatDoorNpA
import Derived.Test.YtmahnaanhhojkaaGreatDoorNpB
set_option linter.unusedVariables false
set_option linter.unusedSimpArgs false

namespace Go.Proofs.Q
open Go.Sy
set_option linter.unusedVariables false

theorem zus {U V N p q c:Nat} (h:U + (c + 1) <= V) (h2:V + p <= N) (hp:0 < p) (hq:q <= c):U + q <= N - 1:=by omega
theorem ztR (c:Nat) {u v N p q:Nat} (h:u < v) (h2:v * (c + 1) + p <= N) (hp:0 < p) (hq:q <= c):u * (c + 1) + q <= N - 1:=by
 have h3:=Nat.mul_le_mul_right (c + 1) (Nat.succ_le_of_lt h)
 rw [Nat.succ_mul] at h3
 exact zus h3 h2 hp hq
theorem zu6 {u v N p q:Nat} (h:u < v) (h2:v * 301 + p <= N) (hp:0 < p) (hq:q <= 300):u * 301 + q <= N - 1:=ztR 300 h h2 hp hq
theorem znx {m:GMod} {rk:Int->Nat} {Fs Nd Md} {N:Nat} (E:Env m rk) (hN:N <= 50000) (hnd:∀ N',N' + 1=N->NodeS m rk Nd N') (hmd:MadeS m rk Md N):NodeS m rk (zcN Fs Nd Md) N:=by
 intro x k j h a d hm hx3 hs hj hdn hN2 hd0 hd
 unfold zcN
 have hlt:=hs.lt
 obtain ⟨n,hn⟩:∃ n,m.nodes[k]?=some n:=⟨_,List.getElem?_eq_getElem (by omega)⟩
 refine T.br (λhb=>T.some ⟨Gk.refl hx3,λe=>absurd e (by simpa using hb)⟩) λhb=>?_
 refine T.get (Int.natCast_nonneg _) (by rw [hm];omega) λn' hn'=>?_
 rw [hm,Int.toNat_natCast,hn] at hn'
 cases hn'
 have hN0:1 <= N:=by omega
 refine T.jp (ι:=Int × GMk) (λr=>Gk x r.2/\(r.2.e=0->r.1=(x.l.length:Int)/\SubT (17 - d).toNat r.2.l x.l.length r.2.l.length/\∃ t,r.2.l[x.l.length]?=some t/\t.tags.length <= N)) (λJ kk=>T.br (λhk=>?_) λhk=>?_) λq ⟨q1,q2⟩=>?_
 ·have hk:=zOT hk
  obtain ⟨f0,f1⟩:=hdn k n (zNl _) hlt hn hk
  have hf2:fnd m.names n.name < m.names.length:=by
   rcases zli m.names n.name with h | h
   ·omega
   ·exact h.2.1
  obtain ⟨c,dd,c1,c2,c3,c4⟩:=E.root _ f0 (by omega)
  have hrk:=E.ed _ _ f1
  have hwn:=E.wf.nodes
  have hc:=c2.lt
  have hNN:rk (fnd m.names n.name) * 301 + (dd - c) <= N - 1:=zu6 hrk hN2 (Nat.sub_pos_of_lt hlt) (Nat.le_trans (Nat.sub_le _ _) (Nat.le_trans c3 hwn))
  refine T.eq (zpB x.m n.name (by rw [hm];have:=E.wf.names;omega)) (T.get (by rw [hm];exact f0) (by rw [hm,E.wf.types];omega) λy hy=>?_)
  rw [hm,c1] at hy
  cases hy
  exact T.cal (hnd (N - 1) (by omega) x c dd 17 _ d hm hx3 c2 c3 c4 hNN hd0 hd) λr _ ⟨r1,r2⟩=>kk _ ⟨r1,λe=>by
   obtain ⟨e1,e2,t,e3,e4⟩:=r2 e
   exact ⟨e1,e2,t,e3,Nat.le_trans e4 (by rw [Nat.sub_add_cancel hN0];exact zNl _)⟩⟩
 ·have hk:=zOF hk
  exact T.cal (hmd x n k j h a d hm hx3 hn hk hs hj hdn hN2 hd0 hd) λr _ ⟨r1,r2⟩=>kk _ ⟨r1,λe=>by
   obtain ⟨e1,e2,t,e3,e4⟩:=r2 e
   exact ⟨e1,e2,t,e3,Nat.le_trans e4 hN0⟩⟩
 have hNb:N < 100000:=by omega
 refine T.jp (λb=>b=true->q.2.e=0) (λJ kk=>T.br (λh5=>kk _ λ_=>zOT h5) λ_=>kk _ λh=>by cases h) λb hb3=>?_
 refine T.jp (ι:=GMk) (λz=>Gk x z/\(z.e=0->q.1=(x.l.length:Int)/\SubT (17 - d).toNat z.l x.l.length z.l.length/\∃ t,z.l[x.l.length]?=some t/\t.tags.length <= N + 1)) (λJ kk=>T.br (λh6=>?_) λ_=>kk _ ⟨q1,λe=>?_⟩) λz ⟨z1,z2⟩=>T.some ⟨z1,z2⟩
 ·have h6:=hb3 h6
  obtain ⟨e1,e2,t,e3,e4⟩:=q2 h6
  have hl1:=(List.getElem?_eq_some_iff.1 e3).1
  have hto:TypOk t:=by
   cases hD:(17 - d).toNat with
   | zero=>rw [hD] at e2;exact e2.elim
   | succ D' =>
    rw [hD] at e2
    obtain ⟨t3,k6,k7,_⟩:=e2
    rw [e3] at k6;cases k6;exact k7
  refine T.jp (ι:=Int × GMk) (λp=>p.2=q.2) (λJ2 k2=>T.br (λ_=>k2 _ rfl) λ_=>T.jp (λ_=>True) (λJ3 k3=>T.br (λ_=>k3 _ trivial) λ_=>k3 _ trivial) λb4 _=>T.br (λ_=>?_) λ_=>k2 _ rfl) λp hp=>?_
  ·rw [e1]
   exact T.cal (znc hl1) λs _ hs=>k2 _ hs
  ·rw [hp,e1]
   refine T.cal (znq (t:=t) _ _ (λ_=>⟨e3,Nat.le_of_lt (Nat.lt_of_le_of_lt e4 hNb)⟩)) λz _ ⟨w1,w2,w3⟩=>kk _ ⟨⟨w1.trans q1.m,by rw [w2];exact q1.le,by rw [w2];exact q1.lim,λez=>q1.e (w3 ez).1,λez p hp=>?_⟩,λez=>?_⟩
   ·obtain ⟨tg,k1,k2,k3⟩:=(w3 ez).2 t e3
    rw [k1,List.getElem?_set_ne (Nat.ne_of_gt hp)]
    exact q1.pre h6 p hp
   ·obtain ⟨tg,k1,k2,k3⟩:=(w3 ez).2 t e3
    rw [w2,k1]
    exact ⟨e1,e2.set e3 (hto.tag k2 (Nat.le_trans k3 (Nat.succ_le_of_lt (Nat.lt_of_le_of_lt e4 hNb)))) rfl,_,List.getElem?_set_self hl1,Nat.le_trans k3 (Nat.succ_le_succ e4)⟩
 ·obtain ⟨e1,e2,t,e3,e4⟩:=q2 e
  exact ⟨e1,e2,t,e3,Nat.le_succ_of_le e4⟩
structure New (n:GNode) (t:GTyp):Prop where
 kind:t.kind=n.kind
 root:t.root=n.root
 items:t.items=[]
 fields:t.fields=[]
 tags:t.kind ≠ 9->t.tags ≠ []
 tlen:t.tags.length <= 1
theorem New.ok {n:GNode} {t:GTyp} (h:New n t) (hn:NodeOk n) (h3:n.kind ≠ 3) (h7:n.kind ≠ 7) (h8:n.kind ≠ 8) (h9:n.kind ≠ 9) (o:Int):TypOk { t with of:=o }:=by
 have hk:=h.kind
 exact ⟨h.tags,by have:=h.tlen;show t.tags.length <= _;omega,by rw [h.root];exact hn.root0,λe=>by rcases e with e | e | e <;> (rw [hk] at e;contradiction),λe=>by rw [hk] at e;contradiction,λ_=>h.fields,λ_=>h.items,by show t.items.length <= _;rw [h.items];decide,λit hit=>(by dsimp only at hit;rw [h.items] at hit;cases hit),λf hf=>(by dsimp only at hf;rw [h.fields] at hf;cases hf),λ_ _=>(by dsimp only;rw [h.root];exact hn.rootZ h3 (by omega))⟩
theorem zlh {α:Type} (l:List α) (t:α):(l ++ [t])[l.length]?=some t:=by rw [List.getElem?_append_right (zNl _),Nat.sub_self];rfl
theorem znv {m:GMod} {rk:Int->Nat} {Fs Nd Md} {N:Nat} (E:Env m rk) (hN:N <= 50000) (hnd:∀ N',N' + 1=N->NodeS m rk Nd N') (hfs:FieldsT m rk Fs N):MadeS m rk (zcO Fs Nd Md) N:=by
 intro x n k j h a d hm hx3 hn hk11 hs hj hdn hN2 hd0 hd
 unfold zcO
 have hlt:=hs.lt
 have hok:=E.wf.ok n (List.mem_of_getElem? hn)
 obtain ⟨h',rfl,hkid⟩:∃ h',h=h' + 1/\Kids (Sub h' m.nodes) (kidsOf n) (k + 1) j:=by
  cases h with
  | zero=>exact hs.elim
  | succ h' =>
   obtain ⟨n',e1,e2⟩:=hs
   rw [hn] at e1;cases e1
   exact ⟨h',rfl,e2⟩
 refine T.jp (λb=>b=false->d <= 16/\x.l.length < 300) (λJ kk=>T.br (λ_=>kk _ λh=>by cases h) λh1=>kk _ λh2=>?_) λb hb=>T.br (λ_=>T.eq (fail10 _ _) (T.some ⟨Gk.sm (Sm.fl (by decide)) hx3,λe=>absurd e (zt1 (by decide))⟩)) λhb1=>?_
 ·have h1:=zOF h1
  have h2:=zOF h2
  omega
 obtain ⟨hd16,hx300⟩:=hb hb1
 obtain ⟨D,hD,hD2⟩:∃ D,(17 - d).toNat=D + 1/\(16 - d).toNat=D:=⟨(16 - d).toNat,by omega,rfl⟩
 refine T.jp (ι:=GTyp) (λt=>New n t) (λJ kk=>T.br (λ_=>T.cal (ztn _) λu _ _=>kk _ ⟨rfl,rfl,rfl,rfl,λ_=>by simp,by simp⟩) λh9=>kk _ ⟨rfl,rfl,rfl,rfl,λh=>absurd (by simpa using h9) h,by simp⟩) λt ht=>?_
 refine T.jp (ι:=GMk) (λy=>y=GMk.mk x.m (x.l ++ [t]) x.e) (λJ kk=>T.abl (by rw [zLs];omega) (kk _ rfl)) λy hy=>?_
 subst hy
 have hxl1:(x.l ++ [t]).length=x.l.length + 1:=by rw [zLa,zLs]
 have hkind:=ht.kind
 have g0:∀ y:GMk,Sm (GMk.mk x.m (x.l ++ [t]) x.e) y->Gk x y:=λy hy=>⟨hy.m,by rw [hy.l];dsimp only;omega,by rw [hy.l];dsimp only;omega,hy.e,λ_ q hq=>by rw [hy.l];exact List.getElem?_append_left hq⟩
 have hti:((x.l.length:Nat):Int).toNat=x.l.length:=Int.toNat_natCast _
 have hleaf:n.kind ≠ 3->n.kind ≠ 7->n.kind ≠ 8->n.kind ≠ 9->n.kind ≠ 10->∀ y:GMk,Sm (GMk.mk x.m (x.l ++ [t]) x.e) y->(y.e=0->SubT (17 - d).toNat y.l x.l.length y.l.length/\∃ t,y.l[x.l.length]?=some t/\t.tags.length <= 1):=λh3 h7 h8 h9 h10 y hy _=>by
  have hl:=hy.l
  dsimp only at hl
  rw [hl,hD,hxl1]
  refine ⟨⟨t,zlh _ _,ht.ok hok h3 h7 h8 h9 t.of,?_⟩,t,zlh _ _,ht.tlen⟩
  unfold kidsT
  rw [ht.fields,if_neg (by rw [hkind];exact h10)]
  rfl
 refine T.jp (ι:=GMk) (λy=>Gk x y/\(y.e=0->SubT (17 - d).toNat y.l x.l.length y.l.length/\∃ t,y.l[x.l.length]?=some t/\t.tags.length <= 1)) (λJ kk=>?_) λy ⟨y1,y2⟩=>T.some ⟨y1,λe=>⟨rfl,y2 e⟩⟩
 refine T.jp (λb=>b=decide (n.kind=2 \/ n.kind=5 \/ n.kind=6 \/ n.kind=10)) (λJ1 k1=>T.br (λh1=>k1 _ ?_) λh1=>T.br (λh2=>k1 _ ?_) λh2=>T.br (λh3=>k1 _ ?_) λh3=>k1 _ ?_) λb hb=>?_
 ·have h1:=zOT h1
  rw [zDT h1,zDT (.inl h1)]
 ·have h2:=zOT h2
  rw [zDT h2,zDT (.inr (.inl h2))]
 ·have h3:=zOT h3
  rw [zDT h3,zDT (.inr (.inr (.inl h3)))]
 ·have h1:=zOF h1
  have h2:=zOF h2
  have h3:=zOF h3
  rw [decide_eq_decide];omega
 subst hb
 refine T.br (λhb=>?_) λhb=>?_
 · -- a leaf with bounds, or a list
  have hb:=zOT hb
  refine T.cal (zs6 _ _) λce _ _=>T.jp (ι:=GMk) (λy=>Sm (GMk.mk x.m (x.l ++ [t]) x.e) y) (λJ1 k1=>T.br (λhc=>T.eq (fail10 _ _) (k1 _ (Sm.fl (by simpa using hc)))) λ_=>k1 _ (Sm.refl _)) λy hy=>T.br (λh10=>?_) λh10=>kk _ ⟨g0 y hy,hleaf (by omega) (by omega) (by omega) (by omega) (zOF h10) y hy⟩
  have h10:=zOT h10
  have hko:kidsOf n=n.fields.map (λf=>f.ty) ++ [n.of]:=by unfold kidsOf;rw [if_neg hk11,if_pos h10]
  obtain ⟨c,dd,c1,c2,c3,c4⟩:=Kids.subs hkid (k:=n.of) (by rw [hko];simp)
  have hc:=c2.lt
  have hyl:=hy.l
  dsimp only at hyl
  refine T.ck (by omega) ?_
  rw [c1]
  refine T.cal (hnd (N - 1) (by omega) y c dd h' a (d + 1) (hy.m.trans hm) (by rw [hyl];omega) c2 (by omega) (hdn.part (by omega) c4) (by omega) (by omega) (by omega)) λr _ ⟨r1,r2⟩=>?_
  have g1:Gk x r.2:=(g0 y hy).trans r1
  refine T.br (λhe=>?_) λhe=>kk _ ⟨g1,λe=>absurd e (zOF he)⟩
  have he:=zOT he
  have hpre:=r1.pre he x.l.length (by rw [hyl];omega)
  rw [hyl,zlh] at hpre
  have hl1:=(List.getElem?_eq_some_iff.1 hpre).1
  have hr:=r2 he
  clear r2
  obtain ⟨e1,e2,_⟩:=hr
  refine T.asd ⟨by omega,by omega⟩ ?_
  rw [hti]
  refine T.eq hpre (kk _ ⟨⟨g1.m,by rw [List.length_set];exact g1.le,by rw [List.length_set];exact g1.lim,g1.e,λe q hq=>by dsimp only;rw [List.getElem?_set_ne (by omega)];exact g1.pre he q hq⟩,λ_=>?_⟩)
  dsimp only
  rw [hD,List.length_set]
  refine ⟨⟨_,List.getElem?_set_self hl1,ht.ok hok (by omega) (by omega) (by omega) (by omega) r.1,?_⟩,_,List.getElem?_set_self hl1,ht.tlen⟩
  unfold kidsT
  dsimp only
  rw [ht.fields,if_pos (by rw [hkind];exact h10)]
  have hD3:(17 - (d + 1)).toNat=D:=by omega
  rw [hD3,hyl,hxl1] at e2
  rw [e1,hyl,hxl1]
  exact ⟨_,rfl,SubT.mono (λq hq _=>List.getElem?_set_ne (by omega)) e2,rfl⟩
 have hb:=zOF hb
 refine T.br (λh3=>?_) λh3=>?_
 · -- an enumerated type
  have h3:=zOT h3
  refine T.cal (zpU (GMk.mk x.m (x.l ++ [t]) x.e) n hok (hok.items h3)) λr _ ⟨r1,r2,r3⟩=>?_
  dsimp only at r1 r2 r3 ⊢
  refine T.asd (by rw [r2]) (T.asd ⟨by omega,by omega⟩ ?_)
  rw [hti]
  have hget:r.2.l[x.l.length]?=some t:=by rw [r2];exact zlh _ _
  have hrl:r.2.l.length=x.l.length + 1:=by rw [r2];exact hxl1
  refine T.eq hget (kk _ ⟨⟨r1,by dsimp only;rw [List.length_set];omega,by dsimp only;rw [List.length_set];omega,λe=>(r3 e).1,λe q hq=>by dsimp only;rw [List.getElem?_set_ne (by omega),r2];exact List.getElem?_append_left hq⟩,λe=>?_⟩)
  obtain ⟨e1,e2,e3⟩:=r3 e
  have hil:=hok.ilen
  dsimp only
  rw [hD,List.length_set]
  refine ⟨⟨_,List.getElem?_set_self (by omega),⟨ht.tags,by have:=ht.tlen;dsimp only;omega,by dsimp only;rw [ht.root];exact hok.root0,λe=>by dsimp only at e;rw [hkind] at e;omega,λ_=>by dsimp only;rw [ht.root,e2];exact hok.items h3,λ_=>ht.fields,λe=>by dsimp only at e;rw [hkind] at e;contradiction,by dsimp only;rw [e2];exact hil,e3,λf hf=>(by dsimp only at hf;rw [ht.fields] at hf;cases hf),λe=>absurd (by dsimp only;rw [hkind];exact h3) e⟩,?_⟩,_,List.getElem?_set_self (by omega),ht.tlen⟩
  unfold kidsT
  dsimp only
  rw [ht.fields,if_neg (by rw [hkind];omega),hrl]
  rfl
 have h3:=zOF h3
 refine T.jp (λb=>b=decide (n.kind=7 \/ n.kind=8 \/ n.kind=9)) (λJ1 k1=>T.br (λh1=>k1 _ ?_) λh1=>T.br (λh2=>k1 _ ?_) λh2=>k1 _ ?_) λb hb2=>?_
 ·have h1:=zOT h1
  rw [zDT h1,zDT (.inl h1)]
 ·have h2:=zOT h2
  rw [zDT h2,zDT (.inr (.inl h2))]
 ·have h1:=zOF h1
  have h2:=zOF h2
  rw [decide_eq_decide];omega
 subst hb2
 refine T.br (λhb2=>?_) λhb2=>kk _ ⟨g0 _ (Sm.refl _),?_⟩
 · -- fields
  have hb2:=zOT hb2
  have hko:kidsOf n=n.fields.map (λf=>f.ty):=by unfold kidsOf;rw [if_neg hk11,if_neg (by omega),List.append_nil]
  rw [hko] at hkid
  refine T.cal (hfs (GMk.mk x.m (x.l ++ [t]) x.e) n k j h' a d x.l t hm rfl (by dsimp only;omega) hn hkid hj hdn hN2 hd0 hd16 hb2 hkind ht.root) λy _ ⟨y1,y2,y3,y4⟩=>kk _ ⟨⟨y1.trans hm.symm,by dsimp only at y2;omega,y3,λe=>(y4 e).1,λe q hq=>?_⟩,λe=>?_⟩
  ·rw [(y4 e).2.1 q hq];exact List.getElem?_append_left hq
  obtain ⟨e1,e2,fs,e3,e4,e5,e6⟩:=y4 e
  dsimp only at e5
  rw [hD]
  refine ⟨⟨_,e3,⟨ht.tags,by have:=ht.tlen;dsimp only;omega,by dsimp only;rw [ht.root];exact hok.root0,λ_=>by dsimp only;rw [ht.root,e4];exact hok.fields hb2,λe=>by dsimp only at e;rw [hkind] at e;contradiction,λe=>absurd (by dsimp only;rw [hkind];exact hb2) e,λ_=>ht.items,by dsimp only;rw [ht.items];decide,λit hit=>(by dsimp only at hit;rw [ht.items] at hit;cases hit),e6,λ_ e=>absurd (by dsimp only;rw [hkind];exact hb2) e⟩,?_⟩,_,e3,ht.tlen⟩
  unfold kidsT
  dsimp only
  rw [if_neg (by rw [hkind];omega),List.append_nil]
  rw [hD2,hxl1] at e5
  exact e5
 ·have hb2:=zOF hb2
  exact hleaf h3 (by omega) (by omega) (by omega) (by omega) _ (Sm.refl _)
theorem zs9 {m:GMod} {rk:Int->Nat} (E:Env m rk):∀ N,N <= 30000 ->
    (∀ n,3 * N + 1 <= n->FieldsT m rk (zcp n) N)/\(∀ n,3 * N + 2 <= n->MadeS m rk (zc4 n) N)/\(∀ n,3 * N + 3 <= n->NodeS m rk (zc6 n) N):=by
  intro N
  induction N with
  | zero =>
    intro _
    have hf:∀ n,1 <= n->FieldsT m rk (zcp n) 0:=λn hn=>by
      obtain ⟨n,rfl⟩:∃ n',n=n' + 1:=⟨n - 1,by omega⟩
      exact zlT (Fs:=(z8 n).1) (Nd:=(z8 n).2.1) (Md:=(z8 n).2.2) E (by omega) λN' h=>by omega
    have hm:∀ n,2 <= n->MadeS m rk (zc4 n) 0:=λn hn=>by
      obtain ⟨n,rfl⟩:∃ n',n=n' + 1:=⟨n - 1,by omega⟩
      exact znv (Fs:=(z8 n).1) (Nd:=(z8 n).2.1) (Md:=(z8 n).2.2) E (by omega) (λN' h=>by omega) (hf n (by omega))
    refine ⟨λn hn=>hf n (by omega),λn hn=>hm n (by omega),λn hn=>?_⟩
    obtain ⟨n,rfl⟩:∃ n',n=n' + 1:=⟨n - 1,by omega⟩
    exact znx (Fs:=(z8 n).1) (Nd:=(z8 n).2.1) (Md:=(z8 n).2.2) E (by omega) (λN' h=>by omega) (hm n (by omega))
  | succ N ih =>
    intro hN
    obtain ⟨_,_,ihn⟩:=ih (by omega)
    have hf:∀ n,3 * (N + 1) + 1 <= n->FieldsT m rk (zcp n) (N + 1):=λn hn=>by
      obtain ⟨n,rfl⟩:∃ n',n=n' + 1:=⟨n - 1,by omega⟩
      exact zlT (Fs:=(z8 n).1) (Nd:=(z8 n).2.1) (Md:=(z8 n).2.2) E (by omega) λN' h=>by
        have:N'=N:=by omega
        subst this;exact ihn n (by omega)
    have hm:∀ n,3 * (N + 1) + 2 <= n->MadeS m rk (zc4 n) (N + 1):=λn hn=>by
      obtain ⟨n,rfl⟩:∃ n',n=n' + 1:=⟨n - 1,by omega⟩
      exact znv (Fs:=(z8 n).1) (Nd:=(z8 n).2.1) (Md:=(z8 n).2.2) E (by omega) (λN' h=>by
        have:N'=N:=by omega
        subst this;exact ihn n (by omega)) (hf n (by omega))
    refine ⟨hf,hm,λn hn=>?_⟩
    obtain ⟨n,rfl⟩:∃ n',n=n' + 1:=⟨n - 1,by omega⟩
    exact znx (Fs:=(z8 n).1) (Nd:=(z8 n).2.1) (Md:=(z8 n).2.2) E (by omega) (λN' h=>by
        have:N'=N:=by omega
        subst this;exact ihn n (by omega)) (hm n (by omega))
end Go.Proofs.Q


namespace Go.Proofs.Q
open Go.Sy
set_option linter.unusedVariables false

theorem Kids.find {S:Nat->Nat->Prop} {p:Nat}:∀ {r:List Int} {a b:Nat},Kids S r a b->a <= p->p < b->∃ (k:Int) (c d:Nat),k ∈ r/\k=(c:Int)/\S c d/\c <= p/\p < d:=by
 intro r
 induction r with
 | nil=>intro a b h h1 h2;cases h;omega
 | cons x r ih =>
  intro a b ⟨c,h0,h1,h2⟩ ha hb
  rcases Nat.lt_or_ge p c with h | h
  ·exact ⟨x,a,c,zMs,h0,h1,ha,h⟩
  ·obtain ⟨k,c',d',k1,k2,k3,k4,k5⟩:=ih h2 h hb
   exact ⟨k,c',d',zMm _ k1,k2,k3,k4,k5⟩
theorem zvi:∀ {h:Nat} {l:List GNode} {c d p:Nat} {n:GNode},Sub h l c d->c <= p->p < d->l[p]?=some n->n.kind=11->n.name ∈ nmx l h (c:Int):=by
 intro h
 induction h with
 | zero=>intro l c d p n hs;exact hs.elim
 | succ h ih =>
  intro l c d p n ⟨n0,h1,h2⟩ hc hd hn hk
  rw [zmP h1]
  rcases Nat.eq_or_lt_of_le hc with e | e
  ·subst e
   rw [h1] at hn;cases hn
   rw [if_pos hk];exact zMo.2 rfl
  ·by_cases h0:n0.kind=11
   ·have:kidsOf n0=[]:=by unfold kidsOf;rw [if_pos h0]
    rw [this] at h2
    cases h2
    omega
   ·rw [if_neg h0]
    obtain ⟨k,c',d',k1,k2,k3,k4,k5⟩:=Kids.find h2 e hd
    refine List.mem_flatMap.2 ⟨k,k1,?_⟩
    rw [k2]
    exact ih k3 k4 k5 hn hk
theorem zux {m:GMod} (h:(wr m).2=0):first (zlK m) m.names.length 0=none:=by
 unfold wr at h
 split at h
 ·cases h
 ·split at h
  ·cases h
  ·assumption
theorem zt8 {m:GMod} (h:(wr m).2=0):first (twice m) m.names.length 0=none:=by
 unfold wr at h
 split at h
 ·cases h
 ·assumption
theorem zvQ {m:GMod} (w:WF m) (h:(wr m).2=0):∃ rk:Int->Nat,Env m rk:=by
 obtain ⟨rk,r1,r2⟩:=ranks w h
 have hn:=w.names
 have ht:=w.types
 refine ⟨rk,w,λi=>Nat.le_trans (r1 i) hn,r2,λb b0 b1=>?_⟩
 obtain ⟨t,hbt⟩:∃ t,m.types[b.toNat]?=some t:=⟨_,List.getElem?_eq_getElem (by omega)⟩
 obtain ⟨c,d,e1,e2,e3,e4⟩:=Kids.subs w.forest (List.mem_of_getElem? hbt)
 subst e1
 refine ⟨c,d,hbt,e2,e4,λp n hp hq hpn hk=>?_⟩
 have hmem:n.name ∈ nms m (c:Int):=zvi e2 hp hq hpn hk
 have hno:=zja (zux h) b b0 (by omega)
 unfold zlK at hno
 rw [hbt] at hno
 have hno:lost m (c:Int)=false:=hno
 unfold lost at hno
 have h1:=List.any_eq_false.1 hno _ hmem
 have h2:0 <= fnd m.names n.name:=by
  refine Classical.byContradiction λhc=>h1 (zDT (by omega))
 refine ⟨h2,b0,uses m (c:Int),by unfold gr;rw [List.getElem?_map,hbt];rfl,?_⟩
 unfold uses
 refine zp4.2 (.inr (List.mem_filterMap.2 ⟨_,hmem,?_⟩))
 unfold idx
 rw [if_neg (by omega)]
theorem SubT.sub:∀ {h:Nat} {l:List GTyp} {r:List Int} {a b:Nat},Kids (SubT h l) r a b->∀ i,a <= i->i < b->∃ j,SubT h l i j:=by
 intro h
 induction h with
 | zero =>
  intro l r a b hk i h1 h2
  cases r with
  | nil=>cases hk;omega
  | cons k r=>obtain ⟨c,_,h,_⟩:=hk;exact h.elim
 | succ h ih =>
  intro l r a b hk i h1 h2
  obtain ⟨k,c,d,_,_,k3,k4,k5⟩:=Kids.find hk h1 h2
  rcases Nat.eq_or_lt_of_le k4 with e | e
  ·subst e;exact ⟨d,k3⟩
  ·obtain ⟨t,_,_,h3⟩:=k3
   obtain ⟨j,hj⟩:=ih h3 i e k5
   exact ⟨j,hj.up⟩
structure TabOk (t:GTab):Prop where
 names:t.names.length <= 40
 roots:t.roots.length=t.names.length
 types:t.types.length <= 300
 kids:Kids (SubT 17 t.types) t.roots 0 t.types.length
 fnds:∀ (p:Nat) (s:Str),t.names[p]?=some s->fnd t.names s=(p:Int)
theorem TabOk.empty (s:Str):TabOk (GTab.mk s [] [] []):=⟨zNz _,rfl,zNz _,rfl,λp s h=>by simp at h⟩
theorem ztx {m:GMod} (w:WF m):T (λr=>TabOk r.1/\(r.2.2=0->r.1.names=m.names/\r.1.name=m.name)) (zgw m):=by
 unfold zgw
 have hn:=w.names
 have ht:=w.types
 refine T.eq (zsC w) (T.br (λhb=>T.some ⟨TabOk.empty _,λh=>absurd h (by simpa using hb)⟩) λhb=>?_)
 have hw:(wr m).2=0:=by
  have hb:(ordr m).2.2=0:=by simpa using hb
  unfold ordr at hb
  split at hb
  ·assumption
  ·exact hb
 obtain ⟨rk,E⟩:=zvQ w hw
 have hfn:∀ (p:Nat) (s:Str),m.names[p]?=some s->fnd m.names s=(p:Int):=λp s hp=>by
  have hlt:=(List.getElem?_eq_some_iff.1 hp).1
  have h1:=zja (zt8 hw) (p:Int) (by omega) (by omega)
  unfold twice at h1
  rw [Int.toNat_natCast,hp] at h1
  have h2:=zOF h1
  rcases zli m.names s with h3 | h3
  ·exact absurd (List.mem_of_getElem? hp) h3.2
  ·rcases Int.lt_or_le (p:Int) (fnd m.names s) with h4 | h4
   ·exact absurd hp (h3.2.2.2 p (by omega))
   ·omega
 have hnode:=(zs9 E 12400 (by omega)).2.2 fuel (by unfold fuel;omega)
 refine T.jp (ι:=GTab) (λt=>t=GTab.mk m.name m.names [] []) (λJ kk=>T.abl (by rw [zLn];omega) (kk _ (by rw [List.nil_append]))) λt htb=>?_
 subst htb
 refine T.lp (ι:=Int × GTab × GMk) (λq=>0 <= q.1/\q.1 <= m.names.length/\q.2.1.names=m.names/\q.2.1.name=m.name/\(q.2.1.roots.length:Int)=q.1/\q.2.2.m=m/\q.2.2.l.length <= 300/\Kids (SubT 17 q.2.2.l) q.2.1.roots 0 q.2.2.l.length) (λq=>((m.names.length:Int) - q.1).toNat) ⟨zIl _,by dsimp only;omega,rfl,rfl,rfl,rfl,zNz _,rfl⟩ (by dsimp only;omega) λL q ⟨q1,q2,q3,q4,q5,q6,q7,q8⟩ hL=>?_
 obtain ⟨i,t,y⟩:=q
 dsimp only at q1 q2 q3 q4 q5 q6 q7 q8 hL ⊢
 refine T.br (λhi=>?_) λhi=>T.some ⟨⟨by dsimp only;rw [q3];exact hn,by dsimp only;rw [q3];have:=zOF hi;omega,q7,q8,λp s h=>(by rw [q3] at h ⊢;exact hfn p s h)⟩,λ_=>⟨q3,q4⟩⟩
 have hi:=zOT hi
 obtain ⟨c,d,e1,e2,e3,e4⟩:=E.root i q1 hi
 have hwn:=w.nodes
 have hrk:=E.rk40 i
 have hcd:=e2.lt
 refine T.jp (ι:=GTab × GMk) (λp=>p.1.names=m.names/\p.1.name=m.name/\(p.1.roots.length:Int)=i + 1/\p.2.m=m/\p.2.l.length <= 300/\(p.2.e=0->Kids (SubT 17 p.2.l) p.1.roots 0 p.2.l.length)) (λJ kk=>T.get q1 (by omega) λy36 h36=>?_) λp ⟨p1,p2,p3,p4,p5,p6⟩=>?_
 ·rw [e1] at h36;cases h36
  have hNN:rk i * 301 + (d - c) <= 12400:=by
   have:=Nat.mul_le_mul_right 301 hrk
   have h2:d - c <= 300:=Nat.le_trans (Nat.sub_le _ _) (Nat.le_trans e3 hwn)
   exact Nat.le_trans (Nat.add_le_add this h2) (by decide)
  refine T.cal (hnode y c d 17 i 0 q6 q7 e2 e3 e4 hNN (zIl _) (by decide)) λr _ ⟨r1,r2⟩=>T.abl (by rw [zLs];omega) (kk _ ⟨q3,q4,by dsimp only;rw [zLa,zLs];omega,r1.m.trans q6,r1.lim,λe=>?_⟩)
  obtain ⟨k1,k2,_⟩:=r2 e
  dsimp only
  rw [k1]
  exact Kids.snoc (KidsT.monoL (λk _ hk=>r1.pre e k hk) q8) k2
 ·refine T.br (λhe=>T.some ⟨TabOk.empty _,λh=>absurd h (by simpa using he)⟩) λhe=>T.ck (by omega) (hL _ ⟨by dsimp only;omega,by dsimp only;omega,p1,p2,p3,p4,p5,p6 (by simpa using he)⟩ (by dsimp only;omega))
theorem zsc (s:Str):T (λr=>TabOk r.1) (zbD s):=by
 unfold zbD
 refine T.br (λ_=>T.some (TabOk.empty _)) λ_=>T.cal (zsI s) λr _ hr=>T.br (λ_=>T.some (TabOk.empty _)) λ_=>T.cal (ztx hr) λt _ ht=>T.jp (λ_=>True) (λJ kk=>T.br (λ_=>kk _ trivial) λ_=>kk _ trivial) λb _=>T.some ht.1
end Go.Proofs.Q


namespace Go.Proofs.Q
open Go.Sy
set_option maxRecDepth 4000
def zer (a_t:GTab) (zgt:Int):Option (Int × Bool) :=
 br (decide ((a_t.roots.length:Int)=(0:Int))) (some ((0:Int),false)) (asr (!decide ((UInt64.ofNat ((a_t.roots.length:Int) % 18446744073709551616).toNat)=0)) <| ck ((((UInt64.ofNat (zgt % 18446744073709551616).toNat) % (UInt64.ofNat ((a_t.roots.length:Int) % 18446744073709551616).toNat)).toNat:Int)) <| cal (getI a_t.roots (((UInt64.ofNat (zgt % 18446744073709551616).toNat) % (UInt64.ofNat ((a_t.roots.length:Int) % 18446744073709551616).toNat)).toNat:Int)) λy3=>some (y3,true))

def ziu (zlv:Val->Int->Option (Bool × Int)) (a_v:Val) (zdp:Int):Option (Bool × Int) :=
 asr (!decide ((50:Int)=0)) <| ck (((a_v.b.length:Int).tdiv (50:Int))) <| ck ((zdp - (1:Int))) <| ck (((zdp - (1:Int)) - ((a_v.b.length:Int).tdiv (50:Int)))) <| ck ((((zdp - (1:Int)) - ((a_v.b.length:Int).tdiv (50:Int))) - (a_v.more.length:Int))) <| lp (ι:=Int × Int) (λL7 q6=>jp (ι:=Bool) (λJ26=>br (decide (q6.1 < (a_v.more.length:Int))) (J26 ((decide ((0:Int) <= q6.2)))) (J26 (false))) (λq25=>br q25 (cal (getI a_v.more q6.1) λy28=>asr (!decide ((50:Int)=0)) <| ck (((y28.b.length:Int).tdiv (50:Int))) <| ck ((q6.2 - ((y28.b.length:Int).tdiv (50:Int)))) <| ck ((q6.1 + (1:Int))) <| L7 ((q6.1 + (1:Int)),(q6.2 - ((y28.b.length:Int).tdiv (50:Int))))) (br (decide (q6.2 < (0:Int))) (some (false,q6.2)) (lp (ι:=Int × Int) (λL34 q33=>br (decide (q33.1 < (a_v.l.length:Int))) (cal (getI a_v.l q33.1) λy38=>cal (zlv y38 q33.2) λy39=>br (!y39.1) (some (false,y39.2)) (ck ((q33.1 + (1:Int))) <| L34 ((q33.1 + (1:Int)),y39.2))) (some (true,q33.2))) (((0:Int),q6.2)))))) (((0:Int),(((zdp - (1:Int)) - ((a_v.b.length:Int).tdiv (50:Int))) - (a_v.more.length:Int))))
def zmw:Nat->(Val->Int->Option (Bool × Int))
 | 0=>(λ_ _=>none)
 | n + 1=>let p:=zmw n;(ziu p)
def zlq (n:Nat):Val->Int->Option (Bool × Int):=(zmw n)

def zlz (a_v:Val) (znR:Int):Option (Bool) :=
 cal (zlq fuel a_v znR) λy2=>some (y2.1)

def zkx (a_a:(List UInt8)) (a_b:(List UInt8)):Option (Bool) :=
 some ((decide ((Str.mk a_a)=(Str.mk a_b))))

def zp0 (a_a:Raw) (a_b:Raw):Option (Bool) :=
 jp (ι:=Bool) (λJ2=>br (decide (a_a.n=a_b.n)) (cal (zkx a_a.b a_b.b) λy4=>J2 (y4)) (J2 (false))) (λq1=>some (q1))

def zfQ (a_a:(List Raw)) (a_b:(List Raw)):Option (Bool) :=
 br (!decide ((a_a.length:Int)=(a_b.length:Int))) (some (false)) (lp (ι:=Int) (λL2 q1=>br (decide (q1 < (a_a.length:Int))) (cal (getI a_a q1) λy7=>cal (getI a_b q1) λy8=>cal (zp0 y7 y8) λy9=>br (!y9) (some (false)) (ck ((q1 + (1:Int))) <| L2 ((q1 + (1:Int))))) (some (true))) (((0:Int))))

def zdo (zb4:(List Val)->(List Val)->Option (Bool)) (zgx:Val->Val->Option (Bool)) (a_a:(List Val)) (a_b:(List Val)):Option (Bool) :=
 br (!decide ((a_a.length:Int)=(a_b.length:Int))) (some (false)) (lp (ι:=Int) (λL2 q1=>br (decide (q1 < (a_a.length:Int))) (cal (getI a_a q1) λy7=>cal (getI a_b q1) λy8=>cal (zgx y7 y8) λy9=>br (!y9) (some (false)) (ck ((q1 + (1:Int))) <| L2 ((q1 + (1:Int))))) (some (true))) (((0:Int))))
def zix (zb4:(List Val)->(List Val)->Option (Bool)) (zgx:Val->Val->Option (Bool)) (a_a:Val) (a_b:Val):Option (Bool) :=
 jp (ι:=Bool) (λJ2=>br (decide (a_a.kind=a_b.kind)) (J2 ((decide (a_a.n=a_b.n)))) (J2 (false))) (λq1=>jp (ι:=Bool) (λJ5=>br q1 (cal (zkx a_a.b a_b.b) λy7=>J5 (y7)) (J5 (false))) (λq4=>jp (ι:=Bool) (λJ9=>br q4 (cal (zb4 a_a.l a_b.l) λy11=>J9 (y11)) (J9 (false))) (λq8=>jp (ι:=Bool) (λJ13=>br q8 (J13 ((decide (a_a.rule=a_b.rule)))) (J13 (false))) (λq12=>jp (ι:=Bool) (λJ16=>br q12 (cal (zfQ a_a.more a_b.more) λy18=>J16 (y18)) (J16 (false))) (λq15=>some (q15))))))
def zew:Nat->((List Val)->(List Val)->Option (Bool)) × (Val->Val->Option (Bool))
 | 0=>(λ_ _=>none,λ_ _=>none)
 | n + 1=>let p:=zew n;(zdo p.1 p.2,zix p.1 p.2)
def zga (n:Nat):(List Val)->(List Val)->Option (Bool):=(zew n).1
def zi9 (n:Nat):Val->Val->Option (Bool):=(zew n).2

def zgE (ziF:Val->Option (Int)) (a_v:Val):Option (Int) :=
 lp (ι:=Int × Int) (λL2 q1=>br (decide (q1.2 < (a_v.l.length:Int))) (cal (getI a_v.l q1.2) λy7=>cal (ziF y7) λy8=>ck ((q1.1 + y8)) <| ck ((q1.2 + (1:Int))) <| L2 ((q1.1 + y8),(q1.2 + (1:Int)))) (some (q1.1))) (((1:Int),(0:Int)))
def zkM:Nat->(Val->Option (Int))
 | 0=>(λ_=>none)
 | n + 1=>let p:=zkM n;(zgE p)
def zij (n:Nat):Val->Option (Int):=(zkM n)

def zkj (a_t:GTab) (a_i:Int):Option (Bool) :=
 jp (ι:=Bool) (λJ2=>br (decide ((0:Int) <= a_i)) (J2 ((decide (a_i < (a_t.types.length:Int))))) (J2 (false))) (λq1=>some (q1))

def zf4 (a_t:GTab) (a_i:Int):Option ((List (List Int))) :=
 cal (zkj a_t a_i) λy3=>br (!y3) (some (([]:(List (List Int))))) (cal (getI a_t.types a_i) λy6=>jp (ι:=Bool) (λJ9=>br (!decide (y6.kind=(7:Int))) (J9 ((!decide (y6.kind=(8:Int))))) (J9 (false))) (λq8=>jp (ι:=Bool) (λJ12=>br q8 (J12 ((!decide (y6.kind=(9:Int))))) (J12 (false))) (λq11=>br q11 (some (([]:(List (List Int))))) (lp (ι:=(List (List Int)) × Int) (λL19 q18=>br (decide (q18.2 < (y6.fields.length:Int))) (jp (ι:=(List (List Int))) (λJ50=>cal (getI y6.fields q18.2) λy51=>jp (ι:=Bool) (λJ53=>br (!decide (y6.kind=(9:Int))) (J53 ((decide ((0:Int) < y51.group)))) (J53 (false))) (λq52=>jp (ι:=Bool) (λJ56=>br q52 (J56 ((decide (y6.root < q18.2)))) (J56 (false))) (λq55=>jp (ι:=Bool) (λJ59=>br q55 (ck ((q18.2 - (1:Int))) <| cal (getI y6.fields (q18.2 - (1:Int))) λy62=>J59 ((decide (y62.group=y51.group)))) (J59 (false))) (λq58=>br q58 (ck ((((q18.1.length:Nat):Int) - (1:Int))) <| ck ((((q18.1.length:Nat):Int) - (1:Int))) <| asr (decide (0 <= (((q18.1.length:Nat):Int) - (1:Int))/\(((q18.1.length:Nat):Int) - (1:Int)) < ((q18.1.length:Nat):Int))) <| asr (decide ((((q18.1.length:Nat):Int) - (1:Int)).toNat + 1=q18.1.length)) <| cal (q18.1[(((q18.1.length:Nat):Int) - (1:Int)).toNat]?) λy67=>asr (Nat.ble (y67.length + ([q18.2]:(List Int)).length) 68719476736) <| asr (decide (0 <= (((q18.1.length:Nat):Int) - (1:Int))/\(((q18.1.length:Nat):Int) - (1:Int)) < ((q18.1.length:Nat):Int))) <| asr (decide ((((q18.1.length:Nat):Int) - (1:Int)).toNat + 1=q18.1.length)) <| cal (q18.1[(((q18.1.length:Nat):Int) - (1:Int)).toNat]?) λy73=>J50 ((q18.1.set ((((q18.1.length:Nat):Int) - (1:Int)).toNat) (y67 ++ ([q18.2]:(List Int)))))) (asr (Nat.ble (q18.1.length + ([([q18.2]:(List Int))]:(List (List Int))).length) 68719476736) <| J50 ((q18.1 ++ [([q18.2]:(List Int))]))))))) (λq49=>ck ((q18.2 + (1:Int))) <| L19 (q49,(q18.2 + (1:Int))))) (some (q18.1))) ((([]:(List (List Int))),y6.root))))))

def zeB (a_b:(List UInt8)):Option (UInt64 × Int × Int) :=
 lp (ι:=UInt64 × Int) (λL2 q1=>br (decide (q1.2 < (a_b.length:Int))) (jp (ι:=Bool) (λJ16=>br (decide (q1.2=(0:Int))) (cal (getI a_b (0:Int)) λy18=>J16 ((decide (y18=(128:UInt8))))) (J16 (false))) (λq15=>jp (ι:=Bool) (λJ20=>br q15 (J20 (true)) (J20 ((decide ((144115188075855872:UInt64) <= q1.1))))) (λq19=>br q19 (some ((0:UInt64),(0:Int),(4:Int))) (asr (Nat.ble (7:UInt64).toNat 64) <| cal (getI a_b q1.2) λy23=>cal (getI a_b q1.2) λy24=>br (decide (y24 < (128:UInt8))) (ck ((q1.2 + (1:Int))) <| some (((shl64 q1.1 (7:UInt64).toNat) ||| (y23 &&& (127:UInt8)).toUInt64),(q1.2 + (1:Int)),(0:Int))) (ck ((q1.2 + (1:Int))) <| L2 (((shl64 q1.1 (7:UInt64).toNat) ||| (y23 &&& (127:UInt8)).toUInt64),(q1.2 + (1:Int)))))))) (some ((0:UInt64),(0:Int),(3:Int)))) (((0:UInt64),(0:Int)))

def zfA (a_v:UInt64):Option ((List UInt8)) :=
 lp (ι:=UInt64 × (List UInt8)) (λL3 q2=>br (decide ((255:UInt64) < q2.1)) (asr (Nat.ble (([(q2.1 >>> (8:UInt64)).toUInt8]:(List UInt8)).length + q2.2.length) 68719476736) <| L3 ((q2.1 >>> (8:UInt64)),(([(q2.1 >>> (8:UInt64)).toUInt8]:(List UInt8)) ++ q2.2))) (some (q2.2))) ((a_v,([a_v.toUInt8]:(List UInt8))))

def zdO (a_b:(List UInt8)):Option (UInt64 × Int) :=
 br (decide ((a_b.length:Int)=(0:Int))) (some ((0:UInt64),(3:Int))) (br (decide ((8:Int) < (a_b.length:Int))) (some ((0:UInt64),(4:Int))) (lp (ι:=UInt64 × Int) (λL2 q1=>br (decide (q1.2 < (a_b.length:Int))) (asr (Nat.ble (8:UInt64).toNat 64) <| cal (getI a_b q1.2) λy9=>ck ((q1.2 + (1:Int))) <| L2 (((shl64 q1.1 (8:UInt64).toNat) ||| y9.toUInt64),(q1.2 + (1:Int)))) (cal (zfA q1.1) λy11=>cal (zkx y11 a_b) λy12=>br (!y12) (some ((0:UInt64),(4:Int))) (some (q1.1,(0:Int))))) (((0:UInt64),(0:Int)))))

def zfP (a_b:(List UInt8)):Option (Tag × Bool × Int × Int × Int) :=
 br (decide ((a_b.length:Int)=(0:Int))) (some ((Tag.mk (0:Int) (0:Int)),false,(0:Int),(0:Int),(3:Int))) (cal (getI a_b (0:Int)) λy2=>asr (Nat.ble (6:UInt64).toNat 8) <| cal (getI a_b (0:Int)) λy4=>cal (getI a_b (0:Int)) λy6=>jp (ι:=Int × Tag) (λJ8=>br (decide (((y4 &&& (31:UInt8)).toNat:Int)=(31:Int))) (asr (decide (0 <= (1:Int)/\(1:Int) <= (a_b.length:Int)/\(a_b.length:Int) <= (a_b.length:Int))) <| cal (zeB ((a_b.take ((a_b.length:Int)).toNat).drop ((1:Int)).toNat)) λy10=>br (!decide (y10.2.2=(0:Int))) (some ((Tag.mk (0:Int) (0:Int)),false,(0:Int),(0:Int),y10.2.2)) (jp (ι:=Bool) (λJ12=>br (decide (y10.1 < (31:UInt64))) (J12 (true)) (J12 ((decide ((268435456:UInt64) < y10.1))))) (λq11=>br q11 (some ((Tag.mk (0:Int) (0:Int)),false,(0:Int),(0:Int),(4:Int))) (ck ((y10.1.toNat:Int)) <| ck (((1:Int) + y10.2.1)) <| J8 (((1:Int) + y10.2.1),(Tag.mk ((shr8 y2 (6:UInt64).toNat).toNat:Int) (y10.1.toNat:Int))))))) (J8 ((1:Int),(Tag.mk ((shr8 y2 (6:UInt64).toNat).toNat:Int) ((y4 &&& (31:UInt8)).toNat:Int))))) (λq7=>br (decide ((a_b.length:Int) <= q7.1)) (some ((Tag.mk (0:Int) (0:Int)),false,(0:Int),(0:Int),(3:Int))) (cal (getI a_b q7.1) λy16=>ck ((q7.1 + (1:Int))) <| jp (ι:=Int × Int) (λJ19=>br (decide ((128:Int) <= (y16.toNat:Int))) (ck (((y16.toNat:Int) - (128:Int))) <| jp (ι:=Bool) (λJ22=>br (decide (((y16.toNat:Int) - (128:Int))=(0:Int))) (J22 (true)) (J22 ((decide ((8:Int) < ((y16.toNat:Int) - (128:Int))))))) (λq21=>br q21 (some ((Tag.mk (0:Int) (0:Int)),false,(0:Int),(0:Int),(4:Int))) (ck (((a_b.length:Int) - (q7.1 + (1:Int)))) <| br (decide (((a_b.length:Int) - (q7.1 + (1:Int))) < ((y16.toNat:Int) - (128:Int)))) (some ((Tag.mk (0:Int) (0:Int)),false,(0:Int),(0:Int),(3:Int))) (ck (((q7.1 + (1:Int)) + ((y16.toNat:Int) - (128:Int)))) <| asr (decide (0 <= (q7.1 + (1:Int))/\(q7.1 + (1:Int)) <= ((q7.1 + (1:Int)) + ((y16.toNat:Int) - (128:Int)))/\((q7.1 + (1:Int)) + ((y16.toNat:Int) - (128:Int))) <= (a_b.length:Int))) <| cal (zdO ((a_b.take (((q7.1 + (1:Int)) + ((y16.toNat:Int) - (128:Int)))).toNat).drop ((q7.1 + (1:Int))).toNat)) λy27=>jp (ι:=Bool) (λJ29=>br (!decide (y27.2=(0:Int))) (J29 (true)) (J29 ((decide (y27.1 < (128:UInt64)))))) (λq28=>jp (ι:=Bool) (λJ32=>br q28 (J32 (true)) (J32 ((decide ((2147483647:UInt64) < y27.1))))) (λq31=>br q31 (some ((Tag.mk (0:Int) (0:Int)),false,(0:Int),(0:Int),(4:Int))) (ck ((y27.1.toNat:Int)) <| ck (((q7.1 + (1:Int)) + ((y16.toNat:Int) - (128:Int)))) <| J19 (((q7.1 + (1:Int)) + ((y16.toNat:Int) - (128:Int))),(y27.1.toNat:Int))))))))) (J19 ((q7.1 + (1:Int)),(y16.toNat:Int)))) (λq18=>some (q7.2,(!decide ((y6 &&& (32:UInt8))=(0:UInt8))),q18.2,q18.1,(0:Int))))))

def zhL (a_b:(List UInt8)):Option ((List UInt8)) :=
 asr (Nat.ble (([]:(List UInt8)).length + a_b.length) 68719476736) <| some ((([]:(List UInt8)) ++ a_b))

def zjF (a_b:(List UInt8)):Option (Tag × Bool × (List UInt8) × Int × Int) :=
 cal (zfP a_b) λy2=>br (!decide (y2.2.2.2.2=(0:Int))) (some ((Tag.mk (0:Int) (0:Int)),false,([]:(List UInt8)),(0:Int),y2.2.2.2.2)) (ck (((a_b.length:Int) - y2.2.2.2.1)) <| br (decide (((a_b.length:Int) - y2.2.2.2.1) < y2.2.2.1)) (some ((Tag.mk (0:Int) (0:Int)),false,([]:(List UInt8)),(0:Int),(3:Int))) (ck ((y2.2.2.2.1 + y2.2.2.1)) <| asr (decide (0 <= y2.2.2.2.1/\y2.2.2.2.1 <= (y2.2.2.2.1 + y2.2.2.1)/\(y2.2.2.2.1 + y2.2.2.1) <= (a_b.length:Int))) <| ck ((y2.2.2.2.1 + y2.2.2.1)) <| cal (zhL ((a_b.take ((y2.2.2.2.1 + y2.2.2.1)).toNat).drop (y2.2.2.2.1).toNat)) λy8=>some (y2.1,y2.2.1,y8,(y2.2.2.2.1 + y2.2.2.1),(0:Int))))

def zeo (zgq:(List GTyp)->Int->Option ((List Tag))) (a_l:(List GTyp)) (a_i:Int):Option ((List Tag)) :=
 cal (getI a_l a_i) λy1=>br (decide ((0:Int) < (y1.tags.length:Int))) (cal (getI a_l a_i) λy2=>asr (decide (0 <= (0:Int)/\(0:Int) <= (1:Int)/\(1:Int) <= (y2.tags.length:Int))) <| some (((y2.tags.take ((1:Int)).toNat).drop (0:Int).toNat))) (lp (ι:=(List Tag) × Int) (λL5 q4=>cal (getI a_l a_i) λy13=>br (decide (q4.2 < (y13.fields.length:Int))) (cal (getI a_l a_i) λy14=>cal (getI y14.fields q4.2) λy15=>cal (zgq a_l y15.ty) λy16=>asr (Nat.ble (q4.1.length + y16.length) 68719476736) <| ck ((q4.2 + (1:Int))) <| L5 ((q4.1 ++ y16),(q4.2 + (1:Int)))) (some (q4.1))) ((([]:(List Tag)),(0:Int))))
def zio:Nat->((List GTyp)->Int->Option ((List Tag)))
 | 0=>(λ_ _=>none)
 | n + 1=>let p:=zio n;(zeo p)
def zfH (n:Nat):(List GTyp)->Int->Option ((List Tag)):=(zio n)

def zhc (a_t:GTab) (a_i:Int):Option ((List Tag)) :=
 jp (ι:=Bool) (λJ2=>br (decide (a_i < (0:Int))) (J2 (true)) (J2 ((decide ((a_t.types.length:Int) <= a_i))))) (λq1=>br q1 (some (([]:(List Tag)))) (cal (zfH fuel a_t.types a_i) λy4=>asr (Nat.ble (([]:(List Tag)).length + y4.length) 68719476736) <| some ((([]:(List Tag)) ++ y4))))

def zf6 (a_t:GTab) (a_i:Int) (a_b:(List UInt8)):Option (Tag × Bool) :=
 cal (zjF a_b) λy2=>jp (ι:=Bool) (λJ5=>br (!decide (y2.2.2.2.2=(0:Int))) (J5 (true)) (J5 ((!decide (y2.2.2.2.1=(a_b.length:Int)))))) (λq4=>br q4 (some (y2.1,false)) (cal (getI a_t.types a_i) λy7=>jp (ι:=Int) (λJ9=>br (decide (y7.kind=(7:Int))) (cal (getI a_t.types a_i) λy10=>cal (zir y10) λy11=>J9 (y11)) (J9 ((0:Int)))) (λq8=>lp (ι:=Int) (λL13 q12=>cal (getI a_t.types a_i) λy20=>br (decide (q12 < (y20.fields.length:Int))) (cal (getI a_t.types a_i) λy21=>cal (getI y21.fields q12) λy22=>cal (zhc a_t y22.ty) λy23=>cal (zeD y23 y2.1) λy24=>br y24 (some (y2.1,false)) (ck ((q12 + (1:Int))) <| L13 ((q12 + (1:Int))))) (some (y2.1,true))) ((q8)))))

def zex (a_x:GTyp) (a_n_:Int):Option (Int) :=
 lp (ι:=Int) (λL2 q1=>br (decide (q1 < (a_x.items.length:Int))) (cal (getI a_x.items q1) λy5=>br (decide (y5.number=a_n_)) (some (q1)) (ck ((q1 + (1:Int))) <| L2 ((q1 + (1:Int))))) (some ((-1:Int)))) (((0:Int)))

def zh5 (a_b:(List UInt8)):Option (Bool) :=
 jp (ι:=Bool) (λJ2=>br (decide ((1:Int) <= (a_b.length:Int))) (J2 ((decide ((a_b.length:Int) <= (70000:Int))))) (J2 (false))) (λq1=>some (q1))

def zgu (a_t:GTab) (a_i:Int) (a_v:Val):Option (Bool) :=
 cal (getI a_t.types a_i) λy1=>jp (ι:=Bool) (λJ4=>br (!y1.more) (J4 (true)) (jp (ι:=Bool) (λJ7=>br (!decide (y1.kind=(9:Int))) (J7 ((!decide (y1.kind=(3:Int))))) (J7 (false))) (λq6=>J4 (q6)))) (λq3=>jp (ι:=Bool) (λJ10=>br q3 (J10 (true)) (J10 ((decide ((0:Int) < (a_v.l.length:Int)))))) (λq9=>jp (ι:=Bool) (λJ13=>br q9 (J13 (true)) (J13 ((decide ((0:Int) < (a_v.more.length:Int)))))) (λq12=>br q12 (some (false)) (ck (((y1.items.length:Int) - y1.root)) <| jp (ι:=Int) (λJ17=>br (decide (y1.kind=(9:Int))) (cal (zf4 a_t a_i) λy18=>J17 ((y18.length:Int))) (J17 (((y1.items.length:Int) - y1.root)))) (λq16=>jp (ι:=Bool) (λJ20=>br (decide (a_v.rule=(1:Int))) (J20 ((decide (y1.kind=(9:Int))))) (J20 (false))) (λq19=>br q19 (cal (zf6 a_t a_i a_v.b) λy22=>jp (ι:=Bool) (λJ25=>br y22.2 (J25 ((decide (a_v.n=(0:Int))))) (J25 (false))) (λq24=>some (q24))) (br (decide (a_v.rule=(1:Int))) (jp (ι:=Bool) (λJ28=>br (decide ((a_v.b.length:Int)=(0:Int))) (cal (zex y1 a_v.n) λy30=>J28 ((decide (y30 < (0:Int))))) (J28 (false))) (λq27=>some (q27))) (br (decide (a_v.rule=(2:Int))) (jp (ι:=Bool) (λJ32=>br (decide (q16 <= a_v.n)) (J32 ((decide (a_v.n < (1000:Int))))) (J32 (false))) (λq31=>jp (ι:=Bool) (λJ35=>br q31 (jp (ι:=Bool) (λJ38=>br (decide (y1.kind=(9:Int))) (cal (zh5 a_v.b) λy40=>J38 (y40)) (J38 (false))) (λq37=>jp (ι:=Bool) (λJ42=>br q37 (J42 (true)) (jp (ι:=Bool) (λJ45=>br (decide (y1.kind=(3:Int))) (J45 ((decide ((a_v.b.length:Int)=(0:Int))))) (J45 (false))) (λq44=>J42 (q44)))) (λq41=>J35 (q41)))) (J35 (false))) (λq34=>some (q34)))) (some (false))))))))))

def zdv (a_v:Val) (a_n_:Bool) (a_b:Bool) (a_l:Bool) (zoQ:Bool):Option (Bool) :=
 jp (ι:=Bool) (λJ2=>br a_n_ (J2 (true)) (J2 ((decide (a_v.n=(0:Int)))))) (λq1=>jp (ι:=Bool) (λJ5=>br q1 (jp (ι:=Bool) (λJ8=>br a_b (J8 (true)) (J8 ((decide ((a_v.b.length:Int)=(0:Int)))))) (λq7=>J5 (q7))) (J5 (false))) (λq4=>jp (ι:=Bool) (λJ11=>br q4 (jp (ι:=Bool) (λJ14=>br a_l (J14 (true)) (J14 ((decide ((a_v.l.length:Int)=(0:Int)))))) (λq13=>J11 (q13))) (J11 (false))) (λq10=>jp (ι:=Bool) (λJ17=>br q10 (jp (ι:=Bool) (λJ20=>br zoQ (J20 (true)) (jp (ι:=Bool) (λJ23=>br (decide (a_v.rule=(0:Int))) (J23 ((decide ((a_v.more.length:Int)=(0:Int))))) (J23 (false))) (λq22=>J20 (q22)))) (λq19=>J17 (q19))) (J17 (false))) (λq16=>some (q16)))))

def zjD (a_a:Tag) (a_b:Tag):Option (Bool) :=
 jp (ι:=Bool) (λJ2=>br (decide (a_a.cls < a_b.cls)) (J2 (true)) (jp (ι:=Bool) (λJ5=>br (decide (a_a.cls=a_b.cls)) (J5 ((decide (a_a.num < a_b.num)))) (J5 (false))) (λq4=>J2 (q4)))) (λq1=>some (q1))

def zjx (a_t:GTab) (a_i:Int) (a_v:Val):Option (Bool) :=
 br (decide ((a_v.more.length:Int)=(0:Int))) (some ((decide (a_v.rule=(0:Int))))) (cal (getI a_t.types a_i) λy1=>jp (ι:=Bool) (λJ3=>br (!y1.more) (J3 (true)) (jp (ι:=Bool) (λJ6=>br (!decide (a_v.rule=(1:Int))) (J6 ((!decide (a_v.rule=(2:Int))))) (J6 (false))) (λq5=>J3 (q5)))) (λq2=>br q2 (some (false)) (lp (ι:=Int × Tag) (λL10 q9=>br (decide (q9.1 < (a_v.more.length:Int))) (jp (ι:=Tag) (λJ46=>cal (getI a_v.more q9.1) λy47=>br (decide (a_v.rule=(2:Int))) (cal (zf4 a_t a_i) λy49=>jp (ι:=Int) (λJ51=>br (decide ((0:Int) < q9.1)) (ck ((q9.1 - (1:Int))) <| cal (getI a_v.more (q9.1 - (1:Int))) λy53=>ck ((y53.n + (1:Int))) <| J51 ((y53.n + (1:Int)))) (J51 ((y49.length:Int)))) (λq50=>jp (ι:=Bool) (λJ56=>br (decide (y47.n < q50)) (J56 (true)) (J56 ((decide ((1000:Int) <= y47.n))))) (λq55=>jp (ι:=Bool) (λJ59=>br q55 (J59 (true)) (cal (zh5 y47.b) λy61=>J59 ((!y61)))) (λq58=>br q58 (some (false)) (J46 (q9.2)))))) (cal (zf6 a_t a_i y47.b) λy62=>jp (ι:=Bool) (λJ65=>br (!y62.2) (J65 (true)) (J65 ((!decide (y47.n=(0:Int)))))) (λq64=>jp (ι:=Bool) (λJ68=>br q64 (J68 (true)) (cal (getI a_t.types a_i) λy70=>jp (ι:=Bool) (λJ72=>br (decide (y70.kind=(8:Int))) (J72 ((decide ((0:Int) < q9.1)))) (J72 (false))) (λq71=>jp (ι:=Bool) (λJ75=>br q71 (cal (zjD q9.2 y62.1) λy77=>J75 ((!y77))) (J75 (false))) (λq74=>J68 (q74))))) (λq67=>br q67 (some (false)) (J46 (y62.1)))))) (λq45=>ck ((q9.1 + (1:Int))) <| L10 ((q9.1 + (1:Int)),q45))) (some (true))) (((0:Int),Tag.zero)))))

def zeH (zdV:GTab->Int->Val->Int->Option (Bool)) (zed:GTab->Int->Val->Int->Option (Bool)) (a_t:GTab) (a_i:Int) (a_v:Val) (zI:Int):Option (Bool) :=
 cal (getI a_t.types a_i) λy1=>cal (zdv a_v false false true true) λy3=>jp (ι:=Bool) (λJ5=>br (!y3) (J5 (true)) (J5 ((!decide ((a_v.l.length:Int)=(y1.fields.length:Int)))))) (λq4=>jp (ι:=Bool) (λJ8=>br q4 (J8 (true)) (cal (zjx a_t a_i a_v) λy10=>J8 ((!y10)))) (λq7=>br q7 (some (false)) (lp (ι:=Int) (λL12 q11=>br (decide (q11 < (y1.fields.length:Int))) (jp (ι:=Unit) (λJ164=>cal (getI y1.fields q11) λy165=>jp (ι:=Bool) (λJ168=>br y165.optional (J168 (true)) (J168 (y165.has))) (λq167=>cal (getI a_v.l q11) λy170=>br (decide (y170.kind=(0:Int))) (cal (getI a_v.l q11) λy171=>cal (zi9 fuel y171 (Val.mk (0:Int) (0:Int) ([]:(List UInt8)) ([]:(List Val)) (0:Int) ([]:(List Raw)))) λy172=>jp (ι:=Bool) (λJ174=>br (!y172) (J174 (true)) (jp (ι:=Bool) (λJ177=>br (!q167) (J177 ((decide (q11 < y1.root)))) (J177 (false))) (λq176=>J174 (q176)))) (λq173=>br q173 (some (false)) (J164 ()))) (cal (getI a_v.l q11) λy179=>ck ((zI + (1:Int))) <| cal (zed a_t y165.ty y179 (zI + (1:Int))) λy181=>jp (ι:=Bool) (λJ183=>br (!y181) (J183 (true)) (jp (ι:=Bool) (λJ186=>br y165.has (cal (getI a_v.l q11) λy188=>cal (zi9 fuel y188 y165.dflt) λy189=>J186 (y189)) (J186 (false))) (λq185=>J183 (q185)))) (λq182=>br q182 (some (false)) (J164 ()))))) (λq163=>ck ((q11 + (1:Int))) <| L12 ((q11 + (1:Int))))) (cal (zf4 a_t a_i) λy191=>lp (ι:=Int) (λL193 q192=>br (decide (q192 < (y191.length:Int))) (lp (ι:=Bool × Bool × Int) (λL254 q253=>cal (getI y191 q192) λy280=>br (decide (q253.2.2 < (y280.length:Int))) (cal (getI y191 q192) λy281=>cal (getI y281 q253.2.2) λy282=>cal (getI y1.fields y282) λy283=>cal (getI y191 q192) λy285=>cal (getI y285 q253.2.2) λy286=>cal (getI a_v.l y286) λy287=>jp (ι:=Bool) (λJ289=>br q253.1 (J289 (true)) (J289 ((!decide (y287.kind=(0:Int)))))) (λq288=>jp (ι:=Bool) (λJ292=>br q253.2.1 (J292 (true)) (jp (ι:=Bool) (λJ295=>br (!(!decide (y287.kind=(0:Int)))) (J295 ((!y283.optional))) (J295 (false))) (λq294=>jp (ι:=Bool) (λJ298=>br q294 (J298 ((!y283.has))) (J298 (false))) (λq297=>J292 (q297))))) (λq291=>ck ((q253.2.2 + (1:Int))) <| L254 (q288,q291,(q253.2.2 + (1:Int)))))) (cal (getI y191 q192) λy301=>cal (getI y301 (0:Int)) λy302=>cal (getI y1.fields y302) λy303=>jp (ι:=Bool) (λJ305=>br (decide ((0:Int) < y303.group)) (J305 (q253.1)) (J305 (false))) (λq304=>jp (ι:=Bool) (λJ308=>br q304 (J308 (q253.2.1)) (J308 (false))) (λq307=>br q307 (some (false)) (ck ((q192 + (1:Int))) <| L193 ((q192 + (1:Int)))))))) ((false,false,(0:Int)))) (some (true))) (((0:Int))))) (((0:Int))))))
def zfa (zdV:GTab->Int->Val->Int->Option (Bool)) (zed:GTab->Int->Val->Int->Option (Bool)) (a_t:GTab) (a_i:Int) (a_v:Val) (zI:Int):Option (Bool) :=
 jp (ι:=Bool) (λJ2=>br (decide (a_i < (0:Int))) (J2 (true)) (J2 ((decide ((a_t.types.length:Int) <= a_i))))) (λq1=>jp (ι:=Bool) (λJ5=>br q1 (J5 (true)) (J5 ((decide ((17:Int) < zI))))) (λq4=>br q4 (some (false)) (cal (getI a_t.types a_i) λy7=>br (decide (a_v.kind=(12:Int))) (cal (zgu a_t a_i a_v) λy9=>some (y9)) (br (!decide (a_v.kind=y7.kind)) (some (false)) (br (decide (y7.kind=(1:Int))) (cal (zdv a_v true false false false) λy10=>jp (ι:=Bool) (λJ12=>br y10 (jp (ι:=Bool) (λJ15=>br (decide (a_v.n=(0:Int))) (J15 (true)) (J15 ((decide (a_v.n=(1:Int)))))) (λq14=>J12 (q14))) (J12 (false))) (λq11=>some (q11))) (br (decide (y7.kind=(2:Int))) (cal (zdv a_v true false false false) λy17=>jp (ι:=Bool) (λJ19=>br y17 (jp (ι:=Bool) (λJ22=>br y7.con.more (J22 (true)) (cal (zdn y7.con a_v.n) λy24=>J22 (y24))) (λq21=>J19 (q21))) (J19 (false))) (λq18=>some (q18))) (br (decide (y7.kind=(3:Int))) (cal (zdv a_v true false false false) λy25=>jp (ι:=Bool) (λJ27=>br y25 (cal (zex y7 a_v.n) λy29=>J27 ((decide ((0:Int) <= y29)))) (J27 (false))) (λq26=>some (q26))) (br (decide (y7.kind=(4:Int))) (cal (zdv a_v false false false false) λy30=>some (y30)) (jp (ι:=Bool) (λJ32=>br (decide (y7.kind=(5:Int))) (J32 ((decide (y7.kind=(5:Int))))) (J32 ((decide (y7.kind=(6:Int)))))) (λq31=>br q31 (cal (zdv a_v false true false false) λy33=>jp (ι:=Bool) (λJ35=>br y33 (J35 ((decide ((a_v.b.length:Int) <= (70000:Int))))) (J35 (false))) (λq34=>jp (ι:=Bool) (λJ38=>br q34 (jp (ι:=Bool) (λJ41=>br y7.con.more (J41 (true)) (cal (zdn y7.con (a_v.b.length:Int)) λy43=>J41 (y43))) (λq40=>J38 (q40))) (J38 (false))) (λq37=>jp (ι:=Bool) (λJ45=>br q37 (jp (ι:=Bool) (λJ48=>br (decide (y7.kind=(5:Int))) (J48 (true)) (cal (zcs a_v.b) λy50=>J48 (y50))) (λq47=>J45 (q47))) (J45 (false))) (λq44=>some (q44))))) (br (decide (y7.kind=(10:Int))) (cal (zdv a_v false false true false) λy51=>jp (ι:=Bool) (λJ53=>br (!y51) (J53 (true)) (jp (ι:=Bool) (λJ56=>br (!y7.con.more) (cal (zdn y7.con (a_v.l.length:Int)) λy58=>J56 ((!y58))) (J56 (false))) (λq55=>J53 (q55)))) (λq52=>br q52 (some (false)) (lp (ι:=Int) (λL60 q59=>br (decide (q59 < (a_v.l.length:Int))) (cal (getI a_v.l q59) λy65=>ck ((zI + (1:Int))) <| cal (zed a_t y7.of y65 (zI + (1:Int))) λy67=>br (!y67) (some (false)) (ck ((q59 + (1:Int))) <| L60 ((q59 + (1:Int))))) (some (true))) (((0:Int)))))) (br (decide (y7.kind=(9:Int))) (cal (zdv a_v true false true false) λy70=>jp (ι:=Bool) (λJ72=>br y70 (J72 ((decide ((0:Int) <= a_v.n)))) (J72 (false))) (λq71=>jp (ι:=Bool) (λJ75=>br q71 (J75 ((decide (a_v.n < (y7.fields.length:Int))))) (J75 (false))) (λq74=>jp (ι:=Bool) (λJ78=>br q74 (J78 ((decide ((a_v.l.length:Int)=(1:Int))))) (J78 (false))) (λq77=>jp (ι:=Bool) (λJ81=>br q77 (cal (getI y7.fields a_v.n) λy83=>cal (getI a_v.l (0:Int)) λy84=>ck ((zI + (1:Int))) <| cal (zed a_t y83.ty y84 (zI + (1:Int))) λy86=>J81 (y86)) (J81 (false))) (λq80=>some (q80)))))) (jp (ι:=Bool) (λJ88=>br (decide (y7.kind=(7:Int))) (J88 ((decide (y7.kind=(7:Int))))) (J88 ((decide (y7.kind=(8:Int)))))) (λq87=>br q87 (cal (zdV a_t a_i a_v zI) λy89=>some (y89)) (some (false))))))))))))))))
def zha:Nat->(GTab->Int->Val->Int->Option (Bool)) × (GTab->Int->Val->Int->Option (Bool))
 | 0=>(λ_ _ _ _=>none,λ_ _ _ _=>none)
 | n + 1=>let p:=zha n;(zeH p.1 p.2,zfa p.1 p.2)
def zi0 (n:Nat):GTab->Int->Val->Int->Option (Bool):=(zha n).1
def zgG (n:Nat):GTab->Int->Val->Int->Option (Bool):=(zha n).2

def zjY (a_t:GTab) (a_i:Int) (a_v:Val):Option (Bool) :=
 cal (zij fuel a_v) λy1=>jp (ι:=Bool) (λJ3=>br (decide (y1 <= (5000:Int))) (cal (zgG fuel a_t a_i a_v (1:Int)) λy5=>J3 (y5)) (J3 (false))) (λq2=>some (q2))

def zdC (a_b:(List UInt8)):Option (UInt64 × Int × Int) :=
 lp (ι:=UInt64 × Int) (λL2 q1=>br (decide (q1.2 < (a_b.length:Int))) (cal (getI a_b q1.2) λy13=>jp (ι:=Bool) (λJ15=>br (decide (q1.2=(0:Int))) (J15 ((decide (y13=(128:UInt8))))) (J15 (false))) (λq14=>jp (ι:=Bool) (λJ18=>br q14 (J18 (true)) (J18 ((!decide ((q1.1 >>> (57:UInt64))=(0:UInt64)))))) (λq17=>br q17 (some ((0:UInt64),(0:Int),(4:Int))) (asr (Nat.ble (7:UInt64).toNat 64) <| br (decide (y13 < (128:UInt8))) (ck ((q1.2 + (1:Int))) <| some (((shl64 q1.1 (7:UInt64).toNat) ||| (y13 &&& (127:UInt8)).toUInt64),(q1.2 + (1:Int)),(0:Int))) (ck ((q1.2 + (1:Int))) <| L2 (((shl64 q1.1 (7:UInt64).toNat) ||| (y13 &&& (127:UInt8)).toUInt64),(q1.2 + (1:Int)))))))) (some ((0:UInt64),(0:Int),(3:Int)))) (((0:UInt64),(0:Int)))

def zg9 (a_b:(List UInt8)):Option (Int × Int × Int) :=
 cal (getI a_b (0:Int)) λy1=>br (decide (((y1 &&& (31:UInt8)).toNat:Int) < (31:Int))) (some (((y1 &&& (31:UInt8)).toNat:Int),(0:Int),(0:Int))) (asr (decide (0 <= (1:Int)/\(1:Int) <= (a_b.length:Int)/\(a_b.length:Int) <= (a_b.length:Int))) <| cal (zdC ((a_b.take ((a_b.length:Int)).toNat).drop ((1:Int)).toNat)) λy3=>br (!decide (y3.2.2=(0:Int))) (some ((0:Int),(0:Int),y3.2.2)) (jp (ι:=Bool) (λJ5=>br (decide (y3.1 < (31:UInt64))) (J5 (true)) (J5 ((decide ((268435456:UInt64) < y3.1))))) (λq4=>br q4 (some ((0:Int),(0:Int),(4:Int))) (ck ((y3.1.toNat:Int)) <| some ((y3.1.toNat:Int),y3.2.1,(0:Int))))))

def zgM (a_b:(List UInt8)):Option (UInt64) :=
 lp (ι:=UInt64 × Int) (λL2 q1=>br (decide (q1.2 < (a_b.length:Int))) (cal (getI a_b q1.2) λy6=>asr (Nat.ble (8:UInt64).toNat 64) <| ck ((q1.2 + (1:Int))) <| L2 (((shl64 q1.1 (8:UInt64).toNat) ||| y6.toUInt64),(q1.2 + (1:Int)))) (some (q1.1))) (((0:UInt64),(0:Int)))

def zdf (a_b:(List UInt8)):Option (UInt64 × Int) :=
 br (decide ((a_b.length:Int)=(0:Int))) (some ((0:UInt64),(3:Int))) (jp (ι:=Bool) (λJ2=>br (decide ((8:Int) < (a_b.length:Int))) (J2 (true)) (jp (ι:=Bool) (λJ5=>br (decide ((1:Int) < (a_b.length:Int))) (cal (getI a_b (0:Int)) λy7=>J5 ((decide (y7=(0:UInt8))))) (J5 (false))) (λq4=>J2 (q4)))) (λq1=>br q1 (some ((0:UInt64),(4:Int))) (cal (zgM a_b) λy8=>some (y8,(0:Int)))))

def zhj (a_b:(List UInt8)):Option (Int × Int × Int) :=
 br (decide ((a_b.length:Int)=(0:Int))) (some ((0:Int),(0:Int),(3:Int))) (cal (getI a_b (0:Int)) λy1=>br (decide (y1 < (128:UInt8))) (cal (getI a_b (0:Int)) λy2=>some ((y2.toNat:Int),(1:Int),(0:Int))) (cal (getI a_b (0:Int)) λy3=>jp (ι:=Bool) (λJ5=>br (decide (((y3 &&& ~~~(128:UInt8)).toNat:Int)=(0:Int))) (J5 (true)) (J5 ((decide ((8:Int) < ((y3 &&& ~~~(128:UInt8)).toNat:Int)))))) (λq4=>br q4 (some ((0:Int),(0:Int),(4:Int))) (br (decide ((a_b.length:Int) <= ((y3 &&& ~~~(128:UInt8)).toNat:Int))) (some ((0:Int),(0:Int),(3:Int))) (ck (((1:Int) + ((y3 &&& ~~~(128:UInt8)).toNat:Int))) <| asr (decide (0 <= (1:Int)/\(1:Int) <= ((1:Int) + ((y3 &&& ~~~(128:UInt8)).toNat:Int))/\((1:Int) + ((y3 &&& ~~~(128:UInt8)).toNat:Int)) <= (a_b.length:Int))) <| cal (zdf ((a_b.take (((1:Int) + ((y3 &&& ~~~(128:UInt8)).toNat:Int))).toNat).drop ((1:Int)).toNat)) λy9=>jp (ι:=Bool) (λJ11=>br (!decide (y9.2=(0:Int))) (J11 (true)) (J11 ((decide (y9.1 < (128:UInt64)))))) (λq10=>jp (ι:=Bool) (λJ14=>br q10 (J14 (true)) (J14 ((decide ((2147483647:UInt64) < y9.1))))) (λq13=>br q13 (some ((0:Int),(0:Int),(4:Int))) (ck ((y9.1.toNat:Int)) <| ck (((1:Int) + ((y3 &&& ~~~(128:UInt8)).toNat:Int))) <| some ((y9.1.toNat:Int),((1:Int) + ((y3 &&& ~~~(128:UInt8)).toNat:Int)),(0:Int))))))))))

def zfU (a_b:(List UInt8)):Option (Tag × Bool × Int × Int × Int) :=
 br (decide ((a_b.length:Int)=(0:Int))) (some ((Tag.mk (0:Int) (0:Int)),false,(0:Int),(0:Int),(3:Int))) (cal (zg9 a_b) λy2=>br (!decide (y2.2.2=(0:Int))) (some ((Tag.mk (0:Int) (0:Int)),false,(0:Int),(0:Int),y2.2.2)) (ck (((1:Int) + y2.2.1)) <| asr (decide (0 <= ((1:Int) + y2.2.1)/\((1:Int) + y2.2.1) <= (a_b.length:Int)/\(a_b.length:Int) <= (a_b.length:Int))) <| cal (zhj ((a_b.take ((a_b.length:Int)).toNat).drop (((1:Int) + y2.2.1)).toNat)) λy5=>br (!decide (y5.2.2=(0:Int))) (some ((Tag.mk (0:Int) (0:Int)),false,(0:Int),(0:Int),y5.2.2)) (cal (getI a_b (0:Int)) λy6=>asr (Nat.ble (6:UInt64).toNat 8) <| cal (getI a_b (0:Int)) λy8=>ck (((1:Int) + y2.2.1)) <| ck ((((1:Int) + y2.2.1) + y5.2.1)) <| some ((Tag.mk ((shr8 y6 (6:UInt64).toNat).toNat:Int) y2.1),(!decide ((y8 &&& (32:UInt8))=(0:UInt8))),y5.1,(((1:Int) + y2.2.1) + y5.2.1),(0:Int)))))

def zjJ (a_b:(List UInt8)):Option (Tag × Bool × (List UInt8) × Int × Int) :=
 cal (zfU a_b) λy2=>jp (ι:=Bool) (λJ5=>br (decide (y2.2.2.2.2=(0:Int))) (ck (((a_b.length:Int) - y2.2.2.2.1)) <| J5 ((decide (((a_b.length:Int) - y2.2.2.2.1) < y2.2.2.1)))) (J5 (false))) (λq4=>jp (ι:=Int) (λJ9=>br q4 (J9 ((3:Int))) (J9 (y2.2.2.2.2))) (λq8=>br (!decide (q8=(0:Int))) (some ((Tag.mk (0:Int) (0:Int)),false,([]:(List UInt8)),(0:Int),q8)) (ck ((y2.2.2.2.1 + y2.2.2.1)) <| asr (decide (0 <= y2.2.2.2.1/\y2.2.2.2.1 <= (y2.2.2.2.1 + y2.2.2.1)/\(y2.2.2.2.1 + y2.2.2.1) <= (a_b.length:Int))) <| ck ((y2.2.2.2.1 + y2.2.2.1)) <| asr (Nat.ble (([]:(List UInt8)).length + ((a_b.take ((y2.2.2.2.1 + y2.2.2.1)).toNat).drop (y2.2.2.2.1).toNat).length) 68719476736) <| some (y2.1,y2.2.1,(([]:(List UInt8)) ++ ((a_b.take ((y2.2.2.2.1 + y2.2.2.1)).toNat).drop (y2.2.2.2.1).toNat)),(y2.2.2.2.1 + y2.2.2.1),(0:Int)))))

def zfo (a_t:GTyp) (a_k:Int):Option (Bool) :=
 cal (getI a_t.fields a_k) λy1=>jp (ι:=Bool) (λJ3=>br y1.optional (J3 (true)) (cal (getI a_t.fields a_k) λy5=>J3 (y5.has))) (λq2=>jp (ι:=Bool) (λJ7=>br q2 (J7 (true)) (J7 ((decide (a_t.root <= a_k))))) (λq6=>some (q6)))

def zht (a_t:GTyp):Option (Int) :=
 lp (ι:=Int) (λL2 q1=>jp (ι:=Bool) (λJ10=>br (decide ((0:Int) < q1)) (ck ((q1 - (1:Int))) <| cal (zfo a_t (q1 - (1:Int))) λy13=>J10 (y13)) (J10 (false))) (λq9=>br q9 (ck ((q1 - (1:Int))) <| L2 ((q1 - (1:Int)))) (some (q1)))) (((min (max a_t.root (0:Int)) (a_t.fields.length:Int))))

def zcM (a_x:GTyp) (a_a1:(List Tag)):Option ((List Tag)) :=
 br (decide ((0:Int) < (a_x.tags.length:Int))) (cal (getI a_x.tags (0:Int)) λy2=>asr (Nat.ble (a_a1.length + ([y2]:(List Tag)).length) 68719476736) <| some ((a_a1 ++ ([y2]:(List Tag))))) (some (a_a1))

def zb2 (zd3:GTys->Int->Int->(List Tag)->Option (GTys × Int × (List Tag))) (a_t:GTys) (zjg:Int) (zdp:Int) (zj4:(List Tag)):Option (GTys × Int × (List Tag)) :=
 jp (ι:=Bool) (λJ3=>br (decide (zjg < (0:Int))) (J3 (true)) (J3 ((decide ((a_t.l.length:Int) <= zjg))))) (λq2=>jp (ι:=Bool) (λJ6=>br q2 (J6 (true)) (J6 ((decide (zdp=(0:Int)))))) (λq5=>br q5 (some (a_t,zdp,zj4)) (ck ((zdp - (1:Int))) <| cal (getI a_t.l zjg) λy9=>cal (zcM y9 zj4) λy11=>br (decide ((0:Int) < (y9.tags.length:Int))) (some (a_t,(zdp - (1:Int)),y11)) (lp (ι:=Int × (List Tag) × Int × GTys) (λL14 q13=>br (decide (q13.1 < (y9.fields.length:Int))) (cal (getI y9.fields q13.1) λy20=>cal (zd3 q13.2.2.2 y20.ty q13.2.2.1 q13.2.1) λy22=>ck ((q13.1 + (1:Int))) <| L14 ((q13.1 + (1:Int)),y22.2.2,y22.2.1,y22.1)) (some (q13.2.2.2,q13.2.2.1,q13.2.1))) (((0:Int),y11,(zdp - (1:Int)),a_t))))))
def zf2:Nat->(GTys->Int->Int->(List Tag)->Option (GTys × Int × (List Tag)))
 | 0=>(λ_ _ _ _=>none)
 | n + 1=>let p:=zf2 n;(zb2 p)
def zdc (n:Nat):GTys->Int->Int->(List Tag)->Option (GTys × Int × (List Tag)):=(zf2 n)

def zd2 (a_t:GTys) (zjg:Int):Option ((List Tag) × GTys) :=
 cal (zdc fuel a_t zjg (300:Int) ([]:(List Tag))) λy4=>some (y4.2.2,y4.1)

def zfK (a_t:GTab) (a_i:Int):Option ((List Tag)) :=
 cal (zd2 (GTys.mk a_t.types) a_i) λy2=>some (y2.1)

def zb5 (a_s:(List Tag)) (a_v:Tag):Option (Int) :=
 lp (ι:=Int) (λL2 q1=>br (decide (q1 < (a_s.length:Int))) (cal (getI a_s q1) λy5=>br (decide (a_v=y5)) (some (q1)) (ck ((q1 + (1:Int))) <| L2 ((q1 + (1:Int))))) (some ((-1:Int)))) (((0:Int)))

def zbe (a_s:(List Tag)) (a_v:Tag):Option (Bool) :=
 cal (zb5 a_s a_v) λy1=>some ((decide ((0:Int) <= y1)))

def zcZ (a_f:GFld) (a_a1:GChk) (a_a2:Tag):Option (Bool × GChk) :=
 cal (zfK a_a1.tabled.t a_f.ty) λy1=>cal (zbe y1 a_a2) λy2=>some (y2,a_a1)

def zbg (a_s:(List GFld)) (zdU:GChk) (zeT:Tag):Option (Int × GChk) :=
 lp (ι:=Int × GChk) (λL2 q1=>br (decide (q1.1 < (a_s.length:Int))) (cal (getI a_s q1.1) λy6=>cal (zcZ y6 q1.2 zeT) λy7=>br y7.1 (some (q1.1,y7.2)) (ck ((q1.1 + (1:Int))) <| L2 ((q1.1 + (1:Int)),y7.2))) (some ((-1:Int),q1.2))) (((0:Int),zdU))

def za4 (a_s:(List GFld)) (zdU:GChk) (zeT:Tag):Option (Bool × GChk) :=
 cal (zbg a_s zdU zeT) λy1=>some ((decide ((0:Int) <= y1.1)),y1.2)

def zb7 (a_c:GChk) (a_i:Int) (a_b:(List UInt8)):Option (Tag × Bool × GChk) :=
 cal (zjJ a_b) λy2=>jp (ι:=Bool) (λJ5=>br (!decide (y2.2.2.2.2=(0:Int))) (J5 (true)) (J5 ((!decide (y2.2.2.2.1=(a_b.length:Int)))))) (λq4=>br q4 (some ((Tag.mk (0:Int) (0:Int)),false,a_c)) (cal (getI a_c.tabled.t.types a_i) λy7=>jp (ι:=Int) (λJ10=>br (decide (y7.kind=(7:Int))) (cal (zht y7) λy11=>J10 (y11)) (J10 ((0:Int)))) (λq9=>asr (decide (0 <= q9/\q9 <= (y7.fields.length:Int)/\(y7.fields.length:Int) <= (y7.fields.length:Int))) <| cal (za4 ((y7.fields.take ((y7.fields.length:Int)).toNat).drop (q9).toNat) a_c y2.1) λy13=>some (y2.1,(!y13.1),y13.2))))

def zgn (a_y:GItem) (a_a1:Int):Option (Bool) :=
 some ((decide (a_y.number=a_a1)))

def zaX (a_s:(List GItem)) (zdU:Int):Option (Int) :=
 lp (ι:=Int) (λL2 q1=>br (decide (q1 < (a_s.length:Int))) (cal (getI a_s q1) λy6=>cal (zgn y6 zdU) λy7=>br y7 (some (q1)) (ck ((q1 + (1:Int))) <| L2 ((q1 + (1:Int))))) (some ((-1:Int)))) (((0:Int)))

def zdY (a_x:GTyp) (a_n_:Int):Option (Int) :=
 cal (zaX a_x.items a_n_) λy1=>some (y1)

def zf9 (a_b:(List UInt8)):Option (Bool) :=
 jp (ι:=Bool) (λJ2=>br (decide ((0:Int) < (a_b.length:Int))) (J2 ((decide ((a_b.length:Int) <= (70000:Int))))) (J2 (false))) (λq1=>some (q1))

def zcK (a_c:GChk) (a_i:Int) (a_v:Val):Option (Bool × GChk) :=
 cal (getI a_c.tabled.t.types a_i) λy1=>jp (ι:=Bool) (λJ4=>br (!y1.more) (J4 (true)) (jp (ι:=Bool) (λJ7=>br (!(decide (y1.kind=(9:Int)))) (J7 ((!decide (y1.kind=(3:Int))))) (J7 (false))) (λq6=>J4 (q6)))) (λq3=>jp (ι:=Bool) (λJ10=>br q3 (J10 (true)) (ck (((a_v.l.length:Int) + (a_v.more.length:Int))) <| J10 ((decide ((0:Int) < ((a_v.l.length:Int) + (a_v.more.length:Int))))))) (λq9=>br q9 (some (false,a_c)) (br a_c.bare (jp (ι:=Bool) (λJ14=>br (decide (a_v.n=(0:Int))) (J14 ((decide ((a_v.b.length:Int)=(0:Int))))) (J14 (false))) (λq13=>jp (ι:=Bool) (λJ17=>br q13 (J17 ((decide (a_v.rule=(0:Int))))) (J17 (false))) (λq16=>some (q16,a_c)))) (ck (((y1.items.length:Int) + (y1.fields.length:Int))) <| ck ((((y1.items.length:Int) + (y1.fields.length:Int)) - y1.root)) <| jp (ι:=Bool) (λJ22=>br (decide (a_v.rule=(1:Int))) (J22 ((decide (y1.kind=(9:Int))))) (J22 (false))) (λq21=>br q21 (cal (zb7 a_c a_i a_v.b) λy24=>jp (ι:=Bool) (λJ27=>br y24.2.1 (J27 ((decide (a_v.n=(0:Int))))) (J27 (false))) (λq26=>some (q26,y24.2.2))) (br (decide (a_v.rule=(1:Int))) (jp (ι:=Bool) (λJ30=>br (decide ((a_v.b.length:Int)=(0:Int))) (cal (zdY y1 a_v.n) λy32=>J30 ((decide (y32 < (0:Int))))) (J30 (false))) (λq29=>some (q29,a_c))) (jp (ι:=Bool) (λJ34=>br (!decide (a_v.rule=(2:Int))) (J34 (true)) (J34 ((decide (a_v.n < (((y1.items.length:Int) + (y1.fields.length:Int)) - y1.root)))))) (λq33=>jp (ι:=Bool) (λJ37=>br q33 (J37 (true)) (J37 ((decide ((1000:Int) <= a_v.n))))) (λq36=>br q36 (some (false,a_c)) (br (decide (y1.kind=(9:Int))) (cal (zf9 a_v.b) λy39=>some (y39,a_c)) (some ((decide ((a_v.b.length:Int)=(0:Int))),a_c))))))))))))

def zcn (a_v:Val) (zg6:Int):Option (Bool) :=
 asr (decide (0 <= zg6/\0 <= (1:Int))) <| jp (ι:=Bool) (λJ3=>br (!decide ((andI zg6 (1:Int))=(0:Int))) (J3 (true)) (J3 ((decide (a_v.n=(0:Int)))))) (λq2=>jp (ι:=Bool) (λJ6=>br q2 (asr (decide (0 <= zg6/\0 <= (2:Int))) <| jp (ι:=Bool) (λJ10=>br (!decide ((andI zg6 (2:Int))=(0:Int))) (J10 (true)) (J10 ((decide ((a_v.b.length:Int)=(0:Int)))))) (λq9=>J6 (q9))) (J6 (false))) (λq5=>jp (ι:=Bool) (λJ13=>br q5 (asr (decide (0 <= zg6/\0 <= (4:Int))) <| jp (ι:=Bool) (λJ17=>br (!decide ((andI zg6 (4:Int))=(0:Int))) (J17 (true)) (J17 ((decide ((a_v.l.length:Int)=(0:Int)))))) (λq16=>J13 (q16))) (J13 (false))) (λq12=>jp (ι:=Bool) (λJ20=>br q12 (asr (decide (0 <= zg6/\0 <= (8:Int))) <| jp (ι:=Bool) (λJ24=>br (!decide ((andI zg6 (8:Int))=(0:Int))) (J24 (true)) (jp (ι:=Bool) (λJ27=>br (decide (a_v.rule=(0:Int))) (J27 ((decide ((a_v.more.length:Int)=(0:Int))))) (J27 (false))) (λq26=>J24 (q26)))) (λq23=>J20 (q23))) (J20 (false))) (λq19=>some (q19)))))

def zdE (a_c:GCon) (a_v:Int):Option (Bool) :=
 jp (ι:=Bool) (λJ2=>br (!a_c.has) (J2 (true)) (jp (ι:=Bool) (λJ5=>br (!a_c.hasLow) (J5 (true)) (J5 ((decide (a_c.low <= a_v))))) (λq4=>jp (ι:=Bool) (λJ8=>br q4 (jp (ι:=Bool) (λJ11=>br (!a_c.hasHigh) (J11 (true)) (J11 ((decide (a_v <= a_c.high))))) (λq10=>J8 (q10))) (J8 (false))) (λq7=>J2 (q7))))) (λq1=>some (q1))

def zdy (a_c:GChk) (a_x:GTyp) (a_v:Val):Option (Bool × GChk) :=
 cal (zcn a_v (2:Int)) λy1=>jp (ι:=Bool) (λJ3=>br y1 (J3 ((decide ((a_v.b.length:Int) <= (70000:Int))))) (J3 (false))) (λq2=>jp (ι:=Bool) (λJ6=>br q2 (jp (ι:=Bool) (λJ9=>br a_x.con.more (J9 (true)) (cal (zdE a_x.con (a_v.b.length:Int)) λy11=>J9 (y11))) (λq8=>J6 (q8))) (J6 (false))) (λq5=>jp (ι:=Bool) (λJ13=>br q5 (jp (ι:=Bool) (λJ16=>br (decide (a_x.kind=(5:Int))) (J16 (true)) (cal (zcs a_v.b) λy18=>J16 (y18))) (λq15=>J13 (q15))) (J13 (false))) (λq12=>some (q12,a_c))))

def zgF (a_t:GTab) (a_i:Int):Option (GTyp) :=
 jp (ι:=Bool) (λJ3=>br (decide (a_i < (0:Int))) (J3 (true)) (J3 ((decide ((a_t.types.length:Int) <= a_i))))) (λq2=>br q2 (some ((GTyp.mk (0:Int) ([]:(List Tag)) (GCon.mk false false false false (0:Int) (0:Int)) ([]:(List GItem)) ([]:(List GFld)) (0:Int) false (0:Int)))) (cal (getI a_t.types a_i) λy5=>some (y5)))

def zfD (zgS:Int) (a_to:Int):Option ((List Int)) :=
 lp (ι:=(List Int) × Int) (λL4 q3=>br (decide (q3.2 < a_to)) (asr (Nat.ble (q3.1.length + ([q3.2]:(List Int)).length) 68719476736) <| ck ((q3.2 + (1:Int))) <| L4 ((q3.1 ++ ([q3.2]:(List Int))),(q3.2 + (1:Int)))) (some (q3.1))) ((([]:(List Int)),zgS))

def zfi (a_t:GTab) (a_i:Int):Option ((List (List Int))) :=
 cal (zgF a_t a_i) λy3=>jp (ι:=Bool) (λJ6=>br (!decide (y3.kind=(7:Int))) (J6 ((!decide (y3.kind=(8:Int))))) (J6 (false))) (λq5=>jp (ι:=Bool) (λJ9=>br q5 (J9 ((!decide (y3.kind=(9:Int))))) (J9 (false))) (λq8=>br q8 (some (([]:(List (List Int))))) (cal (zfD (max y3.root (0:Int)) (y3.fields.length:Int)) λy15=>lp (ι:=(List (List Int)) × Int) (λL18 q17=>br (decide (q17.2 < ((y15.length:Nat):Int))) (jp (ι:=(List (List Int))) (λJ50=>asr (decide (0 <= q17.2/\q17.2 < ((y15.length:Nat):Int))) <| cal (y15[q17.2.toNat]?) λy52=>ck ((((q17.1.length:Nat):Int) - (1:Int))) <| cal (getI y3.fields y52) λy54=>jp (ι:=Bool) (λJ56=>br (!decide (y3.kind=(9:Int))) (J56 ((decide ((0:Int) < y54.group)))) (J56 (false))) (λq55=>jp (ι:=Bool) (λJ59=>br q55 (J59 ((decide ((0:Int) <= (((q17.1.length:Nat):Int) - (1:Int)))))) (J59 (false))) (λq58=>jp (ι:=Bool) (λJ62=>br q58 (ck ((y52 - (1:Int))) <| cal (getI y3.fields (y52 - (1:Int))) λy65=>J62 ((decide (y65.group=y54.group)))) (J62 (false))) (λq61=>br q61 (asr (decide (0 <= (((q17.1.length:Nat):Int) - (1:Int))/\(((q17.1.length:Nat):Int) - (1:Int)) < ((q17.1.length:Nat):Int))) <| asr (decide ((((q17.1.length:Nat):Int) - (1:Int)).toNat + 1=q17.1.length)) <| cal (q17.1[(((q17.1.length:Nat):Int) - (1:Int)).toNat]?) λy68=>asr (Nat.ble (y68.length + ([y52]:(List Int)).length) 68719476736) <| asr (decide (0 <= (((q17.1.length:Nat):Int) - (1:Int))/\(((q17.1.length:Nat):Int) - (1:Int)) < ((q17.1.length:Nat):Int))) <| asr (decide ((((q17.1.length:Nat):Int) - (1:Int)).toNat + 1=q17.1.length)) <| cal (q17.1[(((q17.1.length:Nat):Int) - (1:Int)).toNat]?) λy74=>J50 ((q17.1.set ((((q17.1.length:Nat):Int) - (1:Int)).toNat) (y68 ++ ([y52]:(List Int)))))) (asr (Nat.ble (q17.1.length + ([([y52]:(List Int))]:(List (List Int))).length) 68719476736) <| J50 ((q17.1 ++ [([y52]:(List Int))]))))))) (λq49=>ck ((q17.2 + (1:Int))) <| L18 (q49,(q17.2 + (1:Int))))) (some (q17.1))) ((([]:(List (List Int))),(0:Int))))))

def zim (a_a:Tag) (a_b:Tag):Option (Bool) :=
 br (!decide (a_a.cls=a_b.cls)) (some ((decide (a_a.cls < a_b.cls)))) (some ((decide (a_a.num < a_b.num))))

def zdr (a_c:GChk) (a_i:Int) (a_v:Val):Option (Bool × GChk) :=
 cal (getI a_c.tabled.t.types a_i) λy1=>br (decide ((a_v.more.length:Int)=(0:Int))) (some ((decide (a_v.rule=(0:Int))),a_c)) (jp (ι:=Bool) (λJ4=>br (!y1.more) (J4 (true)) (jp (ι:=Bool) (λJ7=>br (!decide (a_v.rule=(1:Int))) (J7 ((!decide (a_v.rule=(2:Int))))) (J7 (false))) (λq6=>J4 (q6)))) (λq3=>br q3 (some (false,a_c)) (cal (zfi a_c.tabled.t a_i) λy9=>lp (ι:=Int × Int × Tag × GChk) (λL12 q11=>br (decide (q11.2.1 < (a_v.more.length:Int))) (jp (ι:=Int × Tag × GChk) (λJ42=>cal (getI a_v.more q11.2.1) λy43=>br (decide (a_v.rule=(2:Int))) (jp (ι:=Bool) (λJ46=>br (decide (y43.n < q11.1)) (J46 (true)) (J46 ((decide ((1000:Int) <= y43.n))))) (λq45=>jp (ι:=Bool) (λJ49=>br q45 (J49 (true)) (cal (zf9 y43.b) λy51=>J49 ((!y51)))) (λq48=>br q48 (some (false,q11.2.2.2)) (ck ((y43.n + (1:Int))) <| J42 ((y43.n + (1:Int)),q11.2.2.1,q11.2.2.2))))) (cal (zb7 q11.2.2.2 a_i y43.b) λy53=>jp (ι:=Bool) (λJ56=>br (!y53.2.1) (J56 (true)) (J56 ((!decide (y43.n=(0:Int)))))) (λq55=>jp (ι:=Bool) (λJ59=>br q55 (J59 (true)) (jp (ι:=Bool) (λJ62=>br (decide (y1.kind=(8:Int))) (J62 ((decide ((0:Int) < q11.2.1)))) (J62 (false))) (λq61=>jp (ι:=Bool) (λJ65=>br q61 (cal (zim q11.2.2.1 y53.1) λy67=>J65 ((!y67))) (J65 (false))) (λq64=>J59 (q64))))) (λq58=>br q58 (some (false,y53.2.2)) (J42 (q11.1,y53.1,y53.2.2)))))) (λq41=>ck ((q11.2.1 + (1:Int))) <| L12 (q41.1,(q11.2.1 + (1:Int)),q41.2.1,q41.2.2))) (some (true,q11.2.2.2))) (((y9.length:Int),(0:Int),Tag.zero,a_c)))))

def zd5 (a_v:Val):Option (Bool) :=
 jp (ι:=Bool) (λJ2=>br (decide (a_v.kind=(0:Int))) (cal (zcn a_v (0:Int)) λy4=>J2 (y4)) (J2 (false))) (λq1=>some (q1))

def zhD (a_a:(List UInt8)) (a_b:(List UInt8)):Option (Bool) :=
 some ((decide ((Str.mk a_a)=(Str.mk a_b))))

def zeP (a_a:Raw) (a_b:Raw):Option (Bool) :=
 jp (ι:=Bool) (λJ2=>br (decide (a_a.n=a_b.n)) (cal (zhD a_a.b a_b.b) λy4=>J2 (y4)) (J2 (false))) (λq1=>some (q1))

def zaF (a_s1:(List Raw)) (a_s2:(List Raw)):Option (Bool) :=
 br (!decide ((a_s1.length:Int)=(a_s2.length:Int))) (some (false)) (lp (ι:=Int) (λL2 q1=>br (decide (q1 < (a_s1.length:Int))) (cal (getI a_s1 q1) λy9=>cal (getI a_s2 q1) λy11=>cal (zeP y9 y11) λy13=>br (!y13) (some (false)) (ck ((q1 + (1:Int))) <| L2 ((q1 + (1:Int))))) (some (true))) (((0:Int))))

def zft (zdX:Val->Val->Option (Bool)) (zK:(List Val)->(List Val)->Option (Bool)) (a_a:Val) (a_b:Val):Option (Bool) :=
 jp (ι:=Bool) (λJ2=>br (decide (a_a.kind=a_b.kind)) (J2 ((decide (a_a.n=a_b.n)))) (J2 (false))) (λq1=>jp (ι:=Bool) (λJ5=>br q1 (cal (zhD a_a.b a_b.b) λy7=>J5 (y7)) (J5 (false))) (λq4=>jp (ι:=Bool) (λJ9=>br q4 (cal (zK a_a.l a_b.l) λy11=>J9 (y11)) (J9 (false))) (λq8=>jp (ι:=Bool) (λJ13=>br q8 (J13 ((decide (a_a.rule=a_b.rule)))) (J13 (false))) (λq12=>jp (ι:=Bool) (λJ16=>br q12 (cal (zaF a_a.more a_b.more) λy18=>J16 (y18)) (J16 (false))) (λq15=>some (q15))))))
def zag (zdX:Val->Val->Option (Bool)) (zK:(List Val)->(List Val)->Option (Bool)) (a_s1:(List Val)) (a_s2:(List Val)):Option (Bool) :=
 br (!decide ((a_s1.length:Int)=(a_s2.length:Int))) (some (false)) (lp (ι:=Int) (λL2 q1=>br (decide (q1 < (a_s1.length:Int))) (cal (getI a_s1 q1) λy9=>cal (getI a_s2 q1) λy11=>cal (zdX y9 y11) λy13=>br (!y13) (some (false)) (ck ((q1 + (1:Int))) <| L2 ((q1 + (1:Int))))) (some (true))) (((0:Int))))
def zhz:Nat->(Val->Val->Option (Bool)) × ((List Val)->(List Val)->Option (Bool))
 | 0=>(λ_ _=>none,λ_ _=>none)
 | n + 1=>let p:=zhz n;(zft p.1 p.2,zag p.1 p.2)
def zf8 (n:Nat):Val->Val->Option (Bool):=(zhz n).1
def zaN (n:Nat):(List Val)->(List Val)->Option (Bool):=(zhz n).2

def zc3 (a_c:GChk) (a_i:Int) (a_v:Val):Option (Bool × GChk) :=
 cal (getI a_c.tabled.t.types a_i) λy1=>cal (zfi a_c.tabled.t a_i) λy3=>lp (ι:=Int) (λL5 q4=>br (decide (q4 < (y3.length:Int))) (jp (ι:=Unit) (λJ49=>cal (getI y3 q4) λy50=>cal (getI y50 (0:Int)) λy51=>cal (getI y1.fields y51) λy52=>br (decide (y52.group=(0:Int))) (J49 ()) (lp (ι:=Bool × Bool × Int) (λL54 q53=>br (decide (q53.2.2 < (y50.length:Int))) (cal (getI y50 q53.2.2) λy67=>cal (getI a_v.l y67) λy68=>cal (zd5 y68) λy69=>jp (ι:=Bool) (λJ71=>br q53.1 (J71 (true)) (J71 ((!y69)))) (λq70=>jp (ι:=Bool) (λJ74=>br q53.2.1 (J74 (true)) (jp (ι:=Bool) (λJ77=>br (!(!y69)) (cal (getI y1.fields y67) λy79=>J77 ((!y79.optional))) (J77 (false))) (λq76=>jp (ι:=Bool) (λJ81=>br q76 (cal (getI y1.fields y67) λy83=>J81 ((!y83.has))) (J81 (false))) (λq80=>J74 (q80))))) (λq73=>ck ((q53.2.2 + (1:Int))) <| L54 (q70,q73,(q53.2.2 + (1:Int)))))) (jp (ι:=Bool) (λJ86=>br q53.1 (J86 (q53.2.1)) (J86 (false))) (λq85=>br q85 (some (false,a_c)) (J49 ())))) ((false,false,(0:Int))))) (λq48=>ck ((q4 + (1:Int))) <| L5 ((q4 + (1:Int))))) (some (true,a_c))) (((0:Int)))

def zcl (zM:Val->GChk->GTyp->Int->Option (Bool × GChk)) (zS:GChk->Int->Val->Int->Option (Bool × GChk)) (zY:GChk->GTyp->Val->Int->Option (Bool × GChk)) (zq:(List Val)->GChk->GTyp->Int->Option (Bool × GChk)) (zr:(List Val)->GChk->GTyp->Int->Option (Int × GChk)) (zQ:GChk->Int->Val->Int->Option (Bool × GChk)) (a_w_:Val) (a_a1:GChk) (a_a2:GTyp) (a_a3:Int):Option (Bool × GChk) :=
 ck ((a_a3 + (1:Int))) <| cal (zS a_a1 a_a2.of a_w_ (a_a3 + (1:Int))) λy2=>some ((!y2.1),y2.2)
def zbT (zM:Val->GChk->GTyp->Int->Option (Bool × GChk)) (zS:GChk->Int->Val->Int->Option (Bool × GChk)) (zY:GChk->GTyp->Val->Int->Option (Bool × GChk)) (zq:(List Val)->GChk->GTyp->Int->Option (Bool × GChk)) (zr:(List Val)->GChk->GTyp->Int->Option (Int × GChk)) (zQ:GChk->Int->Val->Int->Option (Bool × GChk)) (a_c:GChk) (a_i:Int) (a_v:Val) (zI:Int):Option (Bool × GChk) :=
 jp (ι:=Bool) (λJ2=>br (decide (a_i < (0:Int))) (J2 (true)) (J2 ((decide ((a_c.tabled.t.types.length:Int) <= a_i))))) (λq1=>jp (ι:=Bool) (λJ5=>br q1 (J5 (true)) (J5 ((decide ((17:Int) < zI))))) (λq4=>br q4 (some (false,a_c)) (cal (getI a_c.tabled.t.types a_i) λy7=>br (decide (a_v.kind=(12:Int))) (cal (zcK a_c a_i a_v) λy9=>some (y9.1,y9.2)) (br (!decide (a_v.kind=y7.kind)) (some (false,a_c)) (br (decide (y7.kind=(1:Int))) (cal (zcn a_v (1:Int)) λy10=>jp (ι:=Bool) (λJ12=>br y10 (jp (ι:=Bool) (λJ15=>br (decide (a_v.n=(0:Int))) (J15 (true)) (J15 ((decide (a_v.n=(1:Int)))))) (λq14=>J12 (q14))) (J12 (false))) (λq11=>some (q11,a_c))) (br (decide (y7.kind=(2:Int))) (cal (zcn a_v (1:Int)) λy17=>jp (ι:=Bool) (λJ19=>br y17 (jp (ι:=Bool) (λJ22=>br y7.con.more (J22 (true)) (cal (zdE y7.con a_v.n) λy24=>J22 (y24))) (λq21=>J19 (q21))) (J19 (false))) (λq18=>some (q18,a_c))) (br (decide (y7.kind=(3:Int))) (cal (zcn a_v (1:Int)) λy25=>jp (ι:=Bool) (λJ27=>br y25 (cal (zdY y7 a_v.n) λy29=>J27 ((decide ((0:Int) <= y29)))) (J27 (false))) (λq26=>some (q26,a_c))) (br (decide (y7.kind=(4:Int))) (cal (zcn a_v (0:Int)) λy30=>some (y30,a_c)) (jp (ι:=Bool) (λJ32=>br (decide (y7.kind=(5:Int))) (J32 ((decide (y7.kind=(5:Int))))) (J32 ((decide (y7.kind=(6:Int)))))) (λq31=>br q31 (cal (zdy a_c y7 a_v) λy33=>some (y33.1,y33.2)) (br (decide (y7.kind=(10:Int))) (cal (zY a_c y7 a_v zI) λy34=>some (y34.1,y34.2)) (br (decide (y7.kind=(9:Int))) (cal (zcn a_v (5:Int)) λy35=>jp (ι:=Bool) (λJ37=>br y35 (J37 ((decide ((0:Int) <= a_v.n)))) (J37 (false))) (λq36=>jp (ι:=Bool) (λJ40=>br q36 (J40 ((decide (a_v.n < (y7.fields.length:Int))))) (J40 (false))) (λq39=>jp (ι:=Bool) (λJ43=>br q39 (J43 ((decide ((a_v.l.length:Int)=(1:Int))))) (J43 (false))) (λq42=>jp (ι:=Bool × GChk) (λJ46=>br q42 (cal (getI y7.fields a_v.n) λy48=>cal (getI a_v.l (0:Int)) λy49=>ck ((zI + (1:Int))) <| cal (zS a_c y48.ty y49 (zI + (1:Int))) λy51=>J46 (y51.1,y51.2)) (J46 (false,a_c))) (λq45=>some (q45.1,q45.2)))))) (jp (ι:=Bool) (λJ53=>br (decide (y7.kind=(7:Int))) (J53 ((decide (y7.kind=(7:Int))))) (J53 ((decide (y7.kind=(8:Int)))))) (λq52=>br q52 (cal (zQ a_c a_i a_v zI) λy54=>some (y54.1,y54.2)) (some (false,a_c))))))))))))))))
def zc8 (zM:Val->GChk->GTyp->Int->Option (Bool × GChk)) (zS:GChk->Int->Val->Int->Option (Bool × GChk)) (zY:GChk->GTyp->Val->Int->Option (Bool × GChk)) (zq:(List Val)->GChk->GTyp->Int->Option (Bool × GChk)) (zr:(List Val)->GChk->GTyp->Int->Option (Int × GChk)) (zQ:GChk->Int->Val->Int->Option (Bool × GChk)) (a_c:GChk) (a_x:GTyp) (a_v:Val) (zI:Int):Option (Bool × GChk) :=
 cal (zcn a_v (4:Int)) λy1=>jp (ι:=Bool) (λJ3=>br y1 (jp (ι:=Bool) (λJ6=>br a_x.con.more (J6 (true)) (cal (zdE a_x.con (a_v.l.length:Int)) λy8=>J6 (y8))) (λq5=>J3 (q5))) (J3 (false))) (λq2=>jp (ι:=Bool × GChk) (λJ10=>br q2 (cal (zq a_v.l a_c a_x zI) λy12=>J10 ((!y12.1),y12.2)) (J10 (false,a_c))) (λq9=>some (q9.1,q9.2)))
def zaG (zM:Val->GChk->GTyp->Int->Option (Bool × GChk)) (zS:GChk->Int->Val->Int->Option (Bool × GChk)) (zY:GChk->GTyp->Val->Int->Option (Bool × GChk)) (zq:(List Val)->GChk->GTyp->Int->Option (Bool × GChk)) (zr:(List Val)->GChk->GTyp->Int->Option (Int × GChk)) (zQ:GChk->Int->Val->Int->Option (Bool × GChk)) (a_s:(List Val)) (zdU:GChk) (zeT:GTyp) (zjw:Int):Option (Bool × GChk) :=
 cal (zr a_s zdU zeT zjw) λy1=>some ((decide ((0:Int) <= y1.1)),y1.2)
def zaP (zM:Val->GChk->GTyp->Int->Option (Bool × GChk)) (zS:GChk->Int->Val->Int->Option (Bool × GChk)) (zY:GChk->GTyp->Val->Int->Option (Bool × GChk)) (zq:(List Val)->GChk->GTyp->Int->Option (Bool × GChk)) (zr:(List Val)->GChk->GTyp->Int->Option (Int × GChk)) (zQ:GChk->Int->Val->Int->Option (Bool × GChk)) (a_s:(List Val)) (zdU:GChk) (zeT:GTyp) (zjw:Int):Option (Int × GChk) :=
 lp (ι:=Int × GChk) (λL2 q1=>br (decide (q1.1 < (a_s.length:Int))) (cal (getI a_s q1.1) λy6=>cal (zM y6 q1.2 zeT zjw) λy7=>br y7.1 (some (q1.1,y7.2)) (ck ((q1.1 + (1:Int))) <| L2 ((q1.1 + (1:Int)),y7.2))) (some ((-1:Int),q1.2))) (((0:Int),zdU))
def zcu (zM:Val->GChk->GTyp->Int->Option (Bool × GChk)) (zS:GChk->Int->Val->Int->Option (Bool × GChk)) (zY:GChk->GTyp->Val->Int->Option (Bool × GChk)) (zq:(List Val)->GChk->GTyp->Int->Option (Bool × GChk)) (zr:(List Val)->GChk->GTyp->Int->Option (Int × GChk)) (zQ:GChk->Int->Val->Int->Option (Bool × GChk)) (a_c:GChk) (a_i:Int) (a_v:Val) (zI:Int):Option (Bool × GChk) :=
 cal (getI a_c.tabled.t.types a_i) λy1=>cal (zcn a_v (12:Int)) λy3=>jp (ι:=Bool) (λJ5=>br (!y3) (J5 (true)) (J5 ((!decide ((a_v.l.length:Int)=(y1.fields.length:Int)))))) (λq4=>jp (ι:=Bool × GChk) (λJ8=>br q4 (J8 (true,a_c)) (cal (zdr a_c a_i a_v) λy10=>J8 ((!y10.1),y10.2))) (λq7=>br q7.1 (some (false,q7.2)) (lp (ι:=Int × GChk) (λL12 q11=>br (decide (q11.1 < (y1.fields.length:Int))) (jp (ι:=GChk) (λJ36=>cal (getI y1.fields q11.1) λy37=>cal (getI a_v.l q11.1) λy39=>br (decide (y39.kind=(0:Int))) (cal (zd5 y39) λy41=>jp (ι:=Bool) (λJ43=>br (!y41) (J43 (true)) (cal (zfo y1 q11.1) λy45=>J43 ((!y45)))) (λq42=>br q42 (some (false,q11.2)) (J36 (q11.2)))) (ck ((zI + (1:Int))) <| cal (zS q11.2 y37.ty y39 (zI + (1:Int))) λy47=>jp (ι:=Bool) (λJ49=>br (!y47.1) (J49 (true)) (jp (ι:=Bool) (λJ52=>br y37.has (cal (zf8 fuel y39 y37.dflt) λy54=>J52 (y54)) (J52 (false))) (λq51=>J49 (q51)))) (λq48=>br q48 (some (false,y47.2)) (J36 (y47.2))))) (λq35=>ck ((q11.1 + (1:Int))) <| L12 ((q11.1 + (1:Int)),q35))) (cal (zc3 q11.2 a_i a_v) λy56=>some (y56.1,y56.2))) (((0:Int),q7.2)))))
def za6:Nat->(Val->GChk->GTyp->Int->Option (Bool × GChk)) × (GChk->Int->Val->Int->Option (Bool × GChk)) × (GChk->GTyp->Val->Int->Option (Bool × GChk)) × ((List Val)->GChk->GTyp->Int->Option (Bool × GChk)) × ((List Val)->GChk->GTyp->Int->Option (Int × GChk)) × (GChk->Int->Val->Int->Option (Bool × GChk))
 | 0=>(λ_ _ _ _=>none,λ_ _ _ _=>none,λ_ _ _ _=>none,λ_ _ _ _=>none,λ_ _ _ _=>none,λ_ _ _ _=>none)
 | n + 1=>let p:=za6 n;(zcl p.1 p.2.1 p.2.2.1 p.2.2.2.1 p.2.2.2.2.1 p.2.2.2.2.2,zbT p.1 p.2.1 p.2.2.1 p.2.2.2.1 p.2.2.2.2.1 p.2.2.2.2.2,zc8 p.1 p.2.1 p.2.2.1 p.2.2.2.1 p.2.2.2.2.1 p.2.2.2.2.2,zaG p.1 p.2.1 p.2.2.1 p.2.2.2.1 p.2.2.2.2.1 p.2.2.2.2.2,zaP p.1 p.2.1 p.2.2.1 p.2.2.2.1 p.2.2.2.2.1 p.2.2.2.2.2,zcu p.1 p.2.1 p.2.2.1 p.2.2.2.1 p.2.2.2.2.1 p.2.2.2.2.2)
def zbl (n:Nat):Val->GChk->GTyp->Int->Option (Bool × GChk):=(za6 n).1
def za3 (n:Nat):GChk->Int->Val->Int->Option (Bool × GChk):=(za6 n).2.1
def zbW (n:Nat):GChk->GTyp->Val->Int->Option (Bool × GChk):=(za6 n).2.2.1
def zai (n:Nat):(List Val)->GChk->GTyp->Int->Option (Bool × GChk):=(za6 n).2.2.2.1
def zam (n:Nat):(List Val)->GChk->GTyp->Int->Option (Int × GChk):=(za6 n).2.2.2.2.1
def zbx (n:Nat):GChk->Int->Val->Int->Option (Bool × GChk):=(za6 n).2.2.2.2.2

def zeS (zgN:Val->Option (Int)) (a_v:Val):Option (Int) :=
 lp (ι:=Int × Int) (λL2 q1=>br (decide (q1.2 < (a_v.l.length:Int))) (cal (getI a_v.l q1.2) λy8=>cal (zgN y8) λy10=>ck ((q1.1 + y10)) <| ck ((q1.2 + (1:Int))) <| L2 ((q1.1 + y10),(q1.2 + (1:Int)))) (some (q1.1))) (((1:Int),(0:Int)))
def zjf:Nat->(Val->Option (Int))
 | 0=>(λ_=>none)
 | n + 1=>let p:=zjf n;(zeS p)
def zgB (n:Nat):Val->Option (Int):=(zjf n)

def zhu (a_t:GTab) (a_i:Int) (a_v:Val):Option (Bool) :=
 cal (za3 fuel (GChk.mk (GTbd.mk a_t) false) a_i a_v (1:Int)) λy2=>jp (ι:=Bool) (λJ4=>br y2.1 (cal (zgB fuel a_v) λy6=>J4 ((decide (y6 <= (5000:Int))))) (J4 (false))) (λq3=>some (q3))

def zec (zaU:Val->Option (Bool)) (zbG:Val->Option (Bool)) (zy:(List Val)->Option (Bool)) (zA:(List Val)->Option (Int)) (a_w_:Val):Option (Bool) :=
 cal (zbG a_w_) λy1=>some ((!y1))
def zfW (zaU:Val->Option (Bool)) (zbG:Val->Option (Bool)) (zy:(List Val)->Option (Bool)) (zA:(List Val)->Option (Int)) (a_v:Val):Option (Bool) :=
 jp (ι:=Bool) (λJ2=>br (!decide (a_v.kind=(12:Int))) (J2 ((decide ((a_v.more.length:Int)=(0:Int))))) (J2 (false))) (λq1=>jp (ι:=Bool) (λJ5=>br q1 (cal (zy a_v.l) λy7=>J5 ((!y7))) (J5 (false))) (λq4=>some (q4)))
def zaE (zaU:Val->Option (Bool)) (zbG:Val->Option (Bool)) (zy:(List Val)->Option (Bool)) (zA:(List Val)->Option (Int)) (a_s:(List Val)):Option (Bool) :=
 cal (zA a_s) λy1=>some ((decide ((0:Int) <= y1)))
def zaJ (zaU:Val->Option (Bool)) (zbG:Val->Option (Bool)) (zy:(List Val)->Option (Bool)) (zA:(List Val)->Option (Int)) (a_s:(List Val)):Option (Int) :=
 lp (ι:=Int) (λL2 q1=>br (decide (q1 < (a_s.length:Int))) (cal (getI a_s q1) λy6=>cal (zaU y6) λy7=>br y7 (some (q1)) (ck ((q1 + (1:Int))) <| L2 ((q1 + (1:Int))))) (some ((-1:Int)))) (((0:Int)))
def zdB:Nat->(Val->Option (Bool)) × (Val->Option (Bool)) × ((List Val)->Option (Bool)) × ((List Val)->Option (Int))
 | 0=>(λ_=>none,λ_=>none,λ_=>none,λ_=>none)
 | n + 1=>let p:=zdB n;(zec p.1 p.2.1 p.2.2.1 p.2.2.2,zfW p.1 p.2.1 p.2.2.1 p.2.2.2,zaE p.1 p.2.1 p.2.2.1 p.2.2.2,zaJ p.1 p.2.1 p.2.2.1 p.2.2.2)
def zeR (n:Nat):Val->Option (Bool):=(zdB n).1
def zes (n:Nat):Val->Option (Bool):=(zdB n).2.1
def zav (n:Nat):(List Val)->Option (Bool):=(zdB n).2.2.1
def zaO (n:Nat):(List Val)->Option (Int):=(zdB n).2.2.2

def zhv (zj8:Val->Option (Bool)) (a_v:Val):Option (Bool) :=
 jp (ι:=Bool) (λJ2=>br (decide (a_v.kind=(12:Int))) (J2 (true)) (J2 ((decide ((0:Int) < (a_v.more.length:Int)))))) (λq1=>br q1 (some (false)) (lp (ι:=Int) (λL5 q4=>br (decide (q4 < (a_v.l.length:Int))) (cal (getI a_v.l q4) λy9=>cal (zj8 y9) λy10=>br (!y10) (some (false)) (ck ((q4 + (1:Int))) <| L5 ((q4 + (1:Int))))) (some (true))) (((0:Int)))))
def zlx:Nat->(Val->Option (Bool))
 | 0=>(λ_=>none)
 | n + 1=>let p:=zlx n;(zhv p)
def zjV (n:Nat):Val->Option (Bool):=(zlx n)
end Go.Proofs.Q


namespace Go.Sy
theorem Opn.u8 {P:Program} {T:TypeId} (h:P.underlying T=some (.int .u8)):Opn P T UInt8 where
 op:=λht _=>by
  obtain ⟨n,rfl,_,hwf⟩:=DataW.trod_int h ht
  unfold Lit.wf at hwf
  rw [zBa] at hwf
  have h1:(0:Int) <= n:=zOT hwf.1
  have h2:n <= 255:=zOT hwf.2
  refine ⟨UInt8.ofNat n.toNat,?_⟩
  show [Value.int .u8 n]=[Value.int .u8 (((UInt8.ofNat n.toNat).toNat:Nat):Int)]
  rw [UInt8.toNat_ofNat',Nat.mod_eq_of_lt (by omega)]
  have:((n.toNat:Nat):Int)=n:=by omega
  rw [this]
 shape:=λ{_ _ _ v} hv=>by simp only [Value.okWide,h,Cell.okWide] at hv;cases v <;> simp_all [Cell.ok,Value.isAgg',Rep.agg]
structure OpB (P:Program) (T:TypeId) (α:Type) [Rep α] (N:Nat):Prop where
 op:∀ {H:Type} {enc:TypeId × Value->H} {W:World} {base:Nat} {spare:Nat->Bool} {held:Bool} {fuel:Nat} {cs:List Value} {x:DataW H × List MemPlace},
  fuel < N->DataW.trod enc P W base spare held fuel T cs=some x->(∀ k ∈ x.1.weights P T,k <= reachBytes)->∃ y:α,Rep.rd (snap W) cs y
theorem OpB.of {P:Program} {T:TypeId} {α:Type} [Rep α] {N:Nat} (h:Opn P T α):OpB P T α N:=⟨λ_ h1 h2=>h.op h1 h2⟩
theorem OpB.list {P:Program} {T e:TypeId} {α:Type} [Rep α] {N:Nat} (hu:P.underlying T=some (.slice e)) (ho:OpB P e α N) (hn:P.cellsOf e=Rep.n α) (hn0:Nat.blt 0 (Rep.n α)=true) (hb:Nat.blt 0 (P.bytesOf e)=true):OpB P T (List α) (N + 1) where
 op := λ{H enc W base spare held fuel cs x} hN ht hw=>by
  have hn0':0 < Rep.n α:=by simpa using hn0
  have hb':0 < P.bytesOf e:=by simpa using hb
  rcases DataW.trod_slice hu ht with ⟨rfl,_⟩ | ⟨a,len,cap,elems,rest,n,hfu,rfl,rfl,_,hlc,hcm,hel,hall,_,_⟩
  ·exact ⟨[],_,rfl,none,0,rfl,zNl _,zNz _,.inl rfl⟩
  have hwl:(elems.length + rest.length) * P.bytesOf e <= reachBytes:=hw _ (by simp [DataW.weights,hu])
  have hlenb:len <= maxList:=by
   have h1:(elems.length + rest.length) * 1 <= (elems.length + rest.length) * P.bytesOf e:=Nat.mul_le_mul_left _ hb'
   unfold reachBytes at hwl;unfold maxList;omega
  have each:∀ i,i < len->∃ ci,W.cells? base (a.add (i * Rep.n α)) (Rep.n α)=some ci/\∃ y:α,Rep.rd (snap W) ci y:=λi hi=>by
   have h1:=hall i hi
   rw [hn] at h1
   have hlt:i < elems.length:=by omega
   rw [List.getElem?_eq_getElem hlt,Option.bind_eq_some_iff] at h1
   obtain ⟨ci,h2,h3⟩:=h1
   refine ⟨ci,h2,ho.op (show n < N by omega) h3 λk hk=>hw k ?_⟩
   simp only [DataW.weights,hu]
   refine zMm _ (List.mem_append_left _ ?_)
   have:∀ (l:List (DataW H)) d,d ∈ l->∀ k ∈ d.weights P e,k ∈ DataW.weightsAll P e l:=by
    intro l
    induction l with
    | nil=>intro d hd;cases hd
    | cons b l ih =>
     intro d hd k hk
     simp only [DataW.weightsAll]
     rcases List.mem_cons.1 hd with h | h
     ·subst h;exact List.mem_append_left _ hk
     ·exact List.mem_append_right _ (ih d h k hk)
   exact this _ elems[i].1 (List.mem_map.2 ⟨_,List.getElem_mem hlt,rfl⟩) k hk
  by_cases h0:len=0
  ·subst h0
   exact ⟨[],_,rfl,some a,cap,rfl,zNz _,zNz _,.inl rfl⟩
  -- the block
  obtain ⟨c0,hc0,_⟩:=each 0 (by omega)
  have hadd0:a.add (0 * Rep.n α)=a:=by rw [Nat.zero_mul];rfl
  rw [hadd0] at hc0
  obtain ⟨_,hl0,hc0'⟩:=World.cells?_some hc0
  have hcell0:∃ v,W.cell? a=some v:=by
   have:=hc0' 0 hn0'
   have h2:∃ v,c0[0]?=some v:=⟨c0[0]'(by omega),List.getElem?_eq_getElem (by omega)⟩
   obtain ⟨v,hv⟩:=h2
   exact ⟨v,by rw [show a.add 0=a from rfl] at this;rw [this,hv]⟩
  obtain ⟨v0,hv0⟩:=hcell0
  obtain ⟨hspot,blk,hblk,_⟩:=zie hv0
  have hcellk:∀ i j,i < len->j < Rep.n α->∃ v,blk[a.off + (i * Rep.n α + j)]?=some v/\∀ ci,W.cells? base (a.add (i * Rep.n α)) (Rep.n α)=some ci->ci[j]?=some v:=λi j hi hj=>by
   obtain ⟨ci,h1,_⟩:=each i hi
   obtain ⟨_,hl,hc⟩:=World.cells?_some h1
   have h2:=hc j hj
   have h3:ci[j]?=some (ci[j]'(by omega)):=List.getElem?_eq_getElem (by omega)
   rw [h3] at h2
   obtain ⟨_,blk',hb1,hb2⟩:=zie h2
   have hbb:((a.add (i * Rep.n α)).add j).block=a.block/\((a.add (i * Rep.n α)).add j).off=a.off + (i * Rep.n α + j) :=
    ⟨(zjX _ _).1.trans (zjX _ _).1,by rw [(zjX _ _).2,(zjX _ _).2];omega⟩
   rw [hbb.1] at hb1
   rw [hblk] at hb1;cases hb1
   rw [hbb.2] at hb2
   exact ⟨_,hb2,λci' h'=>by rw [h1] at h';cases h';exact h3⟩
  have hbl:a.off + len * Rep.n α <= blk.length:=by
   obtain ⟨v,hv,_⟩:=hcellk (len - 1) (Rep.n α - 1) (by omega) (by omega)
   have:=(List.getElem?_eq_some_iff.1 hv).1
   have e:(len - 1) * Rep.n α + (Rep.n α - 1) + 1=len * Rep.n α:=by
    obtain ⟨m,rfl⟩:∃ m,len=m + 1:=⟨len - 1,by omega⟩
    rw [Nat.add_sub_cancel,Nat.add_mul];omega
   omega
  have hcs:∀ i,i < len->W.cells? base (a.add (i * Rep.n α)) (Rep.n α)=some ((blk.drop (a.off + i * Rep.n α)).take (Rep.n α)):=λi hi=>by
   obtain ⟨ci,h1,_⟩:=each i hi
   rw [h1]
   obtain ⟨_,hl,_⟩:=World.cells?_some h1
   congr 1
   apply List.ext_getElem?
   intro j
   by_cases hj:j < Rep.n α
   ·obtain ⟨v,hv,h2⟩:=hcellk i j hi hj
    rw [h2 ci h1,List.getElem?_take,if_pos hj,List.getElem?_drop,<- hv,Nat.add_assoc]
   ·rw [List.getElem?_eq_none (by omega),List.getElem?_eq_none (by rw [zLt];omega)]
  obtain ⟨ys,hy1,hy2⟩:=zjN (r:=Rep.rd (snap W)) ((List.range len).map λi=>(blk.drop (a.off + i * Rep.n α)).take (Rep.n α)) λc hc=>by
   obtain ⟨i,hi,rfl⟩:=List.mem_map.1 hc
   have hi':=List.mem_range.1 hi
   obtain ⟨ci,h1,h2⟩:=each i hi'
   rw [hcs i hi'] at h1;cases h1
   exact h2
  have hyl:ys.length=len:=by simpa using hy1
  have hflat:∀ m,m <= len->((List.range m).map λi=>(blk.drop (a.off + i * Rep.n α)).take (Rep.n α)).flatten=(blk.drop a.off).take (m * Rep.n α):=by
   intro m
   induction m with
   | zero=>simp
   | succ m ih =>
    intro hm
    rw [List.range_succ,List.map_append,List.flatten_append,ih (by omega),Nat.add_mul,Nat.one_mul,List.take_add,List.drop_drop]
    simp
  rw [hflat len (zNl _)] at hy2
  subst hyl
  refine ⟨ys,_,rfl,some a,cap,rfl,hlc,hlenb,.inr ⟨a,(blk.drop a.off).take (ys.length * Rep.n α),rfl,⟨hspot,blk,hblk,λj u hj=>?_⟩,?_,hy2⟩⟩
  ·rw [List.getElem?_take] at hj
   split at hj
   ·rw [List.getElem?_drop] at hj;exact hj
   ·cases hj
  ·rw [zLt,zLd];omega

/-! ### A law's statement -/
/-- The parts of a struct, one behind the other, in so many steps. -/
inductive OpBs (P:Program) (N:Nat):List Field->Nat->(σ:Type)->[Rep σ]->Prop
 | one {α:Type} [Rep α] {f:Field}:OpB P f.type α N->P.cellsOf f.type=Rep.n α->OpBs P N [f] f.offset α
 | cons {α β:Type} [Rep α] [Rep β] {f:Field} {fs:List Field}:OpB P f.type α N->P.cellsOf f.type=Rep.n α->OpBs P N fs (f.offset + Rep.n α) β->OpBs P N (f :: fs) f.offset (α × β)
theorem OpBs.op {P:Program} {N:Nat} {fs:List Field} {off:Nat} {σ:Type} [I:Rep σ] (h:OpBs P N fs off σ) {H:Type} {enc:TypeId × Value->H} {W:World} {base:Nat} {spare:Nat->Bool} {held:Bool} {fuel:Nat} {cs:List Value} (hN:fuel < N)
    (hf:∀ f ∈ fs,∃ x,DataW.trod enc P W base spare held fuel f.type ((cs.drop f.offset).take (P.cellsOf f.type))=some x/\∀ k ∈ x.1.weights P f.type,k <= reachBytes) :
    ∃ y:σ,Rep.rd (snap W) ((cs.drop off).take (Rep.n σ)) y:=by
  induction h with
  | one ho hn =>
    obtain ⟨x,h1,h2⟩:=hf _ (zMs ..)
    rw [hn] at h1
    exact ho.op hN h1 h2
  | @cons α β _ _ f fs ho hn _ ih =>
    obtain ⟨x,h1,h2⟩:=hf _ (zMs ..)
    rw [hn] at h1
    obtain ⟨y1,k1⟩:=ho.op hN h1 h2
    obtain ⟨y2,k2⟩:=ih λg hg=>hf g (zMm _ hg)
    refine ⟨(y1,y2),_,_,?_,k1,k2⟩
    show (cs.drop f.offset).take (Rep.n α + Rep.n β)=_
    rw [List.take_add,List.drop_drop]
theorem Opn.val {P:Program} {T:TypeId} {fs:Array Field} (hu:P.underlying T=some (.struct fs)) (hn:P.cellsOf T=6)
    (hof:∀ N,OpB P T Val N->OpBs P (N + 1) fs.toList 0 (Int × Int × List UInt8 × List Val × Int × List Raw)):Opn P T Val:=by
  have key:∀ N,OpB P T Val N:=by
    intro N
    induction N with
    | zero=>exact ⟨λh=>absurd h (Nat.not_lt_zero _)⟩
    | succ N ih =>
      refine ⟨λ{H enc W base spare held fuel cs x} hN ht hw=>?_⟩
      obtain ⟨xs,n,hfu,hx,hl,hxl,hx2⟩:=DataW.trod_struct hu ht
      have:=(hof N ih).op (enc:=enc) (W:=W) (base:=base) (spare:=spare) (held:=held) (fuel:=n) (cs:=cs) (by omega) λf hf=>by
        obtain ⟨i,hi⟩:=List.mem_iff_getElem?.1 hf
        have hi':fs[i]?=some f:=by simpa using hi
        have h1:=hx2 i f hi'
        have hlt:i < xs.length:=by rw [hxl];exact (Array.getElem?_eq_some_iff.1 hi').1
        refine ⟨xs[i],by rw [h1,List.getElem?_eq_getElem hlt],λk hk=>hw k ?_⟩
        rw [hx,zmr hu]
        exact DataW.weights_mem_each (j:=i) (t:=f.type) (d:=xs[i].1) (by rw [List.getElem?_map,hi];rfl) (by rw [List.getElem?_map,List.getElem?_eq_getElem hlt];rfl) k hk
      obtain ⟨⟨k,n',b,l,r,m⟩,hy⟩:=this
      refine ⟨Val.mk k n' b l r m,Val.rd_to.2 ?_⟩
      rw [hn] at hl
      have e:(cs.drop 0).take (Rep.n (Int × Int × List UInt8 × List Val × Int × List Raw))=cs:=by
        rw [List.drop_zero]
        exact zTl (by rw [hl];exact zNl _)
      rw [e] at hy
      exact hy
  exact ⟨λ{H enc W base spare held fuel cs x} ht hw=>(key (fuel + 1)).op (Nat.lt_succ_self _) ht hw,λ{_ _ _ v} hv=>by
    simp only [Value.okWide,hu] at hv
    obtain ⟨cs,rfl,_⟩:=hv
    rfl⟩
inductive FineM:Val->Prop
 | mk {v:Val}:v.b.length <= 281474976710656->v.l.length <= 281474976710656->v.more.length <= 281474976710656->(∀ r ∈ v.more,r.b.length <= 281474976710656)->(∀ w ∈ v.l,FineM w)->FineM v
theorem FineM.b {v:Val} (h:FineM v):v.b.length <= 281474976710656:=by cases h;assumption
theorem FineM.l {v:Val} (h:FineM v):v.l.length <= 281474976710656:=by cases h;assumption
theorem FineM.more {v:Val} (h:FineM v):v.more.length <= 281474976710656:=by cases h;assumption
theorem FineM.raw {v:Val} (h:FineM v):∀ r ∈ v.more,r.b.length <= 281474976710656:=by cases h;assumption
theorem FineM.kid {v:Val} (h:FineM v):∀ w ∈ v.l,FineM w:=by cases h;assumption
theorem zmO {α:Type} {r:List Value->α->Prop}:∀ {l:List α} {cs:List Value},rdL r l cs->∀ x ∈ l,∃ c,r c x
 | [],_,_,x,h=>by cases h
 | y :: l,_,⟨c1,c2,_,h1,h2⟩,x,h=>by
  rcases List.mem_cons.1 h with e | e
  ·exact ⟨c1,e ▸ h1⟩
  ·exact zmO h2 x e
theorem zre {S:Frz}:∀ (n:Nat) (v:Val),SizeOf.sizeOf v <= n->∀ cs,rdVal S v cs->FineM v:=by
 intro n
 induction n with
 | zero=>intro ⟨k,n,b,l,r,m⟩ h;rw [Val.mk.sizeOf_spec] at h;omega
 | succ n ih =>
  intro ⟨k,n',b,l,r,m⟩ hn cs h
  unfold rdVal at h
  obtain ⟨vb,vl,vm,_,_,_,_,⟨_,_,_,_,hb,_⟩,⟨_,_,_,_,hm,hm2⟩,⟨_,_,_,_,hl,hl2⟩⟩:=h
  have hm':m.length <= 281474976710656:=hm
  refine .mk hb hl hm' (λx hx=>?_) λw hw=>?_
  ·rcases hm2 with hm2 | ⟨_,_,_,_,_,hm2⟩
   ·rw [show m=[] from hm2] at hx;cases hx
   ·obtain ⟨c,hc⟩:=zmO hm2 x hx
    obtain ⟨c1,c2,_,_,⟨_,_,_,_,_,_,h3,_⟩⟩:=hc
    exact h3
  ·rcases hl2 with hl2 | ⟨_,c,_,_,_,hl2⟩
   ·rw [show l=[] from hl2] at hw;cases hw
   ·obtain ⟨c,hc⟩:=zmO (zf7.1 hl2) w hw
    refine ih w ?_ c hc
    have:=List.sizeOf_lt_of_mem (show w ∈ l from hw)
    rw [Val.mk.sizeOf_spec] at hn
    omega
theorem ztW {S:Frz} {u:Value} {v:Val} (h:(isv v).p S u):FineM v:=zre _ v (zNl _) _ h.2
end Go.Sy


namespace Go.Proofs.Q
open Go.Sy
set_option linter.unusedVariables false

theorem Val.eta (v:Val):Val.mk v.kind v.n v.b v.l v.rule v.more=v:=by cases v;rfl
theorem Val.lt {v w:Val} (h:w ∈ v.l):SizeOf.sizeOf w < SizeOf.sizeOf v:=by
 obtain ⟨k,n,b,l,r,m⟩:=v
 have h1:=List.sizeOf_lt_of_mem (show w ∈ l from h)
 rw [Val.mk.sizeOf_spec]
 omega
theorem znk {α β:Type} (l:List α) (f:α->β):(l.attach.map λw=>f w.1)=l.map f:=by simp
inductive Fine:Val->Prop
 | mk {v:Val}:v.b.length <= 68719476736->v.l.length <= 68719476736->v.more.length <= 68719476736->(∀ r ∈ v.more,r.b.length <= 68719476736)->(∀ w ∈ v.l,Fine w)->Fine v
theorem Fine.b {v:Val} (h:Fine v):v.b.length <= 68719476736:=by cases h;assumption
theorem Fine.l {v:Val} (h:Fine v):v.l.length <= 68719476736:=by cases h;assumption
theorem Fine.more {v:Val} (h:Fine v):v.more.length <= 68719476736:=by cases h;assumption
theorem Fine.raw {v:Val} (h:Fine v):∀ r ∈ v.more,r.b.length <= 68719476736:=by cases h;assumption
theorem Fine.kid {v:Val} (h:Fine v):∀ w ∈ v.l,Fine w:=by cases h;assumption
def cnt (v:Val):Nat:=1 + (v.l.attach.map λw=>cnt w.1).sum
termination_by SizeOf.sizeOf v
decreasing_by exact Val.lt w.2
theorem zhk (v:Val):cnt v=1 + (v.l.map cnt).sum:=by
 rw [cnt]
 congr 2
 exact znk v.l cnt
def bare (v:Val):Bool:=!(decide (v.kind=12) || decide (0 < v.more.length)) && (v.l.attach.map λw=>bare w.1).all id
termination_by SizeOf.sizeOf v
decreasing_by exact Val.lt w.2
theorem zoF (v:Val):bare v=(!(decide (v.kind=12) || decide (0 < v.more.length)) && (v.l.map bare).all id):=by
 rw [bare]
 congr 2
 exact znk v.l bare
theorem zgp (v:Val):0 < cnt v:=by rw [zhk];omega
theorem zmU {α:Type} {f:α->Nat}:∀ {l:List α} {x:α},x ∈ l->f x <= (l.map f).sum
 | [],x,h=>by cases h
 | y :: r,x,h=>by
  rw [List.map_cons,List.sum_cons]
  rcases List.mem_cons.1 h with e | e
  ·rw [e];omega
  ·have:=zmU (f:=f) e
   omega
theorem zoI {α:Type} {f:α->Nat} (hf:∀ x,0 < f x):∀ {l:List α},l.length <= (l.map f).sum
 | []=>zNl _
 | y :: r=>by
  have:=zoI hf (l:=r)
  have:=hf y
  rw [List.map_cons,List.sum_cons,zLc]
  omega
theorem zdh {v w:Val} (h:w ∈ v.l):cnt w + 1 <= cnt v:=by
 rw [zhk v]
 have:=zmU (f:=cnt) h
 omega
theorem zuM (v:Val):v.l.length + 1 <= cnt v:=by
 rw [zhk v]
 have:=zoI zgp (l:=v.l)
 omega
theorem T.or' {β:Type} {R:β->Prop} {c d:Bool} {K:Bool->Option β} (hK:T R (K (c || d))):T R (Sy.jp (λJ=>Sy.br c (J true) (J d)) K):=by cases c <;> exact hK
theorem T.and' {β:Type} {R:β->Prop} {c d:Bool} {K:Bool->Option β} (hK:T R (K (c && d))):T R (Sy.jp (λJ=>Sy.br c (J d) (J false)) K):=by cases c <;> exact hK
theorem zps {a b:Nat} (h:(!decide ((a:Int)=(b:Int)))=false):a=b:=by
 have:(a:Int)=b:=by simpa using h
 omega
theorem T.andI {β:Type} {R:β->Prop} {P Q:Prop} {c:Bool} {M:(Bool->Option β)->Option β} {K:Bool->Option β} (hc:c=true ↔ P) (hM:∀ J:Bool->Option β,(∀ b,(b=true ↔ Q)->T R (J b))->T R (M J)) (hK:∀ b:Bool,(b=true ↔ P/\Q)->T R (K b)) :
    T R (Sy.jp (λJ=>Sy.br c (M J) (J false)) K):=by
  cases c with
  | true=>exact hM K λb hb=>hK b (by rw [hb];exact ⟨λh=>⟨hc.1 rfl,h⟩,λh=>h.2⟩)
  | false=>exact hK false ⟨λh=>(by cases h),λh=>by have:=hc.2 h.1;cases this⟩
theorem zlH {α:Type} {E:α->α->Option Bool} {F:(Int->Option Bool)->Int->Option Bool} (a b:List α) (ha:a.length <= 68719476736) (hE:∀ x ∈ a,∀ y,T (λr=>r=true ↔ x=y) (E x y))
    (hF:∀ (L:Int->Option Bool) (q:Int),F L q=Sy.br (decide (q < (a.length:Int))) (Sy.cal (getI a q) λy=>Sy.cal (getI b q) λz=>Sy.cal (E y z) λw=>Sy.br (!w) (some false) (Sy.ck (q + 1) <| L (q + 1))) (some true)) :
    T (λr=>r=true ↔ a=b) (Sy.br (!decide ((a.length:Int)=(b.length:Int))) (some false) (Sy.lp F (0:Int))):=by
  refine T.br (λh=>T.some ⟨λh=>(by cases h),λe=>?_⟩) λh=>?_
  · subst e
    simp at h
  have hl:a.length=b.length:=zps h
  refine T.lp (λ(q:Int)=>0 <= q/\q <= (a.length:Int)/\∀ i:Nat,(i:Int) < q->a[i]?=b[i]?) (λ(q:Int)=>((a.length:Int) - q).toNat) ⟨zIl _,by omega,λi h=>by omega⟩ (by omega) λL q ⟨h1,h2,h3⟩ hL=>?_
  rw [hF]
  refine T.br (λhb=>?_) λhb=>T.some ⟨λ_=>?_,λ_=>rfl⟩
  · have hb:=zOT hb
    refine T.get h1 hb λy hy=>T.get h1 (by omega) λz hz=>T.cal (hE y (List.mem_of_getElem? hy) z) λw _ hw=>T.br (λhe=>T.some ⟨λh=>(by cases h),λe=>?_⟩) λhe=>T.ck (by omega) (hL _ ⟨by omega,by omega,λi hi=>?_⟩ (by omega))
    · subst e
      rw [hy] at hz;cases hz
      rw [hw.2 rfl] at he;cases he
    · have he:y=z:=hw.1 (by simpa using he)
      rcases Int.lt_or_le (i:Int) q with h | h
      · exact h3 i h
      · have:i=q.toNat:=by omega
        rw [this,hy,hz,he]
  · have hb:=zOF hb
    refine List.ext_getElem? λi=>?_
    rcases Nat.lt_or_ge i a.length with h | h
    · exact h3 i (by omega)
    · rw [List.getElem?_eq_none h,List.getElem?_eq_none (by omega)]
theorem zud (x y:Raw):T (λr=>r=true ↔ x=y) (zp0 x y):=by
 unfold zp0
 refine T.andI (P:=x.n=y.n) (Q:=x.b=y.b) decide_eq_true_iff (λJ kk=>T.eq (y:=decide (Str.mk x.b=Str.mk y.b)) rfl (kk _ ?_)) λb hb=>T.some ?_
 ·rw [decide_eq_true_iff]
  exact ⟨λh=>congrArg Str.b h,λh=>by rw [h]⟩
 ·rw [hb]
  obtain ⟨a,b⟩:=x
  obtain ⟨c,d⟩:=y
  exact ⟨λ⟨h1,h2⟩=>(by cases h1;cases h2;rfl),λh=>by cases h;exact ⟨rfl,rfl⟩⟩
theorem zny:∀ {k n:Nat} {f:Val},cnt f <= k->2 * k <= n->Fine f->∀ g,T (λr=>r=true ↔ f=g) (zi9 n f g):=by
 intro k
 induction k with
 | zero=>intro n f h;have:=zgp f;omega
 | succ k ih =>
  intro n f hk hn hf g
  obtain ⟨n,rfl⟩:∃ n',n=n' + 2:=⟨n - 2,by omega⟩
  show T _ (zix (zga (n + 1)) (zi9 (n + 1)) f g)
  unfold zix
  refine T.andI (P:=f.kind=g.kind) (Q:=f.n=g.n) decide_eq_true_iff (λJ kk=>kk _ decide_eq_true_iff) λb1 h1=>?_
  refine T.andI (Q:=f.b=g.b) h1 (λJ kk=>T.eq (y:=decide (Str.mk f.b=Str.mk g.b)) rfl (kk _ ?_)) λb2 h2=>?_
  ·rw [decide_eq_true_iff]
   exact ⟨λh=>congrArg Str.b h,λh=>by rw [h]⟩
  refine T.andI (Q:=f.l=g.l) h2 (λJ kk=>T.cal (Q:=λr=>r=true ↔ f.l=g.l) ?_ λr _ hr=>kk _ hr) λb3 h3=>?_
  ·show T _ (zdo (zga n) (zi9 n) f.l g.l)
   unfold zdo
   exact zlH f.l g.l hf.l (λx hx y=>ih (by have:=zdh hx;omega) (by omega) (hf.kid x hx) y) λL q=>rfl
  refine T.andI (Q:=f.rule=g.rule) h3 (λJ kk=>kk _ decide_eq_true_iff) λb4 h4=>?_
  refine T.andI (Q:=f.more=g.more) h4 (λJ kk=>T.cal (Q:=λr=>r=true ↔ f.more=g.more) ?_ λr _ hr=>kk _ hr) λb5 h5=>T.some ?_
  ·unfold zfQ
   exact zlH f.more g.more hf.more (λx hx y=>zud x y) λL q=>rfl
  ·rw [h5,<- Val.eta f,<- Val.eta g]
   constructor
   ·rintro ⟨⟨⟨⟨⟨e1,e2⟩,e3⟩,e4⟩,e5⟩,e6⟩
    simp only [Val.eta] at e1 e2 e3 e4 e5 e6
    rw [e1,e2,e3,e4,e5,e6]
   ·intro h
    rw [Val.eta,Val.eta] at h
    subst h
    exact ⟨⟨⟨⟨⟨rfl,rfl⟩,rfl⟩,rfl⟩,rfl⟩,rfl⟩
theorem zsO:∀ {n:Nat} {v:Val},cnt v <= n->Fine v->zjV n v=some (bare v):=by
 intro n
 induction n with
 | zero=>intro v h;have:=zgp v;omega
 | succ n ih =>
  intro v hn hf
  refine T.eqs ?_
  show T _ (zhv (zjV n) v)
  unfold zhv
  have hfl:=hf.l
  rw [zoF]
  refine T.or' (T.br (λh=>T.some ?_) λh=>?_)
  ·have:(decide (v.kind=12) || decide (0 < v.more.length))=true:=by
    rw [<- h];congr 1;rw [decide_eq_decide];omega
   rw [this];rfl
  have hno:(decide (v.kind=12) || decide (0 < v.more.length))=false:=by
   rw [<- h];congr 1;rw [decide_eq_decide];omega
  rw [hno]
  refine T.lp (λ(q:Int)=>0 <= q/\q <= (v.l.length:Int)/\((v.l.take q.toNat).map bare).all id=true) (λ(q:Int)=>((v.l.length:Int) - q).toNat) ⟨zIl _,by omega,rfl⟩ (by omega) λL q ⟨q1,q2,q3⟩ hL=>T.br (λhb=>?_) λhb=>T.some ?_
  ·have hb:=zOT hb
   refine T.get q1 hb λy hy=>?_
   have hm:=List.mem_of_getElem? hy
   have hk:=zdh hm
   refine T.eq (ih (by omega) (hf.kid _ hm)) (T.br (λh2=>T.some ?_) λh2=>T.ck (by omega) (hL _ ⟨by omega,by omega,?_⟩ (by omega)))
   ·have h2:bare y=false:=by simpa using h2
    have:(v.l.map bare).all id=false:=by
     rw [List.all_eq_false]
     exact ⟨bare y,List.mem_map.2 ⟨y,hm,rfl⟩,by rw [h2];decide⟩
    rw [this];rfl
   ·have h2:bare y=true:=by simpa using h2
    have e:(q + 1).toNat=q.toNat + 1:=by omega
    rw [e,List.take_add_one,hy,List.map_append,List.all_append,q3]
    show (true && (bare y && true))=true
    rw [h2];rfl
  ·have hb:=zOF hb
   rw [zTl (by omega)] at q3
   rw [q3];rfl
theorem zsM:∀ {m n:Nat} {v:Val} {left:Int},0 <= left->left < m->left <= 100000->m <= n->FineM v->T (λr=>r.1=true->0 <= r.2/\r.2 + cnt v <= left/\Fine v) (zlq n v left):=by
 intro m
 induction m with
 | zero=>intro n v left h1 h2;omega
 | succ m ih =>
  intro n v left h1 h2 h3 hn hf
  obtain ⟨n,rfl⟩:∃ n',n=n' + 1:=⟨n - 1,by omega⟩
  show T _ (ziu (zlq n) v left)
  unfold ziu
  have hb:=hf.b
  have hm:=hf.more
  have hl:=hf.l
  have e1:((v.b.length:Int).tdiv 50)=(v.b.length:Int) / 50:=Int.tdiv_eq_ediv_of_nonneg (by omega)
  rw [e1]
  refine T.asr (by decide) (T.ck (by omega) (T.ck (by omega) (T.ck (by omega) (T.ck (by omega) ?_))))
  refine T.lp (ι:=Int × Int) (λq=>0 <= q.1/\q.1 <= (v.more.length:Int)/\q.2 <= left - 1 - (v.b.length:Int) / 50 - (v.more.length:Int)/\-1000000000000000 <= q.2/\∀ k:Nat,(k:Int) < q.1->∀ r:Raw,v.more[k]?=some r->q.2 + (r.b.length:Int) / 50 <= left) (λq=>((v.more.length:Int) - q.1).toNat) ⟨zIl _,by dsimp only;omega,by dsimp only;omega,by dsimp only;omega,λk hk=>by dsimp only at hk;omega⟩ (by dsimp only;omega) λL q ⟨q1,q2,q3,q4,q5⟩ hL=>?_
  obtain ⟨i,lf⟩:=q
  dsimp only at q1 q2 q3 q4 q5 hL ⊢
  refine T.and' (T.br (λhc=>?_) λhc=>?_)
  ·rw [zBa] at hc
   have c1:=zOT hc.1
   have c2:=zOT hc.2
   refine T.get q1 c1 λr hr=>?_
   have hrb:=hf.raw r (List.mem_of_getElem? hr)
   have e2:((r.b.length:Int).tdiv 50)=(r.b.length:Int) / 50:=Int.tdiv_eq_ediv_of_nonneg (by omega)
   rw [e2]
   refine T.asr (by decide) (T.ck (by omega) (T.ck (by omega) (T.ck (by omega) (hL _ ⟨by dsimp only;omega,by dsimp only;omega,by dsimp only;omega,by dsimp only;omega,λk hk r' hr'=>?_⟩ (by dsimp only;omega)))))
   dsimp only at hk ⊢
   rcases Int.lt_or_le (k:Int) i with h4 | h4
   ·have:=q5 k h4 r' hr'
    omega
   ·have:k=i.toNat:=by omega
    rw [this,hr] at hr';cases hr'
    omega
  refine T.br (λ_=>T.some λh=>by cases h) λh0=>?_
  have h0:=zOF h0
  have hall:i=(v.more.length:Int):=by
   rw [Bool.and_eq_false_iff] at hc
   rcases hc with hc | hc
   ·have:=zOF hc;omega
   ·have:=zOF hc;omega
  clear hL
  have hraw:∀ r ∈ v.more,r.b.length <= 68719476736:=λr hr=>by
   obtain ⟨k,hk⟩:=List.mem_iff_getElem?.1 hr
   have hlt:=(List.getElem?_eq_some_iff.1 hk).1
   have:=q5 k (by omega) r hk
   omega
  refine T.lp (ι:=Int × Int) (λp=>0 <= p.1/\p.1 <= (v.l.length:Int)/\0 <= p.2/\p.2 + (((v.l.take p.1.toNat).map cnt).sum:Nat) <= lf/\∀ k:Nat,(k:Int) < p.1->∀ w,v.l[k]?=some w->Fine w) (λp=>((v.l.length:Int) - p.1).toNat) ⟨zIl _,by dsimp only;omega,by dsimp only;omega,by show lf + ((([]:List Val).map cnt).sum:Nat) <= lf;simp,λk hk=>by dsimp only at hk;omega⟩ (by dsimp only;omega) λL p ⟨p1,p2,p3,p4,p5⟩ hL=>?_
  obtain ⟨j,lg⟩:=p
  dsimp only at p1 p2 p3 p4 p5 hL ⊢
  refine T.br (λhc=>?_) λhc=>T.some λ_=>⟨p3,?_,?_⟩
  ·have hc:=zOT hc
   refine T.get p1 hc λy hy=>?_
   refine T.cal (ih p3 (by omega) (by omega) (by omega) (hf.kid y (List.mem_of_getElem? hy))) λr _ hr=>T.br (λ_=>T.some λh=>by cases h) λhr2=>?_
   obtain ⟨r1,r2,r3⟩:=hr (by simpa using hr2)
   have e:(j + 1).toNat=j.toNat + 1:=by omega
   refine T.ck (by omega) (hL _ ⟨by dsimp only;omega,by dsimp only;omega,r1,?_,λk hk w hw=>?_⟩ (by dsimp only;omega))
   ·dsimp only
    rw [e,List.take_add_one,hy,List.map_append,List.sum_append]
    simp only [Option.toList_some,List.map_cons,List.map_nil,List.sum_cons,List.sum_nil]
    omega
   ·dsimp only at hk
    rcases Int.lt_or_le (k:Int) j with h4 | h4
    ·exact p5 k h4 w hw
    ·have:k=j.toNat:=by omega
     rw [this,hy] at hw;cases hw
     exact r3
  ·have hc:=zOF hc
   rw [zTl (by omega)] at p4
   rw [zhk]
   omega
  ·have hc:=zOF hc
   have hcl:v.l.length <= 68719476736:=by
    rw [zTl (by omega)] at p4
    have:=zoI zgp (l:=v.l)
    omega
   refine .mk (by omega) hcl (by omega) hraw λw hw=>?_
   obtain ⟨k,hk⟩:=List.mem_iff_getElem?.1 hw
   have hlt:=(List.getElem?_eq_some_iff.1 hk).1
   exact p5 k (by omega) w hk
theorem zsz {v:Val} (hf:FineM v):T (λr=>r=true->cnt v <= 2000/\Fine v) (zlz v 2000):=by
 unfold zlz
 exact T.cal (zsM (m:=2001) (by decide) (by decide) (by decide) (by unfold fuel;omega) hf) λr _ hr=>T.some λh=>by
  obtain ⟨h1,h2,h3⟩:=hr h
  exact ⟨by omega,h3⟩
theorem zqM:∀ {n:Nat} {v:Val},cnt v <= n->cnt v <= 1000000->Fine v->zij n v=some (cnt v:Int):=by
 intro n
 induction n with
 | zero=>intro v h;have:=zgp v;omega
 | succ n ih =>
  intro v hn h6 hf
  refine T.eqs ?_
  show T _ (zgE (zij n) v)
  unfold zgE
  have hfl:=hf.l
  have hc:=zhk v
  refine T.lp (ι:=Int × Int) (λq=>0 <= q.2/\q.2 <= (v.l.length:Int)/\q.1=1 + (((v.l.take q.2.toNat).map cnt).sum:Nat)) (λq=>((v.l.length:Int) - q.2).toNat) ⟨zIl _,by dsimp only;omega,by show (1:Int)=1 + ((([]:List Val).map cnt).sum:Nat);simp⟩ (by dsimp only;omega) λL q ⟨q1,q2,q3⟩ hL=>?_
  obtain ⟨c,i⟩:=q
  dsimp only at q1 q2 q3 hL ⊢
  refine T.br (λhb=>?_) λhb=>T.some ?_
  ·have hb:=zOT hb
   refine T.get q1 hb λy hy=>?_
   have hm:=List.mem_of_getElem? hy
   have hk:=zdh hm
   have e:(i + 1).toNat=i.toNat + 1:=by omega
   have hs:((v.l.take (i.toNat + 1)).map cnt).sum=((v.l.take i.toNat).map cnt).sum + cnt y:=by
    rw [List.take_add_one,hy,List.map_append,List.sum_append]
    simp
   have hle:((v.l.take (i.toNat + 1)).map cnt).sum <= (v.l.map cnt).sum:=by
    conv=>rhs;rw [<- List.take_append_drop (i.toNat + 1) v.l]
    rw [List.map_append,List.sum_append]
    omega
   refine T.eq (ih (by omega) (by omega) (hf.kid _ hm)) (T.ck (by omega) (T.ck (by omega) (hL _ ⟨by dsimp only;omega,by dsimp only;omega,?_⟩ (by dsimp only;omega))))
   dsimp only
   rw [e,hs,q3]
   omega
  ·have hb:=zOF hb
   rw [zTl (by omega)] at q3
   rw [q3,hc]
   omega
theorem zsD:∀ {n:Nat} {v:Val},cnt v <= n->cnt v <= 1000000->Fine v->zgB n v=some (cnt v:Int):=by
 intro n
 induction n with
 | zero=>intro v h;have:=zgp v;omega
 | succ n ih =>
  intro v hn h6 hf
  refine T.eqs ?_
  show T _ (zeS (zgB n) v)
  unfold zeS
  have hfl:=hf.l
  have hc:=zhk v
  refine T.lp (ι:=Int × Int) (λq=>0 <= q.2/\q.2 <= (v.l.length:Int)/\q.1=1 + (((v.l.take q.2.toNat).map cnt).sum:Nat)) (λq=>((v.l.length:Int) - q.2).toNat) ⟨zIl _,by dsimp only;omega,by show (1:Int)=1 + ((([]:List Val).map cnt).sum:Nat);simp⟩ (by dsimp only;omega) λL q ⟨q1,q2,q3⟩ hL=>?_
  obtain ⟨c,i⟩:=q
  dsimp only at q1 q2 q3 hL ⊢
  refine T.br (λhb=>?_) λhb=>T.some ?_
  ·have hb:=zOT hb
   refine T.get q1 hb λy hy=>?_
   have hm:=List.mem_of_getElem? hy
   have hk:=zdh hm
   have e:(i + 1).toNat=i.toNat + 1:=by omega
   have hs:((v.l.take (i.toNat + 1)).map cnt).sum=((v.l.take i.toNat).map cnt).sum + cnt y:=by
    rw [List.take_add_one,hy,List.map_append,List.sum_append]
    simp
   have hle:((v.l.take (i.toNat + 1)).map cnt).sum <= (v.l.map cnt).sum:=by
    conv=>rhs;rw [<- List.take_append_drop (i.toNat + 1) v.l]
    rw [List.map_append,List.sum_append]
    omega
   refine T.eq (ih (by omega) (by omega) (hf.kid _ hm)) (T.ck (by omega) (T.ck (by omega) (hL _ ⟨by dsimp only;omega,by dsimp only;omega,?_⟩ (by dsimp only;omega))))
   dsimp only
   rw [e,hs,q3]
   omega
  ·have hb:=zOF hb
   rw [zTl (by omega)] at q3
   rw [q3,hc]
   omega
def pln (v:Val) (n b l m:Bool):Bool:=(n || decide (v.n=0)) && (b || decide ((v.b.length:Int)=0)) && (l || decide ((v.l.length:Int)=0)) && (m || (decide (v.rule=0) && decide ((v.more.length:Int)=0)))
theorem T.andJ {β:Type} {R:β->Prop} {c d:Bool} {M:(Bool->Option β)->Option β} {K:Bool->Option β} (hM:∀ J:Bool->Option β,T R (J d)->T R (M J)) (hK:T R (K (c && d))):T R (Sy.jp (λJ=>Sy.br c (M J) (J false)) K):=by
 cases c
 ·exact hK
 ·exact hM K hK
theorem T.orJ {β:Type} {R:β->Prop} {c d:Bool} {M:(Bool->Option β)->Option β} {K:Bool->Option β} (hM:∀ J:Bool->Option β,T R (J d)->T R (M J)) (hK:T R (K (c || d))):T R (Sy.jp (λJ=>Sy.br c (J true) (M J)) K):=by
 cases c
 ·exact hM K hK
 ·exact hK
theorem zeA (v:Val) (n b l m:Bool):zdv v n b l m=some (pln v n b l m):=by
 refine T.eqs ?_
 unfold zdv
 exact T.or' (T.andJ (λJ h=>T.or' h) (T.andJ (λJ h=>T.or' h) (T.andJ (λJ h=>T.orJ (λJ2 h2=>T.and' h2) h) (T.some rfl))))
theorem zeF (v:Val) (u:Int) (h:0 <= u):zcn v u=some (pln v (!decide (andI u 1=0)) (!decide (andI u 2=0)) (!decide (andI u 4=0)) (!decide (andI u 8=0))):=by
 refine T.eqs ?_
 unfold zcn
 refine T.asd ⟨h,by decide⟩ (T.or' (T.andJ (λJ hh=>T.asd ⟨h,by decide⟩ (T.or' hh)) (T.andJ (λJ hh=>T.asd ⟨h,by decide⟩ (T.or' hh)) (T.andJ (λJ hh=>T.asd ⟨h,by decide⟩ (T.orJ (λJ2 h2=>T.and' h2) hh)) (T.some rfl)))))
theorem zkr (v:Val):zd5 v=some (decide (v.kind=0) && pln v false false false false):=by
 refine T.eqs ?_
 unfold zd5
 refine T.andJ (d:=pln v false false false false) (λJ hh=>T.eq (zeF v 0 (zIl _)) ?_) (T.some rfl)
 have e:pln v (!decide (andI 0 1=0)) (!decide (andI 0 2=0)) (!decide (andI 0 4=0)) (!decide (andI 0 8=0))=pln v false false false false:=rfl
 rw [e]
 exact hh
theorem zlV {v:Val}:(decide (v.kind=0) && pln v false false false false)=true ↔ v=Val.mk 0 0 [] [] 0 []:=by
 unfold pln
 simp only [Bool.false_or,zBa,decide_eq_true_eq]
 constructor
 ·rintro ⟨h1,⟨⟨h2,h3⟩,h4⟩,h5,h6⟩
  rw [<- Val.eta v,h1,h2,h5,List.length_eq_zero_iff.1 (by omega:v.b.length=0),List.length_eq_zero_iff.1 (by omega:v.l.length=0),List.length_eq_zero_iff.1 (by omega:v.more.length=0)]
 ·intro h
  subst h
  exact ⟨rfl,⟨⟨rfl,rfl⟩,rfl⟩,rfl,rfl⟩
def rng (a b:Int):List Int:=(List.range (b - a).toNat).map λ(i:Nat)=>a + (i:Int)
theorem ziC {a b:Int} (h:b <= a):rng a b=[]:=by
 unfold rng
 have:(b - a).toNat=0:=by omega
 rw [this];rfl
theorem zlu {a b:Int} (h:a <= b):rng a (b + 1)=rng a b ++ [b]:=by
 unfold rng
 have:(b + 1 - a).toNat=(b - a).toNat + 1:=by omega
 rw [this,List.range_succ,List.map_append]
 congr 1
 show [a + (((b - a).toNat:Nat):Int)]=[b]
 congr 1
 omega
theorem zi4 {a b:Int}:(rng a b).length=(b - a).toNat:=by unfold rng;rw [List.length_map,List.length_range]
theorem zvt {a b:Int} {k:Nat} (h:a + k < b):(rng a b)[k]?=some (a + k):=by
 unfold rng
 rw [List.getElem?_map,List.getElem?_range (by omega)]
 rfl
def grp (fs:List GFld) (k:Int):Int:=((fs[k.toNat]?).map λf=>f.group).getD 0
def slot1 (c:Bool) (fs:List GFld) (out:List (List Int)) (k:Int):List (List Int) :=
 if (c && decide (0 < grp fs k) && decide (0 < out.length))=true/\grp fs (k - 1)=grp fs k then out.set (out.length - 1) ((out[out.length - 1]?).getD [] ++ [k]) else out ++ [[k]]
def slots (x:GTyp):List (List Int):=(rng x.root x.fields.length).foldl (slot1 (!decide (x.kind=9)) x.fields) []
def slotsT (t:GTab) (i:Int):List (List Int):=match (if 0 <= i then t.types[i.toNat]? else none) with
 | none=>[]
 | some x=>if x.kind=7 \/ x.kind=8 \/ x.kind=9 then slots x else []
theorem zmk (c:Bool) (fs:List GFld) (out:List (List Int)) (k:Int):(slot1 c fs out k).length <= out.length + 1/\0 < (slot1 c fs out k).length:=by
 unfold slot1
 split
 ·rename_i h
  have h1:=h.1
  rw [zBa] at h1
  have h2:=zOT h1.2
  rw [List.length_set]
  omega
 ·rw [zLa,zLs]
  omega
theorem ziM {c:Bool} {fs:List GFld}:∀ (l:List Int) (out:List (List Int)) (n:Nat),out.length <= n->(∀ s ∈ out,s.length <= n)->(l.foldl (slot1 c fs) out).length <= n + l.length/\∀ s ∈ l.foldl (slot1 c fs) out,s.length <= n + l.length:=by
 intro l
 induction l with
 | nil=>intro out n h1 h2;exact ⟨h1,h2⟩
 | cons k r ih =>
  intro out n h1 h2
  have:=ih (slot1 c fs out k) (n + 1) (by have:=(zmk c fs out k).1;omega) (λs hs=>by
   unfold slot1 at hs
   split at hs
   ·rcases List.mem_or_eq_of_mem_set hs with h | h
    ·have:=h2 s h;omega
    ·rw [h,zLa,zLs]
     cases hg:out[out.length - 1]? with
     | none=>simp
     | some y =>
      have:=h2 y (List.mem_of_getElem? hg)
      show y.length + 1 <= n + 1
      omega
   ·rcases List.mem_append.1 hs with h | h
    ·have:=h2 s h;omega
    ·rw [zMo.1 h]
     show 1 <= n + 1
     omega)
  rw [List.foldl_cons,zLc]
  have e:n + 1 + r.length=n + (r.length + 1):=by omega
  rw [e] at this
  exact this
theorem kindNot {x:Int} {β:Type} {R:β->Prop} {K:Bool->Option β} (h:T R (K (!decide (x=7 \/ x=8 \/ x=9)))) :
    T R (Sy.jp (λJ5=>Sy.br (!decide (x=7)) (J5 (!decide (x=8))) (J5 false)) λq=>Sy.jp (λJ8=>Sy.br q (J8 (!decide (x=9))) (J8 false)) K):=by
  refine T.and' (T.and' ?_)
  have:((!decide (x=7)) && (!decide (x=8)) && !decide (x=9))=!decide (x=7 \/ x=8 \/ x=9):=by
    rw [Bool.eq_iff_iff]
    simp only [zBa,Bool.not_eq_true',decide_eq_false_iff_not,not_or]
    exact and_assoc
  rw [this]
  exact h
theorem zln {h:Nat} {l:List GTyp} {x:GTyp} {i j:Nat} (hk:Kids (SubT h l) (kidsT x) i j) (hj:j <= l.length) (hl:l.length <= 1000):x.fields.length <= 1000:=by
 have:=znJ hk
 unfold kidsT at this
 rw [zLa,List.length_map] at this
 omega
theorem zkY {t:GTab} (ht:TabOk t) (i:Int):zf4 t i=some (slotsT t i):=by
 refine T.eqs ?_
 unfold zf4
 refine T.cal (Q:=λr=>r=decide (0 <= i/\i < t.types.length)) (by
  unfold zkj
  refine T.and' (T.some ?_)
  rw [Bool.eq_iff_iff]
  simp) λy _ hy=>?_
 subst hy
 have htl:=ht.types
 by_cases hi:0 <= i/\i < t.types.length
 ·rw [zDT hi]
  refine T.br (λh=>by cases h) λ_=>?_
  obtain ⟨x,hx⟩:∃ x,t.types[i.toNat]?=some x:=⟨_,List.getElem?_eq_getElem (by omega)⟩
  have hs:slotsT t i=if x.kind=7 \/ x.kind=8 \/ x.kind=9 then slots x else []:=by unfold slotsT;rw [if_pos hi.1,hx]
  rw [hs]
  refine T.get hi.1 hi.2 λx' hx'=>?_
  rw [hx] at hx';cases hx'
  refine kindNot (T.br (λh=>T.some ?_) λh=>?_)
  ·rw [if_neg (zOF ((Bool.not_eq_true' _).mp h))]
  have hk:x.kind=7 \/ x.kind=8 \/ x.kind=9:=zOT ((Bool.not_eq_false' _).mp h)
  rw [if_pos hk]
  obtain ⟨j,hj⟩:=SubT.sub ht.kids i.toNat (by omega) (by omega)
  have hjl:=hj.inb
  obtain ⟨x'',hx'',hok,hkid⟩:=hj
  rw [hx] at hx'';cases hx''
  have hfl:=zln hkid hjl (by omega)
  have hr0:=hok.root0
  have hr1:=hok.rootF hk
  refine T.lp (ι:=List (List Int) × Int) (λq=>x.root <= q.2/\q.2 <= (x.fields.length:Int)/\q.1=(rng x.root q.2).foldl (slot1 (!decide (x.kind=9)) x.fields) []/\(0 < q.1.length ↔ x.root < q.2)) (λq=>((x.fields.length:Int) - q.2).toNat) ⟨zIl _,hr1,by dsimp only;rw [ziC (zIl _)];rfl,by dsimp only [zLn];omega⟩ (by dsimp only;omega) λL q ⟨q1,q2,q3,q4⟩ hL=>?_
  obtain ⟨out,k⟩:=q
  dsimp only at q1 q2 q3 q4 hL ⊢
  refine T.br (λhb=>?_) λhb=>T.some ?_
  ·have hb:=zOT hb
   have hfold:=ziM (c:=!decide (x.kind=9)) (fs:=x.fields) (rng x.root k) [] 0 (zNl _) (λs hs=>by cases hs)
   rw [<- q3,zi4] at hfold
   have hol:out.length <= 1000:=by omega
   refine T.jp (ι:=List (List Int)) (λo=>o=slot1 (!decide (x.kind=9)) x.fields out k) (λJ kk=>T.get (by omega) hb λf hf=>T.and' (T.and' (T.jp (λb=>b=true ↔ (!decide (x.kind=9) && decide (0 < f.group) && decide (x.root < k))=true/\grp x.fields (k - 1)=f.group) (λJ2 k2=>T.br (λh1=>?_) λh1=>k2 _ ⟨λh=>(by cases h),λh=>by rw [h1] at h;cases h.1⟩) λb hb2=>?_))) λo ho=>T.ck (by omega) (hL _ ⟨by dsimp only;omega,by dsimp only;omega,by dsimp only;rw [zlu q1,List.foldl_append,<- q3,ho];rfl,by dsimp only;rw [ho];exact ⟨λ_=>by omega,λ_=>(zmk _ _ _ _).2⟩⟩ (by dsimp only;omega))
   ·have h2:=h1
    rw [zBa] at h2
    have h3:=zOT h2.2
    refine T.ck (by omega) (T.get (by omega) (by omega) λg hg=>k2 _ ?_)
    rw [decide_eq_true_iff,h1]
    have:grp x.fields (k - 1)=g.group:=by unfold grp;rw [hg];rfl
    rw [this]
    exact ⟨λh=>⟨rfl,h⟩,λh=>h.2⟩
   ·have hgf:grp x.fields k=f.group:=by unfold grp;rw [hf];rfl
    have hiff:decide (0 < out.length)=decide (x.root < k):=by rw [decide_eq_decide];exact q4
    refine T.br (λhbt=>?_) λhbf=>?_
    ·have hc:=hb2.1 hbt
     have h2:=hc.1
     rw [zBa] at h2
     have h3:=q4.2 (zOT h2.2)
     obtain ⟨y,hy⟩:∃ y,out[out.length - 1]?=some y:=⟨_,List.getElem?_eq_getElem (by omega)⟩
     have ei:(((out.length:Nat):Int) - 1).toNat=out.length - 1:=by omega
     have hyl:=hfold.2 y (List.mem_of_getElem? hy)
     have hs1:slot1 (!decide (x.kind=9)) x.fields out k=out.set (out.length - 1) (y ++ [k]):=by
      unfold slot1
      rw [hgf,hiff,if_pos hc,hy];rfl
     rw [hs1] at kk
     have hy':out[(((out.length:Nat):Int) - 1).toNat]?=some y:=by rw [ei];exact hy
     refine T.ck (by omega) (T.ck (by omega) (T.asd ⟨by omega,by omega⟩ (T.asd (by omega) (T.eq hy' (T.abl (by rw [zLs];omega) (T.asd ⟨by omega,by omega⟩ (T.asd (by omega) (T.eq hy' (kk _ ?_)))))))))
     rw [ei]
    ·have hs1:slot1 (!decide (x.kind=9)) x.fields out k=out ++ [[k]]:=by
      unfold slot1
      rw [hgf,hiff,if_neg (λh=>by rw [hb2.2 h] at hbf;cases hbf)]
     exact T.abl (by rw [zLs];omega) (kk _ hs1.symm)
  ·have hb:=zOF hb
   have:k=x.fields.length:=by omega
   rw [q3,this];rfl
 ·rw [zDF hi]
  refine T.br (λ_=>T.some ?_) λh=>by cases h
  unfold slotsT
  split
  ·rfl
  ·rename_i x hx
   split at hx
   ·have:=(List.getElem?_eq_some_iff.1 hx).1
    omega
   ·cases hx
theorem zsi (a b:Int) (h0:0 <= a) (hb:b <= 1000000) (hb0:0 <= b) (ha:a <= 1000000):zfD a b=some (rng a b):=by
 refine T.eqs ?_
 unfold zfD
 refine T.lp (ι:=List Int × Int) (λq=>a <= q.2/\(q.2 <= b \/ q.2=a)/\q.1=rng a q.2) (λq=>(b - q.2).toNat) ⟨zIl _,.inr rfl,(ziC (zIl _)).symm⟩ (by dsimp only;omega) λL q ⟨q1,q2,q3⟩ hL=>?_
 obtain ⟨l,k⟩:=q
 dsimp only at q1 q2 q3 hL ⊢
 refine T.br (λh=>?_) λh=>T.some ?_
 ·have h:=zOT h
  have hl:l.length=(k - a).toNat:=by rw [q3,zi4]
  exact T.abl (by rw [zLs];omega) (T.ck (by omega) (hL _ ⟨by dsimp only;omega,by dsimp only;omega,by dsimp only;rw [zlu q1,q3]⟩ (by dsimp only;omega)))
 ·have h:=zOF h
  rw [q3]
  rcases q2 with h2 | h2
  ·have:k=b:=by omega
   rw [this]
  ·subst h2
   rw [ziC (zIl _),ziC (by omega)]
theorem zoo {t:GTab} (ht:TabOk t) (i:Int):zfi t i=some (slotsT t i):=by
  refine T.eqs ?_
  unfold zfi
  have htl:=ht.types
  by_cases hi:0 <= i/\i < t.types.length
  · obtain ⟨x,hx⟩:∃ x,t.types[i.toNat]?=some x:=⟨_,List.getElem?_eq_getElem (by omega)⟩
    have hs:slotsT t i=if x.kind=7 \/ x.kind=8 \/ x.kind=9 then slots x else []:=by unfold slotsT;rw [if_pos hi.1,hx]
    rw [hs]
    refine T.cal (Q:=λr=>r=x) (by
      unfold zgF
      refine T.or' (T.br (λh=>?_) λ_=>T.get hi.1 hi.2 λy hy=>T.some (by rw [hx] at hy;cases hy;rfl))
      rw [zDF (by omega),zDF (by omega)] at h
      cases h) λy _ hy=>?_
    subst hy
    refine kindNot (T.br (λh=>T.some ?_) λh=>?_)
    · rw [if_neg (zOF ((Bool.not_eq_true' _).mp h))]
    have hk:y.kind=7 \/ y.kind=8 \/ y.kind=9:=zOT ((Bool.not_eq_false' _).mp h)
    rw [if_pos hk]
    obtain ⟨j,hj⟩:=SubT.sub ht.kids i.toNat (by omega) (by omega)
    have hjl:=hj.inb
    obtain ⟨x'',hx'',hok,hkid⟩:=hj
    rw [hx] at hx'';cases hx''
    have hfl:=zln hkid hjl (by omega)
    have hr0:=hok.root0
    have hr1:=hok.rootF hk
    have hmx:max y.root 0=y.root:=by omega
    rw [hmx]
    refine T.eq (zsi _ _ hr0 (by omega) (by omega) (by omega)) ?_
    have hpl:(rng y.root y.fields.length).length=((y.fields.length:Int) - y.root).toNat:=zi4
    refine T.lp (ι:=List (List Int) × Int) (λq=>0 <= q.2/\q.2 <= (y.fields.length:Int) - y.root/\q.1=(rng y.root (y.root + q.2)).foldl (slot1 (!decide (y.kind=9)) y.fields) []/\(0 < q.1.length ↔ 0 < q.2)) (λq=>(((y.fields.length:Int) - y.root) - q.2).toNat) ⟨zIl _,by dsimp only;omega,by dsimp only;rw [ziC (by omega)];rfl,by dsimp only [zLn];omega⟩ (by dsimp only;omega) λL q ⟨q1,q2,q3,q4⟩ hL=>?_
    obtain ⟨out,p⟩:=q
    dsimp only at q1 q2 q3 q4 hL ⊢
    refine T.br (λhb=>?_) λhb=>T.some ?_
    · have hb:=zOT hb
      rw [hpl] at hb
      have hfold:=ziM (c:=!decide (y.kind=9)) (fs:=y.fields) (rng y.root (y.root + p)) [] 0 (zNl _) (λs hs=>by cases hs)
      rw [<- q3,zi4] at hfold
      have hol:out.length <= 1000:=by omega
      have hget:(rng y.root y.fields.length)[p.toNat]?=some (y.root + p):=by
        rw [zvt (by omega)]
        congr 2
        omega
      refine T.jp (ι:=List (List Int)) (λo=>o=slot1 (!decide (y.kind=9)) y.fields out (y.root + p)) (λJ kk=>T.asd ⟨by omega,by rw [hpl];omega⟩ (T.eq hget (T.ck (by omega) (T.get (by omega) (by omega) λf hf=>T.and' (T.and' (T.jp (λb=>b=true ↔ (!decide (y.kind=9) && decide (0 < f.group) && decide (0 <= ((out.length:Nat):Int) - 1))=true/\grp y.fields (y.root + p - 1)=f.group) (λJ2 k2=>T.br (λh1=>?_) λh1=>k2 _ ⟨λh=>(by cases h),λh=>by rw [h1] at h;cases h.1⟩) λb hb2=>?_)))))) λo ho=>T.ck (by omega) (hL _ ⟨by dsimp only;omega,by dsimp only;omega,by
          have e:y.root + (p + 1)=y.root + p + 1:=by omega
          dsimp only;rw [e,zlu (by omega),List.foldl_append,<- q3,ho];rfl,by dsimp only;rw [ho];exact ⟨λ_=>by omega,λ_=>(zmk _ _ _ _).2⟩⟩ (by dsimp only;omega))
      · have h2:=h1
        rw [zBa] at h2
        have h3:=zOT h2.2
        have h4:0 < p:=q4.1 (by omega)
        refine T.ck (by omega) (T.get (by omega) (by omega) λg hg=>k2 _ ?_)
        rw [decide_eq_true_iff,h1]
        have:grp y.fields (y.root + p - 1)=g.group:=by unfold grp;rw [hg];rfl
        rw [this]
        exact ⟨λh=>⟨rfl,h⟩,λh=>h.2⟩
      · have hgf:grp y.fields (y.root + p)=f.group:=by unfold grp;rw [hf];rfl
        have hiff:decide (0 < out.length)=decide (0 <= ((out.length:Nat):Int) - 1):=by rw [decide_eq_decide];omega
        refine T.br (λhbt=>?_) λhbf=>?_
        · have hc:=hb2.1 hbt
          have h2:=hc.1
          rw [zBa] at h2
          have h3:=zOT h2.2
          obtain ⟨z,hz⟩:∃ z,out[out.length - 1]?=some z:=⟨_,List.getElem?_eq_getElem (by omega)⟩
          have ei:(((out.length:Nat):Int) - 1).toNat=out.length - 1:=by omega
          have hzl:=hfold.2 z (List.mem_of_getElem? hz)
          have hs1:slot1 (!decide (y.kind=9)) y.fields out (y.root + p)=out.set (out.length - 1) (z ++ [y.root + p]):=by
            unfold slot1
            rw [hgf,hiff,if_pos hc,hz];rfl
          rw [hs1] at kk
          have hz':out[(((out.length:Nat):Int) - 1).toNat]?=some z:=by rw [ei];exact hz
          refine T.asd ⟨by omega,by omega⟩ (T.asd (by omega) (T.eq hz' (T.abl (by rw [zLs];omega) (T.asd ⟨by omega,by omega⟩ (T.asd (by omega) (T.eq hz' (kk _ ?_)))))))
          rw [ei]
        · have hs1:slot1 (!decide (y.kind=9)) y.fields out (y.root + p)=out ++ [[y.root + p]]:=by
            unfold slot1
            rw [hgf,hiff,if_neg (λh=>by rw [hb2.2 h] at hbf;cases hbf)]
          exact T.abl (by rw [zLs];omega) (kk _ hs1.symm)
    · have hb:=zOF hb
      rw [hpl] at hb
      have:y.root + p=y.fields.length:=by omega
      rw [q3,this];rfl
  · refine T.cal (Q:=λr=>r.kind=0) (by
      unfold zgF
      refine T.or' (T.br (λh=>T.some rfl) λh=>?_)
      rw [Bool.or_eq_false_iff] at h
      have h1:=zOF h.1
      have h2:=zOF h.2
      omega) λy _ hy=>?_
    refine kindNot (T.br (λh=>T.some ?_) λh=>?_)
    · unfold slotsT
      split
      · rfl
      · rename_i x hx
        split at hx
        · have:=(List.getElem?_eq_some_iff.1 hx).1
          omega
        · cases hx
    · have:=zOT ((Bool.not_eq_false' _).mp h)
      omega
theorem zqT:∀ {h n l i j},SubT h l i j->h <= n->l.length <= 1000->zfH n l (i:Int)=some (bgs h l (i:Int)):=by
 intro h
 induction h with
 | zero=>intro n l i j h;exact h.elim
 | succ h ih =>
  intro n l i j hs hn hl
  obtain ⟨n,rfl⟩:∃ n',n=n' + 1:=⟨n - 1,by omega⟩
  have hjl:=hs.inb
  have hbl:=ziJ hs
  have hlt:=hs.lt
  obtain ⟨t,h1,h0,h2⟩:=hs
  have hti:(i:Int).toNat=i:=Int.toNat_natCast i
  have hget:∀ {β:Type} {R:β->Prop} {K:GTyp->Option β},T R (K t)->T R (cal (getI l (i:Int)) K):=λh=>T.get (by omega) (by omega) λy hy=>by rw [hti,h1] at hy;cases hy;exact h
  refine T.eqs ?_
  show T _ (zeo (zfH n) l (i:Int))
  unfold zeo
  rw [zpd h1] at hbl ⊢
  refine hget (T.br (λhb=>hget (T.asd ⟨zIl _,by omega,by have:=zOT hb;omega⟩ (T.some ?_))) λhb=>?_)
  ·have hb:=zOT hb
   rw [if_pos (by omega)];rfl
  have hb:=zOF hb
  rw [if_neg (by omega)] at hbl ⊢
  have hfl:∀ (k:Nat),(((t.fields.take k).flatMap λf=>bgs h l f.ty)).length <= 1000:=λk=>by
   have:=zlO (l:=t.fields) (f:=λf=>bgs h l f.ty) (k:=k)
   omega
  have hfc:t.fields.length <= 1000:=by
   unfold kidsT at h2
   obtain ⟨c,h3,h4⟩:=Kids.app h2
   have e:∀ (r:List Int) (a b:Nat),Kids (SubT h l) r a b->r.length <= b - a:=by
    intro r
    induction r with
    | nil=>intro a b _;exact zNz _
    | cons x r ih2 =>
     intro a b ⟨c,k0,k1,k2⟩
     have:=ih2 _ _ k2
     have:=k1.lt
     have:=Kids.le SubT.le' k2
     simp only [zLc];omega
   have:=e _ _ _ h3
   rw [List.length_map] at this
   have:=Kids.le SubT.le' h4
   omega
  refine T.lp (ι:=List Tag × Int) (λq=>0 <= q.2/\q.2 <= t.fields.length/\q.1=(t.fields.take q.2.toNat).flatMap λf=>bgs h l f.ty) (λq=>((t.fields.length:Int) - q.2).toNat) ⟨zIl _,by dsimp only;omega,rfl⟩ (by dsimp only;omega) λL q ⟨q1,q2,q3⟩ hL=>?_
  obtain ⟨o,k⟩:=q
  dsimp only at q1 q2 q3 hL ⊢
  refine hget (T.br (λhb2=>?_) λhb2=>T.some ?_)
  ·have hb2:=zOT hb2
   refine hget (T.get q1 hb2 λf hf=>?_)
   obtain ⟨c,d,e1,e2,e3,e4⟩:=Kids.mem3 SubT.le' h2 (zmI f (List.mem_of_getElem? hf))
   rw [e1]
   have hk1:(k + 1).toNat=k.toNat + 1:=by omega
   have hnx:=zmm (f:=λf:GFld=>bgs h l f.ty) hf
   have hle:=hfl (k.toNat + 1)
   rw [hnx,zLa,e1] at hle
   have hle2:=hfl k.toNat
   refine T.eq (ih e2 (by omega) hl) (T.abl (by rw [q3];omega) (T.ck (by omega) (hL _ ⟨by dsimp only;omega,by dsimp only;omega,?_⟩ (by dsimp only;omega))))
   dsimp only
   rw [hk1,hnx,q3,e1]
  ·have hb2:=zOF hb2
   rw [q3,zTl (by omega)]
def begT (t:GTab) (i:Int):List Tag:=bgs 17 t.types i
theorem zpC {t:GTab} (ht:TabOk t) (i:Int):zhc t i=some (begT t i):=by
 refine T.eqs ?_
 unfold zhc
 have htl:=ht.types
 refine T.or' (T.br (λh=>T.some ?_) λh=>?_)
 ·unfold begT
  have:bgs 17 t.types i=[]:=by
   unfold bgs
   have e:(if 0 <= i then t.types[i.toNat]? else none)=none:=by
    split
    ·rw [Bool.or_eq_true] at h
     rcases h with h | h
     ·have:=zOT h;omega
     ·have:=zOT h
      exact List.getElem?_eq_none (by omega)
    ·rfl
   rw [e]
  rw [this]
 ·rw [Bool.or_eq_false_iff] at h
  have h1:=zOF h.1
  have h2:=zOF h.2
  obtain ⟨j,hj⟩:=SubT.sub ht.kids i.toNat (by omega) (by omega)
  have e:((i.toNat:Nat):Int)=i:=by omega
  have hb:=zqT hj (n:=fuel) (by unfold fuel;omega) (by omega)
  have hbl:=ziJ hj
  have hjl:=hj.inb
  rw [e] at hb hbl
  refine T.eq hb (T.abl (by rw [zLn];omega) (T.some ?_))
  rw [List.nil_append];rfl
def lessT (a b:Tag):Bool:=decide (a.cls < b.cls) || (decide (a.cls=b.cls) && decide (a.num < b.num))
theorem zu4 (a b:Tag):zim a b=some (lessT a b):=by
 unfold zim lessT
 by_cases h:a.cls=b.cls
 ·rw [zDT h,zDF (show ¬ a.cls < b.cls by omega)]
  show some _=_
  rw [Bool.true_and,Bool.false_or]
 ·rw [zDF h,Bool.false_and,Bool.or_false];rfl
theorem zua (a b:Tag):zjD a b=some (lessT a b):=by
 refine T.eqs ?_
 unfold zjD lessT
 refine T.jp (λb'=>b'=lessT a b) (λJ hJ=>T.br (λh1=>hJ _ ?_) λh1=>T.jp (λc=>c=(decide (a.cls=b.cls) && decide (a.num < b.num))) (λJ2 hJ2=>T.br (λh2=>hJ2 _ (by rw [h2];rfl)) λh2=>hJ2 _ (by rw [h2];rfl)) λc hc=>hJ _ ?_) λb' hb'=>T.some hb'
 ·unfold lessT;rw [h1];rfl
 ·unfold lessT;rw [h1,hc];rfl
/-! ### The program's side -/
theorem zuz:∀ {h n l i j},SubT h l i j->h <= n->l.length <= 1000->∀ (left:Int) (acc:List Tag),((j - i:Nat):Int) <= left->left <= 1000->acc.length + (j - i) <= 100000 ->
    T (λr=>r.1=⟨l⟩/\left - ((j - i:Nat):Int) <= r.2.1/\r.2.1 <= left/\r.2.2=acc ++ bgs h l (i:Int)) (zdc n ⟨l⟩ (i:Int) left acc):=by
  intro h
  induction h with
  | zero=>intro n l i j h;exact h.elim
  | succ h ih =>
    intro n l i j hs hn hl left acc hl1 hl2 ha
    obtain ⟨n,rfl⟩:∃ n',n=n' + 1:=⟨n - 1,by omega⟩
    have hjl:=hs.inb
    have hbl:=ziJ hs
    have hlt:=hs.lt
    obtain ⟨t,h1,h0,h2⟩:=hs
    show T _ (zb2 (zdc n) ⟨l⟩ (i:Int) left acc)
    unfold zb2
    refine T.or' (T.or' (T.brF ?_ (T.ck (by omega) (T.get (by omega) (by dsimp only;omega) λy hy=>?_))))
    · dsimp only
      rw [zDF (show ¬ (i:Int) < 0 by omega),zDF (show ¬ (l.length:Int) <= i by omega),zDF (show ¬ left=0 by omega)];rfl
    rw [Int.toNat_natCast] at hy
    have:y=t:=by rw [h1] at hy;cases hy;rfl
    subst this
    rw [zpd h1] at hbl ⊢
    have hc1:zcM y acc=some (acc ++ y.tags.take 1):=by
      refine T.eqs ?_
      unfold zcM
      refine T.br (λh=>T.get (zIl _) (zOT h) λx hx=>T.abl (by simp only [zLs];omega) (T.some ?_)) λh=>T.some ?_
      · cases ht:y.tags with
        | nil=>rw [ht] at hx;cases hx
        | cons z r=>rw [ht] at hx;cases hx;rfl
      · have:=zOF h
        have:y.tags=[]:=List.length_eq_zero_iff.1 (by omega)
        rw [this];simp
    refine T.eq hc1 (T.br (λhb=>T.some ⟨rfl,by dsimp only;omega,by dsimp only;omega,?_⟩) λhb=>?_)
    · have hb:=zOT hb
      rw [if_pos (by omega)]
    have hb:=zOF hb
    have ht0:y.tags=[]:=List.length_eq_zero_iff.1 (by omega)
    rw [if_neg (by omega)] at hbl ⊢
    rw [ht0,List.take_nil,List.append_nil]
    have hfl:=zln h2 hjl hl
    refine T.lp (ι:=Int × List Tag × Int × GTys) (λq=>0 <= q.1/\q.1 <= y.fields.length/\q.2.2.2=⟨l⟩/\q.2.1=acc ++ ((y.fields.take q.1.toNat).flatMap λf=>bgs h l f.ty)/\∃ c:Nat,i + 1 <= c/\c <= j/\Kids (SubT h l) ((y.fields.drop q.1.toNat).map (λf=>f.ty) ++ (if y.kind=10 then [y.of] else [])) c j/\left - ((c - i:Nat):Int) <= q.2.2.1/\q.2.2.1 <= left - 1/\q.2.1.length <= acc.length + (c - i)) (λq=>((y.fields.length:Int) - q.1).toNat)
      ⟨zIl _,by dsimp only;omega,rfl,by simp,i + 1,zNl _,hlt,h2,by dsimp only;omega,by dsimp only;omega,by dsimp only;omega⟩ (by dsimp only;omega) λL q hq hL=>?_
    obtain ⟨k,a,lf,tt⟩:=q
    obtain ⟨q1,q2,q3,q4,c,c1,c2,c3,c4,c5,c6⟩:=hq
    dsimp only at q1 q2 q3 q4 c3 c4 c5 c6 hL ⊢
    subst q3
    refine T.br (λhb2=>?_) λhb2=>?_
    · have hb2:=zOT hb2
      refine T.get q1 hb2 λf hf=>?_
      obtain ⟨hf1,hf2⟩:=List.getElem?_eq_some_iff.1 hf
      have hdr:y.fields.drop k.toNat=f :: y.fields.drop (k.toNat + 1):=by rw [List.drop_eq_getElem_cons hf1,hf2]
      rw [hdr] at c3
      obtain ⟨d,e1,e2,e3⟩:=c3
      have e1:f.ty=(c:Int):=e1
      have e4:=e2.lt
      have e5:=Kids.le SubT.le' e3
      have e6:=ziJ e2
      have ek:(k + 1).toNat=k.toNat + 1:=by omega
      rw [e1]
      refine T.cal (ih e2 (by omega) hl lf a (by omega) (by omega) (by omega)) λr _ ⟨r1,r2,r3,r4⟩=>T.ck (by omega) (hL _ ⟨by dsimp only;omega,by dsimp only;omega,r1,?_,d,by omega,by omega,by rw [ek];exact e3,by dsimp only;omega,by dsimp only;omega,?_⟩ (by dsimp only;omega))
      · dsimp only
        rw [r4,q4,ek,zmm hf,e1,zLA]
      · dsimp only
        rw [r4,zLa];omega
    · have hb2:=zOF hb2
      refine T.some ⟨rfl,by dsimp only;omega,by dsimp only;omega,?_⟩
      dsimp only
      rw [q4,zTl (by omega)]
theorem zq9 {t:GTab} (ht:TabOk t) (i:Int):zfK t i=some (begT t i):=by
 refine T.eqs ?_
 unfold zfK zd2
 have htl:=ht.types
 refine T.cal (Q:=λr=>r.1=begT t i) ?_ λy _ hy=>T.some hy
 unfold begT
 by_cases hi:0 <= i/\i < t.types.length
 ·obtain ⟨j,hj⟩:=SubT.sub ht.kids i.toNat (by omega) (by omega)
  have hjl:=hj.inb
  have:=zuz hj (n:=fuel) (by unfold fuel;omega) (by omega) 300 [] (by omega) (by omega) (by simp only [zLn];omega)
  rw [show ((i.toNat:Nat):Int)=i by omega] at this
  refine T.cal this λr _ ⟨_,_,_,r4⟩=>T.some ?_
  rw [r4,List.nil_append]
 ·have e0:bgs 17 t.types i=[]:=by
   unfold bgs
   have e:(if 0 <= i then t.types[i.toNat]? else none)=none:=by
    split
    ·exact List.getElem?_eq_none (by omega)
    ·rfl
   rw [e]
  rw [e0]
  have hf:∃ n,fuel=n + 1:=⟨fuel - 1,by unfold fuel;rfl⟩
  obtain ⟨n,hn⟩:=hf
  rw [hn]
  refine T.cal (Q:=λr=>r.2.2=[]) ?_ λr _ hr=>T.some hr
  show T _ (zb2 (zdc n) ⟨t.types⟩ i 300 [])
  unfold zb2
  refine T.or' (T.or' (T.brT ?_ (T.some rfl)))
  rw [Bool.or_eq_true,Bool.or_eq_true,decide_eq_true_iff,decide_eq_true_iff]
  left;dsimp only;omega
/-! ### Slots -/
def SlotOk (fs:List GFld) (a b:Int) (s:List Int):Prop:=∃ k0 r,s=k0 :: r/\(r=[] \/ 0 < grp fs k0)/\∀ k ∈ s,a <= k/\k < b
theorem SlotOk.mono {fs:List GFld} {a b b':Int} {s:List Int} (h:SlotOk fs a b s) (hb:b <= b'):SlotOk fs a b' s:=by
 obtain ⟨k0,r,h1,h2,h3⟩:=h
 exact ⟨k0,r,h1,h2,λk hk=>⟨(h3 k hk).1,by have:=(h3 k hk).2;omega⟩⟩
theorem zsn (c:Bool) (fs:List GFld) (a:Int):∀ n:Nat,(∀ s ∈ (rng a (a + n)).foldl (slot1 c fs) [],SlotOk fs a (a + n) s) /\
    (0 < n->∃ s,((rng a (a + n)).foldl (slot1 c fs) [])[((rng a (a + n)).foldl (slot1 c fs) []).length - 1]?=some s/\s.getLast?=some (a + n - 1))/\(n=0->(rng a (a + n)).foldl (slot1 c fs) []=[]):=by
  intro n
  induction n with
  | zero =>
    have e:rng a (a + ((0:Nat):Int))=[]:=ziC (by omega)
    rw [e]
    exact ⟨λs hs=>(by cases hs),λh=>absurd h (by omega),λ_=>rfl⟩
  | succ n ih =>
    obtain ⟨h1,h2,h3⟩:=ih
    have e:rng a (a + ((n + 1:Nat):Int))=rng a (a + n) ++ [a + n]:=by
      have:a + ((n + 1:Nat):Int)=a + n + 1:=by omega
      rw [this,zlu (by omega)]
    rw [e,List.foldl_append]
    generalize hout:(rng a (a + n)).foldl (slot1 c fs) []=out at h1 h2 h3
    show (∀ s ∈ slot1 c fs out (a + n),_)/\(_->∃ s,(slot1 c fs out (a + n))[(slot1 c fs out (a + n)).length - 1]?=some s/\_)/\_
    refine ⟨?_,?_,λh=>absurd h (by omega)⟩
    · intro s hs
      unfold slot1 at hs
      split at hs
      · rename_i h
        obtain ⟨g1,g2⟩:=h
        rw [zBa,zBa] at g1
        have g3:=zOT g1.1.2
        have g4:=zOT g1.2
        have hn:0 < n:=by
          rcases Nat.eq_zero_or_pos n with h | h
          · rw [h3 h] at g4;exact absurd g4 (by simp)
          · exact h
        obtain ⟨s0,e0,e1⟩:=h2 hn
        rcases List.mem_or_eq_of_mem_set hs with h | h
        · exact (h1 s h).mono (by omega)
        · rw [e0] at h
          obtain ⟨k0,r,r1,r2,r3⟩:=h1 s0 (List.mem_of_getElem? e0)
          subst h
          refine ⟨k0,r ++ [a + n],by rw [r1];rfl,.inr ?_,λk hk=>?_⟩
          · rcases r2 with r2 | r2
            · subst r2
              rw [r1] at e1
              have:k0=a + n - 1:=by simpa using e1
              rw [this,g2];exact g3
            · exact r2
          · rcases List.mem_append.1 hk with h | h
            · have:=r3 k h;omega
            · rw [zMo.1 h];omega
      · rcases List.mem_append.1 hs with h | h
        · exact (h1 s h).mono (by omega)
        · rw [zMo.1 h]
          exact ⟨a + n,[],rfl,.inl rfl,λk hk=>by rw [zMo.1 hk];omega⟩
    · intro _
      unfold slot1
      split
      · rename_i h
        have g1:=h.1
        rw [zBa] at g1
        have g4:=zOT g1.2
        rw [List.length_set]
        refine ⟨_,List.getElem?_set_self (by omega),?_⟩
        rw [List.getLast?_append]
        show some (a + (n:Int))=_
        congr 1;omega
      · refine ⟨[a + n],?_,?_⟩
        · rw [zLa,zLs,List.getElem?_append_right (by omega)]
          have:out.length + 1 - 1 - out.length=0:=by omega
          rw [this];rfl
        · show some (a + (n:Int))=_
          congr 1;omega
theorem zp3 {x:GTyp} (h0:0 <= x.root):∀ s ∈ slots x,SlotOk x.fields x.root x.fields.length s:=by
 unfold slots
 rcases Int.lt_or_le x.root x.fields.length with h | h
 ·have e:((x.fields.length:Nat):Int)=x.root + ((((x.fields.length:Int) - x.root).toNat:Nat):Int):=by omega
  rw [e]
  exact (zsn _ x.fields x.root _).1
 ·rw [ziC h]
  intro s hs;cases hs
theorem zn8 {t:GTab} {i:Int} {x:GTyp} (h0:0 <= i) (hx:t.types[i.toNat]?=some x) (hk:x.kind=7 \/ x.kind=8):slotsT t i=slots x:=by
 unfold slotsT
 rw [if_pos h0,hx]
 exact if_pos (by omega)
theorem zmf {x:GTyp} (h0:0 <= x.root):(slots x).length <= x.fields.length:=by
 have:=(ziM (c:=!decide (x.kind=9)) (fs:=x.fields) (rng x.root x.fields.length) [] 0 (zNl _) (λs hs=>by cases hs)).1
 rw [zi4] at this
 unfold slots
 omega
theorem znf {x:GTyp} (h0:0 <= x.root):∀ s ∈ slots x,s.length <= x.fields.length:=λs hs=>by
 have:=(ziM (c:=!decide (x.kind=9)) (fs:=x.fields) (rng x.root x.fields.length) [] 0 (zNl _) (λs hs=>by cases hs)).2 s hs
 rw [zi4] at this
 omega

/-! ### Small parts -/
theorem nt {c:Bool} (h:(!c)=false):c=true:=by
 cases c with
 | false=>cases h
 | true=>rfl
def wthn (c:GCon) (v:Int):Bool:=!c.has || ((!c.hasLow || decide (c.low <= v)) && (!c.hasHigh || decide (v <= c.high)))
theorem zk5 (c:GCon) (v:Int):zdn c v=some (wthn c v):=by
 unfold zdn wthn
 generalize decide (c.low <= v)=d1
 generalize decide (v <= c.high)=d2
 cases c.has <;> cases c.hasLow <;> cases c.hasHigh <;> cases d1 <;> cases d2 <;> rfl
theorem zk2 (c:GCon) (v:Int):zdE c v=some (wthn c v):=by
 unfold zdE wthn
 generalize decide (c.low <= v)=d1
 generalize decide (v <= c.high)=d2
 cases c.has <;> cases c.hasLow <;> cases c.hasHigh <;> cases d1 <;> cases d2 <;> rfl
/-! ### What fits -/
def zeroV:Val:=Val.mk 0 0 [] [] 0 []
def thr (v:Val) (k:Int):Bool:=match v.l[k.toNat]? with
 | some w=>!decide (w.kind=0)
 | none=>false
def lck (x:GTyp) (v:Val) (k:Int):Bool:=!thr v k && !(match x.fields[k.toNat]? with
 | some f=>f.optional || f.has
 | none=>false)
def Grp (x:GTyp) (v:Val) (s:List Int):Prop:=(decide (0 < grp x.fields (s.headD 0)) && s.any (thr v) && s.any (lck x v))=false
def FldF (x:GTyp) (F:Int->Val->Prop) (k:Nat) (f:GFld) (w:Val):Prop :=
 (w.kind=0/\w=zeroV/\(f.optional=true \/ f.has=true \/ x.root <= (k:Int))) \/ (w.kind ≠ 0/\F f.ty w/\(f.has=true->w ≠ f.dflt))
def FitK (x:GTyp) (v:Val) (F:Int->Val->Prop):Prop :=
 (x.kind=1/\pln v true false false false=true/\(decide (v.n=0) || decide (v.n=1))=true) \/
 (x.kind=2/\pln v true false false false=true/\(x.con.more || wthn x.con v.n)=true) \/
 (x.kind=3/\pln v true false false false=true/\∃ it ∈ x.items,it.number=v.n) \/
 (x.kind=4/\pln v false false false false=true) \/
 ((x.kind=5 \/ x.kind=6)/\pln v false true false false=true/\(v.b.length:Int) <= 70000/\(x.con.more || wthn x.con (v.b.length:Int))=true/\(x.kind=5 \/ zcs v.b=some true)) \/
 (x.kind=10/\pln v false false true false=true/\(x.con.more || wthn x.con (v.l.length:Int))=true/\∀ w ∈ v.l,F x.of w) \/
 (x.kind=9/\pln v true false true false=true/\0 <= v.n/\∃ f w,x.fields[v.n.toNat]?=some f/\v.l=[w]/\F f.ty w) \/
 ((x.kind=7 \/ x.kind=8)/\pln v false false true true=true/\(v.more=[]->v.rule=0)/\v.l.length=x.fields.length /\
  (∀ (k:Nat) f w,x.fields[k]?=some f->v.l[k]?=some w->FldF x F k f w)/\∀ s ∈ slots x,Grp x v s)
def Fit (t:GTab):Nat->Int->Val->Prop
 | 0,_,_=>False
 | h + 1,i,v=>0 <= i/\∃ x:GTyp,t.types[i.toNat]?=some x/\(v.kind=12 \/ v.kind=x.kind/\FitK x v (Fit t h))
theorem zlt {l:List Int} {p:Int->Bool} {n:Nat} {y:Int} (h:l[n]?=some y):(l.take (n + 1)).any p=((l.take n).any p || p y):=by
 rw [List.take_add_one,h,List.any_append]
 simp
theorem ztc (x y:Raw):T (λr=>r=true ↔ x=y) (zeP x y):=by
 unfold zeP
 refine T.andI (P:=x.n=y.n) (Q:=x.b=y.b) decide_eq_true_iff (λJ kk=>T.eq (y:=decide (Str.mk x.b=Str.mk y.b)) rfl (kk _ ?_)) λb hb=>T.some ?_
 ·rw [decide_eq_true_iff]
  exact ⟨λh=>congrArg Str.b h,λh=>by rw [h]⟩
 ·rw [hb]
  obtain ⟨a,b⟩:=x
  obtain ⟨c,d⟩:=y
  exact ⟨λ⟨h1,h2⟩=>(by cases h1;cases h2;rfl),λh=>by cases h;exact ⟨rfl,rfl⟩⟩
theorem zsV:∀ {k n:Nat} {f:Val},cnt f <= k->2 * k <= n->Fine f->∀ g,T (λr=>r=true ↔ f=g) (zf8 n f g):=by
 intro k
 induction k with
 | zero=>intro n f h;have:=zgp f;omega
 | succ k ih =>
  intro n f hk hn hf g
  obtain ⟨n,rfl⟩:∃ n',n=n' + 2:=⟨n - 2,by omega⟩
  show T _ (zft (zf8 (n + 1)) (zaN (n + 1)) f g)
  unfold zft
  refine T.andI (P:=f.kind=g.kind) (Q:=f.n=g.n) decide_eq_true_iff (λJ kk=>kk _ decide_eq_true_iff) λb1 h1=>?_
  refine T.andI (Q:=f.b=g.b) h1 (λJ kk=>T.eq (y:=decide (Str.mk f.b=Str.mk g.b)) rfl (kk _ ?_)) λb2 h2=>?_
  ·rw [decide_eq_true_iff]
   exact ⟨λh=>congrArg Str.b h,λh=>by rw [h]⟩
  refine T.andI (Q:=f.l=g.l) h2 (λJ kk=>T.cal (Q:=λr=>r=true ↔ f.l=g.l) ?_ λr _ hr=>kk _ hr) λb3 h3=>?_
  ·show T _ (zag (zf8 n) (zaN n) f.l g.l)
   unfold zag
   exact zlH f.l g.l hf.l (λx hx y=>ih (by have:=zdh hx;omega) (by omega) (hf.kid x hx) y) λL q=>rfl
  refine T.andI (Q:=f.rule=g.rule) h3 (λJ kk=>kk _ decide_eq_true_iff) λb4 h4=>?_
  refine T.andI (Q:=f.more=g.more) h4 (λJ kk=>T.cal (Q:=λr=>r=true ↔ f.more=g.more) ?_ λr _ hr=>kk _ hr) λb5 h5=>T.some ?_
  ·unfold zaF
   exact zlH f.more g.more hf.more (λx hx y=>ztc x y) λL q=>rfl
  ·rw [h5,<- Val.eta f,<- Val.eta g]
   constructor
   ·rintro ⟨⟨⟨⟨⟨e1,e2⟩,e3⟩,e4⟩,e5⟩,e6⟩
    simp only [Val.eta] at e1 e2 e3 e4 e5 e6
    rw [e1,e2,e3,e4,e5,e6]
   ·intro h
    rw [Val.eta,Val.eta] at h
    subst h
    exact ⟨⟨⟨⟨⟨rfl,rfl⟩,rfl⟩,rfl⟩,rfl⟩,rfl⟩

/-! ### The code's side -/
def zjl (t:GTab) (b:Bool):GChk:=GChk.mk (GTbd.mk t) b
theorem zob {x:GTyp} {k:Int} {f:GFld} (h0:0 <= k) (hf:x.fields[k.toNat]?=some f):zfo x k=some (f.optional || f.has || decide (x.root <= k)):=by
 have hlt:=(List.getElem?_eq_some_iff.1 hf).1
 have e:getI x.fields k=some f:=by rw [zbF h0 (by omega)];exact congrArg some (List.getElem?_eq_some_iff.1 hf).2
 refine T.eqs ?_
 unfold zfo
 refine T.eq e (T.orJ (d:=f.has) (λJ h=>T.eq e h) (T.or' (T.some rfl)))
theorem zts {t:GTab} (ht:TabOk t) (w:Int):T (λ_=>True) (zer t w):=by
 unfold zer
 have h1:=ht.names
 have h2:=ht.roots
 refine T.br (λ_=>T.some trivial) λh=>?_
 have h:=zOF h
 have hn:(UInt64.ofNat ((t.roots.length:Int) % 18446744073709551616).toNat).toNat=t.roots.length:=by rw [UInt64.toNat_ofNat'];omega
 have hz:¬ (UInt64.ofNat ((t.roots.length:Int) % 18446744073709551616).toNat)=0:=λe=>by
  have:=congrArg UInt64.toNat e
  rw [hn] at this
  exact h (by rw [this];rfl)
 have hlt:((UInt64.ofNat (w % 18446744073709551616).toNat) % (UInt64.ofNat ((t.roots.length:Int) % 18446744073709551616).toNat)).toNat < t.roots.length:=by
  rw [UInt64.toNat_mod,hn];exact Nat.mod_lt _ (by omega)
 exact T.asr (by rw [zDF hz];rfl) (T.ck (by omega) (T.get (by omega) (by omega) λy _=>T.some trivial))
end Go.Proofs.Q


namespace Go.Proofs.Q
open Go.Sy
set_option linter.unusedVariables false

/-! ### Groups of seven bits -/
def grpP:Bool->UInt64->Int->List UInt8->UInt64 × Int × Int
 | _,_,_,[]=>(0,0,3)
 | f,v,n,y :: r=>if (f=true/\y=128) \/ 144115188075855872 <= v then (0,0,4) else
  if y < 128 then (shl64 v (7:UInt64).toNat ||| (y &&& 127).toUInt64,n + 1,0) else grpP false (shl64 v (7:UInt64).toNat ||| (y &&& 127).toUInt64) (n + 1) r
theorem zl1 (f:Bool) (v:UInt64) (n:Int) (y:UInt8) (r:List UInt8):grpP f v n (y :: r)=if (f=true/\y=128) \/ 144115188075855872 <= v then (0,0,4) else
    if y < 128 then (shl64 v (7:UInt64).toNat ||| (y &&& 127).toUInt64,n + 1,0) else grpP false (shl64 v (7:UInt64).toNat ||| (y &&& 127).toUInt64) (n + 1) r:=rfl
theorem zqt (f:Bool) (v:UInt64) (n:Int):grpP f v n []=(0,0,3):=rfl
theorem shr57 (v:UInt64):(v >>> 57=0) ↔ ¬ 144115188075855872 <= v:=by
 rw [<- UInt64.toNat_inj,UInt64.toNat_shiftRight,UInt64.le_iff_toNat_le]
 have e1:(57:UInt64).toNat % 64=57:=rfl
 have e2:(144115188075855872:UInt64).toNat=144115188075855872:=rfl
 have e3:(0:UInt64).toNat=0:=rfl
 rw [e1,e2,e3,Nat.shiftRight_eq_div_pow]
 have:(2:Nat) ^ 57=144115188075855872:=by decide
 rw [this];omega
theorem zrY {b:List UInt8} {q:Int} {y:UInt8} (q0:0 <= q) (hy:b[q.toNat]?=some y):b.drop q.toNat=y :: b.drop (q + 1).toNat:=by
 obtain ⟨h1,h2⟩:=List.getElem?_eq_some_iff.1 hy
 rw [List.drop_eq_getElem_cons h1,h2,show (q + 1).toNat=q.toNat + 1 by omega]
theorem groupsR (b:List UInt8) (hb:b.length <= 68719476736):zeB b=some (grpP true 0 0 b):=by
 refine T.eqs ?_
 unfold zeB
 refine T.lp (ι:=UInt64 × Int) (λq=>0 <= q.2/\q.2 <= (b.length:Int)/\grpP (decide (q.2=0)) q.1 q.2 (b.drop q.2.toNat)=grpP true 0 0 b) (λq=>((b.length:Int) - q.2).toNat) ⟨zIl _,by dsimp only;omega,rfl⟩ (by dsimp only;omega) λL q ⟨q1,q2,q3⟩ hL=>?_
 obtain ⟨v,i⟩:=q
 dsimp only at q1 q2 q3 hL ⊢
 refine T.br (λh=>?_) λh=>T.some ?_
 ·have h:=zOT h
  obtain ⟨y,hy⟩:∃ y,b[i.toNat]?=some y:=⟨_,List.getElem?_eq_getElem (by omega)⟩
  have eg:getI b i=some y:=by rw [zbF q1 h];exact congrArg some (List.getElem?_eq_some_iff.1 hy).2
  rw [zrY q1 hy,zl1] at q3
  refine T.jp (λc=>c=true ↔ (decide (i=0)=true/\y=128)) (λJ k=>T.br (λh0=>?_) λh0=>k _ ⟨λh=>(by cases h),λh=>by rw [h0] at h;cases h.1⟩) λc hc=>?_
  ·have h1:=zOT h0
   subst h1
   exact T.eq eg (k _ (by rw [decide_eq_true_iff];exact ⟨λh=>⟨rfl,h⟩,λh=>h.2⟩))
  refine T.jp (λd=>d=true ↔ ((decide (i=0)=true/\y=128) \/ 144115188075855872 <= v)) (λJ k=>T.br (λh1=>k _ ⟨λ_=>.inl (hc.1 h1),λ_=>rfl⟩) λh1=>k _ ?_) λd hd=>T.br (λh1=>T.some ?_) λh1=>?_
  ·rw [decide_eq_true_iff]
   exact ⟨.inr,λh=>h.resolve_left λh2=>by rw [hc.2 h2] at h1;cases h1⟩
  ·rw [if_pos (hd.1 h1)] at q3;exact q3
  ·have hno:¬ ((decide (i=0)=true/\y=128) \/ 144115188075855872 <= v):=λh=>by rw [hd.2 h] at h1;cases h1
   rw [if_neg hno] at q3
   refine T.asr rfl (T.eq eg (T.eq eg (T.br (λh2=>T.ck (by omega) (T.some ?_)) λh2=>T.ck (by omega) (hL _ ⟨by dsimp only;omega,by dsimp only;omega,?_⟩ (by dsimp only;omega)))))
   ·rw [if_pos (zOT h2)] at q3;exact q3
   ·rw [if_neg (zOF h2)] at q3
    dsimp only
    rw [zDF (show ¬ i + 1=0 by omega)]
    exact q3
 ·have h:=zOF h
  rw [zDn (by omega),zqt] at q3
  exact q3
theorem groupsC (b:List UInt8) (hb:b.length <= 68719476736):zdC b=some (grpP true 0 0 b):=by
 refine T.eqs ?_
 unfold zdC
 refine T.lp (ι:=UInt64 × Int) (λq=>0 <= q.2/\q.2 <= (b.length:Int)/\grpP (decide (q.2=0)) q.1 q.2 (b.drop q.2.toNat)=grpP true 0 0 b) (λq=>((b.length:Int) - q.2).toNat) ⟨zIl _,by dsimp only;omega,rfl⟩ (by dsimp only;omega) λL q ⟨q1,q2,q3⟩ hL=>?_
 obtain ⟨v,i⟩:=q
 dsimp only at q1 q2 q3 hL ⊢
 refine T.br (λh=>?_) λh=>T.some ?_
 ·have h:=zOT h
  refine T.get q1 h λy hy=>?_
  rw [zrY q1 hy,zl1] at q3
  refine T.and' (T.jp (λd=>d=true ↔ ((decide (i=0)=true/\y=128) \/ 144115188075855872 <= v)) (λJ k=>T.br (λh1=>k _ ⟨λ_=>.inl ?_,λ_=>rfl⟩) λh1=>k _ ?_) λd hd=>T.br (λh1=>T.some ?_) λh1=>?_)
  ·rw [zBa,decide_eq_true_iff (p:=y=128)] at h1;exact h1
  ·have e:(!decide (v >>> 57=0))=decide (144115188075855872 <= v):=by
    by_cases h2:144115188075855872 <= v
    ·rw [zDT h2,zDF λh3=>(shr57 v).1 h3 h2];rfl
    ·rw [zDF h2,zDT ((shr57 v).2 h2)];rfl
   rw [e,decide_eq_true_iff]
   refine ⟨.inr,λh=>h.resolve_left λh2=>?_⟩
   rw [h2.1,zDT h2.2] at h1;cases h1
  ·rw [if_pos (hd.1 h1)] at q3;exact q3
  ·have hno:¬ ((decide (i=0)=true/\y=128) \/ 144115188075855872 <= v):=λh=>by rw [hd.2 h] at h1;cases h1
   rw [if_neg hno] at q3
   refine T.asr rfl (T.br (λh2=>T.ck (by omega) (T.some ?_)) λh2=>T.ck (by omega) (hL _ ⟨by dsimp only;omega,by dsimp only;omega,?_⟩ (by dsimp only;omega)))
   ·rw [if_pos (zOT h2)] at q3;exact q3
   ·rw [if_neg (zOF h2)] at q3
    dsimp only
    rw [zDF (show ¬ i + 1=0 by omega)]
    exact q3
 ·have h:=zOF h
  rw [zDn (by omega),zqt] at q3
  exact q3

/-! ### Numbers of octets -/
def bval (l:List UInt8):Nat:=l.foldl (λv y=>256 * v + y.toNat) 0
def uval8 (l:List UInt8):UInt64:=l.foldl (λv y=>shl64 v (8:UInt64).toNat ||| y.toUInt64) 0
theorem zj1 (l:List UInt8) (y:UInt8):bval (l ++ [y])=256 * bval l + y.toNat:=by simp [bval]
theorem znl (l:List UInt8) (y:UInt8):uval8 (l ++ [y])=shl64 (uval8 l) (8:UInt64).toNat ||| y.toUInt64:=by simp [uval8]
theorem zlR {P:List UInt8->Prop} (h0:P []) (h1:∀ l y,P l->P (l ++ [y])) (l:List UInt8):P l:=by
 have:∀ m:List UInt8,P m.reverse:=λm=>by
  induction m with
  | nil=>exact h0
  | cons a m ih=>rw [List.reverse_cons];exact h1 _ _ ih
 have h:=this l.reverse
 rwa [List.reverse_reverse] at h
theorem zvm (l:List UInt8):bval l < 256 ^ l.length:=zlR (P:=λl=>bval l < 256 ^ l.length) (by simp [bval]) (λl y ih=>by
 have:=y.toNat_lt
 rw [zj1,zLa,zLs,Nat.pow_succ];omega) l
theorem pow8 {n:Nat} (h:n <= 7):256 ^ n <= 72057594037927936:=Nat.le_trans (Nat.pow_le_pow_right (by omega) h) (by decide)
theorem zto (l:List UInt8):l.length <= 8->(uval8 l).toNat=bval l:=zlR (P:=λl=>l.length <= 8->(uval8 l).toNat=bval l) (λ_=>rfl) (λl y ih h=>by
 rw [zLa,zLs] at h
 have h1:=ih (by omega)
 have h2:=Nat.lt_of_lt_of_le (zvm l) (pow8 (show l.length <= 7 by omega))
 have h3:=y.toNat_lt
 have e8:(8:UInt64).toNat=8:=rfl
 rw [znl,zj1,UInt64.toNat_or,e8]
 have e1:(shl64 (uval8 l) 8).toNat=256 * bval l:=by
  unfold shl64
  first
   | (rw [UInt64.toNat_ofNat',h1];omega)
   | (simp only [UInt64.toNat_shiftLeft,UInt64.toNat_ofNat',h1,Nat.shiftLeft_eq];omega)
   | (split <;> simp only [UInt64.toNat_shiftLeft,UInt64.toNat_ofNat',h1,Nat.shiftLeft_eq] <;> omega)
 rw [e1,UInt8.toNat_toUInt64,show 256 * bval l=bval l <<< 8 by rw [Nat.shiftLeft_eq];omega,<- Nat.shiftLeft_add_eq_or_of_lt (by omega),Nat.shiftLeft_eq]) l
def beN (v:Nat):List UInt8:=if h:v < 256 then [UInt8.ofNat v] else beN (v / 256) ++ [UInt8.ofNat (v % 256)]
termination_by v
decreasing_by omega
theorem zpQ (l:List UInt8):l ≠ []->(beN (bval l)=l ↔ (l.length=1 \/ l.head? ≠ some 0)):=zlR (P:=λl=>l ≠ []->(beN (bval l)=l ↔ (l.length=1 \/ l.head? ≠ some 0))) (λh=>absurd rfl h) (λl y ih _=>by
 have hy:=y.toNat_lt
 rw [zj1]
 by_cases hl:l=[]
 ·subst hl
  have:256 * bval [] + y.toNat=y.toNat:=by simp [bval]
  rw [this,beN,dif_pos hy,UInt8.ofNat_toNat]
  exact ⟨λ_=>.inl rfl,λ_=>rfl⟩
 ·have hh:(l ++ [y]).head?=l.head?:=by
   cases l with
   | nil=>exact absurd rfl hl
   | cons a r=>rfl
  have hlen:l.length ≠ 0:=λh=>hl (List.length_eq_zero_iff.1 h)
  rw [hh,zLa,zLs]
  by_cases hv:bval l=0
  ·have h0:l.head?=some 0:=by
    have:∀ l:List UInt8,l ≠ []->bval l=0->l.head?=some 0:=λl=>zlR (P:=λl=>l ≠ []->bval l=0->l.head?=some 0) (λh=>absurd rfl h) (λl y ih _ h=>by
     rw [zj1] at h
     by_cases hl:l=[]
     ·subst hl
      have:y.toNat=0:=by omega
      have:y=0:=UInt8.toNat_inj.1 this
      rw [this];rfl
     ·have:=ih hl (by omega)
      cases l with
      | nil=>exact absurd rfl hl
      | cons a r=>exact this) l
    exact this l hl hv
   have e:256 * bval l + y.toNat=y.toNat:=by omega
   rw [e,beN,dif_pos hy]
   refine ⟨λh=>?_,λh=>?_⟩
   ·have:=congrArg List.length h
    rw [zLa,zLs,zLs] at this;omega
   ·rcases h with h | h
    ·omega
    ·exact absurd h0 h
  ·rw [beN,dif_neg (by omega)]
   have e1:(256 * bval l + y.toNat) / 256=bval l:=by omega
   have e2:(256 * bval l + y.toNat) % 256=y.toNat:=by omega
   rw [e1,e2,UInt8.ofNat_toNat]
   have key:(beN (bval l)=l ↔ (l.length=1 \/ l.head? ≠ some 0)):=ih hl
   have h1:l.length=1->l.head? ≠ some 0:=λh1 h2=>by
    match l,h1 with
    | [a],_ =>
     have:a=0:=by simpa using h2
     subst this
     exact hv rfl
   constructor
   ·intro h
    have:=List.append_inj_left' h rfl
    exact .inr ((key.1 this).elim h1 id)
   ·intro h
    have h2:l.head? ≠ some 0:=h.elim (λh=>by omega) id
    rw [key.2 (.inr h2)]) l
theorem zqd (v:UInt64):zfA v=some (beN v.toNat):=by
 refine T.eqs ?_
 unfold zfA
 refine T.lp (ι:=UInt64 × List UInt8) (λq=>∃ l,q.2=UInt8.ofNat (q.1.toNat % 256) :: l/\l.length <= 8/\(q.1.toNat < 256 ^ (8 - l.length))/\beN v.toNat=beN q.1.toNat ++ l) (λq=>10 - q.2.length) ⟨[],by dsimp only;exact congrArg (λz=>[z]) (UInt8.toNat_inj.1 (by rw [UInt64.toNat_toUInt8,UInt8.toNat_ofNat'];omega)),zNz _,by have:=v.toNat_lt;exact this,(List.append_nil _).symm⟩ (by dsimp only;omega) λL q ⟨l,q1,q2,q3,q4⟩ hL=>T.br (λh=>?_) λh=>T.some ?_
 ·have h:=UInt64.lt_iff_toNat_lt.1 (zOT h)
  have e255:(255:UInt64).toNat=255:=rfl
  rw [e255] at h
  have e:(q.1 >>> 8).toNat=q.1.toNat / 256:=by
   rw [UInt64.toNat_shiftRight,Nat.shiftRight_eq_div_pow];rfl
  have hl:l.length < 8:=by
   rcases Nat.lt_or_ge l.length 8 with h8 | h8
   ·exact h8
   ·rw [show 8 - l.length=0 by omega] at q3
    have:q.1.toNat < 1:=q3
    omega
  refine T.abl (by rw [q1];simp only [zLc,zLn];omega) (hL _ ⟨UInt8.ofNat (q.1.toNat % 256) :: l,?_,by rw [zLc];omega,?_,?_⟩ (by dsimp only;rw [q1];simp only [zLa,zLc,zLn];omega))
  ·dsimp only
   rw [q1]
   show _ :: _=_
   congr 1
   refine UInt8.toNat_inj.1 ?_
   rw [UInt64.toNat_toUInt8,UInt8.toNat_ofNat'];omega
  ·dsimp only
   rw [e,zLc]
   have:256 ^ (8 - l.length)=256 ^ (8 - (l.length + 1)) * 256:=by rw [show 8 - l.length=(8 - (l.length + 1)) + 1 by omega,Nat.pow_succ]
   rw [this] at q3
   omega
  ·dsimp only
   rw [e,q4]
   conv=>lhs;rw [beN,dif_neg (by omega)]
   rw [zLA];rfl
 ·have h:¬ (255:UInt64).toNat < q.1.toNat:=λh2=>zOF h (UInt64.lt_iff_toNat_lt.2 h2)
  have e255:(255:UInt64).toNat=255:=rfl
  rw [e255] at h
  rw [q4,beN,dif_pos (by omega),q1,show q.1.toNat % 256=q.1.toNat by omega];rfl
def unsP (b:List UInt8):UInt64 × Int:=if b=[] then (0,3) else if 8 < b.length \/ (1 < b.length/\b.head?=some 0) then (0,4) else (uval8 b,0)
theorem takeD {b:List UInt8} {q:Int} {y:UInt8} (q0:0 <= q) (hy:b[q.toNat]?=some y):uval8 (b.take (q + 1).toNat)=shl64 (uval8 (b.take q.toNat)) (8:UInt64).toNat ||| y.toUInt64:=by
 rw [show (q + 1).toNat=q.toNat + 1 by omega,List.take_add_one,hy]
 exact znl _ _
theorem unsR (b:List UInt8):zdO b=some (unsP b):=by
 refine T.eqs ?_
 unfold zdO
 refine T.br (λh=>T.some ?_) λh=>T.br (λh8=>T.some ?_) λh8=>?_
 ·have:b=[]:=List.length_eq_zero_iff.1 (by have:=zOT h;omega)
  unfold unsP;rw [if_pos this]
 ·have h8:=zOT h8
  have hne:b ≠ []:=λe=>zOF h (by rw [e];rfl)
  unfold unsP;rw [if_neg hne,if_pos (.inl (by omega))]
 have h8:=zOF h8
 have hne:b ≠ []:=λe=>zOF h (by rw [e];rfl)
 refine T.lp (ι:=UInt64 × Int) (λq=>0 <= q.2/\q.2 <= (b.length:Int)/\q.1=uval8 (b.take q.2.toNat)) (λq=>((b.length:Int) - q.2).toNat) ⟨zIl _,by dsimp only;omega,rfl⟩ (by dsimp only;omega) λL q ⟨q1,q2,q3⟩ hL=>T.br (λhb=>?_) λhb=>?_
 ·have hb:=zOT hb
  refine T.asr rfl (T.get q1 hb λy hy=>T.ck (by omega) (hL _ ⟨by dsimp only;omega,by dsimp only;omega,?_⟩ (by dsimp only;omega)))
  dsimp only
  rw [takeD q1 hy,q3]
 ·have hb:=zOF hb
  rw [zTl (by omega)] at q3
  refine T.eq (zqd _) (T.eq (y:=decide (beN (bval b)=b)) ?_ (T.br (λh2=>T.some ?_) λh2=>T.some ?_))
  ·unfold zkx
   rw [q3,zto b (by omega)]
   exact congrArg some (decide_eq_decide.2 ⟨λh=>by injection h,λh=>by rw [h]⟩)
  ·have h2:¬ beN (bval b)=b:=by simpa using h2
   rw [zpQ b hne] at h2
   have h0:b.length ≠ 0:=λe=>hne (List.length_eq_zero_iff.1 e)
   have h1:b.length ≠ 1:=λe=>h2 (.inl e)
   have h3:b.head?=some 0:=Classical.byContradiction λe=>h2 (.inr e)
   have hh:8 < b.length \/ (1 < b.length/\b.head?=some 0):=.inr ⟨by omega,h3⟩
   unfold unsP
   rw [if_neg hne,if_pos hh]
  ·have h2:beN (bval b)=b:=by simpa using h2
   rw [zpQ b hne] at h2
   unfold unsP
   rw [if_neg hne,if_neg,q3]
   rintro (h3 | ⟨h3,h4⟩)
   ·omega
   ·rcases h2 with h2 | h2
    ·omega
    ·exact h2 h4
theorem unsC (b:List UInt8):zdf b=some (unsP b):=by
 refine T.eqs ?_
 unfold zdf
 refine T.br (λh=>T.some ?_) λh=>?_
 ·have:b=[]:=List.length_eq_zero_iff.1 (by have:=zOT h;omega)
  unfold unsP;rw [if_pos this]
 have hne:b ≠ []:=λe=>zOF h (by rw [e];rfl)
 obtain ⟨y,r,rfl⟩:=List.exists_cons_of_ne_nil hne
 refine T.jp (λc=>c=true ↔ (8 < (y :: r).length \/ (1 < (y :: r).length/\(y :: r).head?=some 0))) (λJ k=>T.br (λh8=>k _ ⟨λ_=>.inl (by have:=zOT h8;omega),λ_=>rfl⟩) λh8=>?_) λc hc=>T.br (λh2=>T.some ?_) λh2=>?_
 ·have h8:=zOF h8
  refine T.jp (λd=>d=true ↔ (1 < (y :: r).length/\(y :: r).head?=some 0)) (λJ2 k2=>T.br (λh1=>T.eq (y:=y) rfl (k2 _ ?_)) λh1=>k2 _ ⟨λh=>(by cases h),λh=>absurd h.1 (by have:=zOF h1;omega)⟩) λd hd=>k _ (hd.trans ⟨.inr,λh=>h.resolve_left (by omega)⟩)
  have h1:=zOT h1
  rw [decide_eq_true_iff]
  exact ⟨λe=>⟨by omega,by rw [e];rfl⟩,λe=>by have:=e.2;simpa using this⟩
 ·unfold unsP;rw [if_neg hne,if_pos (hc.1 h2)]
 ·have hno:¬ (8 < (y :: r).length \/ (1 < (y :: r).length/\(y :: r).head?=some 0)):=λh=>by rw [hc.2 h] at h2;cases h2
  have h8:(y :: r).length <= 8:=by
   rcases Nat.lt_or_ge 8 (y :: r).length with h | h
   ·exact absurd (.inl h) hno
   ·exact h
  refine T.eq (y:=uval8 (y :: r)) ?_ (T.some ?_)
  ·refine T.eqs ?_
   unfold zgM
   generalize y :: r=b at h8
   refine T.lp (ι:=UInt64 × Int) (λq=>0 <= q.2/\q.2 <= (b.length:Int)/\q.1=uval8 (b.take q.2.toNat)) (λq=>((b.length:Int) - q.2).toNat) ⟨zIl _,by dsimp only;omega,rfl⟩ (by dsimp only;omega) λL q ⟨q1,q2,q3⟩ hL=>T.br (λhb=>?_) λhb=>T.some ?_
   ·have hb:=zOT hb
    refine T.get q1 hb λy hy=>T.asr rfl (T.ck (by omega) (hL _ ⟨by dsimp only;omega,by dsimp only;omega,?_⟩ (by dsimp only;omega)))
    dsimp only
    rw [takeD q1 hy,q3]
   ·have hb:=zOF hb
    rw [zTl (by omega)] at q3
    exact q3
  ·unfold unsP;rw [if_neg hne,if_neg hno]
end Go.Proofs.Q


namespace Go.Proofs.Q
open Go.Sy
set_option linter.unusedVariables false

theorem zmM:∀ (l:List UInt8) (f:Bool) (v:UInt64) (n:Int),(grpP f v n l).2.2=0->n < (grpP f v n l).2.1/\(grpP f v n l).2.1 <= n + l.length
 | [],f,v,n,h=>by cases h
 | y :: r,f,v,n,h=>by
  rw [zl1] at h ⊢
  split at h
  ·cases h
  ·rename_i h1
   rw [if_neg h1]
   split at h
   ·rename_i h2
    rw [if_pos h2]
    dsimp only;rw [zLc];omega
   ·rename_i h2
    rw [if_neg h2]
    have:=zmM r _ _ _ h
    rw [zLc];omega
def numP (y:UInt8) (r:List UInt8):Int × Int × Int:=if (y &&& 31).toNat=31 then
    (if (grpP true 0 0 r).2.2 ≠ 0 then (0,0,(grpP true 0 0 r).2.2) else if (grpP true 0 0 r).1 < 31 \/ 268435456 < (grpP true 0 0 r).1 then (0,0,4) else (((grpP true 0 0 r).1.toNat:Int),(grpP true 0 0 r).2.1,0))
  else (((y &&& 31).toNat:Int),0,0)
theorem zpi {y:UInt8} {r:List UInt8} (h:(numP y r).2.2=0):0 <= (numP y r).2.1/\(numP y r).2.1 <= r.length:=by
 unfold numP at h ⊢
 split at h
 ·rename_i h1
  rw [if_pos h1]
  split at h
  ·rename_i h2;exact absurd h h2
  ·rename_i h2
   rw [if_neg h2]
   split at h
   ·cases h
   ·rename_i h3
    rw [if_neg h3]
    have:=zmM r true 0 0 (Classical.byContradiction λe=>h2 e)
    dsimp only;omega
 ·rename_i h1
  rw [if_neg h1]
  exact ⟨zIl _,Int.natCast_nonneg _⟩
def lenP:List UInt8->Int × Int × Int
 | []=>(0,0,3)
 | y :: r=>if y.toNat < 128 then ((y.toNat:Int),1,0) else if y.toNat=128 \/ 136 < y.toNat then (0,0,4) else if r.length < y.toNat - 128 then (0,0,3) else
  if (unsP (r.take (y.toNat - 128))).2 ≠ 0 \/ (unsP (r.take (y.toNat - 128))).1 < 128 \/ 2147483647 < (unsP (r.take (y.toNat - 128))).1 then (0,0,4) else (((unsP (r.take (y.toNat - 128))).1.toNat:Int),1 + ((y.toNat - 128:Nat):Int),0)
theorem zfn (y:UInt8) (r:List UInt8):lenP (y :: r)=if y.toNat < 128 then ((y.toNat:Int),1,0) else if y.toNat=128 \/ 136 < y.toNat then (0,0,4) else if r.length < y.toNat - 128 then (0,0,3) else
    if (unsP (r.take (y.toNat - 128))).2 ≠ 0 \/ (unsP (r.take (y.toNat - 128))).1 < 128 \/ 2147483647 < (unsP (r.take (y.toNat - 128))).1 then (0,0,4) else (((unsP (r.take (y.toNat - 128))).1.toNat:Int),1 + ((y.toNat - 128:Nat):Int),0):=rfl
theorem zlj {a b:UInt64} (h:¬ a < b):b.toNat <= a.toNat:=by
 rcases Nat.lt_or_ge a.toNat b.toNat with h1 | h1
 ·exact absurd (UInt64.lt_iff_toNat_lt.2 h1) h
 ·exact h1
theorem zrN {l:List UInt8} (h:(lenP l).2.2=0):0 <= (lenP l).1/\(lenP l).1 <= 2147483647/\0 < (lenP l).2.1/\(lenP l).2.1 <= l.length:=by
 cases l with
 | nil=>cases h
 | cons y r =>
  have hy:=y.toNat_lt
  rw [zfn] at h ⊢
  split at h
  ·rename_i h1
   rw [if_pos h1]
   dsimp only;rw [zLc];omega
  ·rename_i h1
   rw [if_neg h1]
   split at h
   ·cases h
   ·rename_i h2
    rw [if_neg h2]
    split at h
    ·cases h
    ·rename_i h3
     rw [if_neg h3]
     split at h
     ·cases h
     ·rename_i h4
      rw [if_neg h4]
      have e:(2147483647:UInt64).toNat=2147483647:=rfl
      have:=zlj (λe=>h4 (.inr (.inr e)))
      rw [e] at this
      dsimp only
      rw [zLc]
      omega
def hz (e:Int):Tag × Bool × Int × Int × Int:=(Tag.mk 0 0,false,0,0,e)
def headP:List UInt8->Tag × Bool × Int × Int × Int
 | []=>hz 3
 | y :: r=>if (numP y r).2.2 ≠ 0 then hz (numP y r).2.2 else if (lenP (r.drop (numP y r).2.1.toNat)).2.2 ≠ 0 then hz (lenP (r.drop (numP y r).2.1.toNat)).2.2 else
  (Tag.mk ((shr8 y (6:UInt64).toNat).toNat:Int) (numP y r).1,!decide (y &&& 32=0),(lenP (r.drop (numP y r).2.1.toNat)).1,1 + (numP y r).2.1 + (lenP (r.drop (numP y r).2.1.toNat)).2.1,0)
theorem zhd (y:UInt8) (r:List UInt8):headP (y :: r)=if (numP y r).2.2 ≠ 0 then hz (numP y r).2.2 else if (lenP (r.drop (numP y r).2.1.toNat)).2.2 ≠ 0 then hz (lenP (r.drop (numP y r).2.1.toNat)).2.2 else
    (Tag.mk ((shr8 y (6:UInt64).toNat).toNat:Int) (numP y r).1,!decide (y &&& 32=0),(lenP (r.drop (numP y r).2.1.toNat)).1,1 + (numP y r).2.1 + (lenP (r.drop (numP y r).2.1.toNat)).2.1,0):=rfl
theorem and31:∀ X:Fin 256,(UInt8.ofNat X.val &&& 31).toNat <= 31:=by decide +kernel
theorem and31' (y:UInt8):(y &&& 31).toNat <= 31:=by
 have:=and31 ⟨y.toNat,y.toNat_lt⟩
 simpa only [UInt8.ofNat_toNat] using this
theorem not128:∀ X:Fin 256,128 <= X.val->(UInt8.ofNat X.val &&& ~~~(128:UInt8)).toNat=X.val - 128:=by decide +kernel
theorem not128' {y:UInt8} (h:128 <= y.toNat):(y &&& ~~~(128:UInt8)).toNat=y.toNat - 128:=by
 have:=not128 ⟨y.toNat,y.toNat_lt⟩ h
 simpa only [UInt8.ofNat_toNat] using this
theorem tl1 (y:UInt8) (r:List UInt8):(((y :: r).take (((y :: r).length:Nat):Int).toNat).drop (1:Int).toNat)=r:=by
 rw [Int.toNat_natCast,List.take_length];rfl
theorem ztv (y:UInt8) (r:List UInt8) (hl:r.length <= 68719476736):zg9 (y :: r)=some (numP y r):=by
 have h31:=and31' y
 refine T.eqs ?_
 unfold zg9
 refine T.eq (y:=y) rfl (T.br (λh=>T.some ?_) λh=>?_)
 ·have h:=zOT h
  unfold numP;rw [if_neg (by omega)]
 ·have h:=zOF h
  refine T.asd (by rw [zLc];omega) ?_
  rw [tl1]
  have hle:=zmM r true 0 0
  unfold numP
  rw [if_pos (show (y &&& 31).toNat=31 by omega)]
  generalize hg:grpP true 0 0 r=g at hle ⊢
  refine T.eq (y:=g) (by rw [groupsC r (by omega),hg]) (T.br (λh2=>T.some ?_) λh2=>?_)
  ·rw [if_pos (by simpa using h2)]
  ·have h2:g.2.2=0:=by simpa using h2
   rw [if_neg (λe=>e h2)]
   refine T.or' (T.br (λh3=>T.some ?_) λh3=>?_)
   ·rw [Bool.or_eq_true,decide_eq_true_iff,decide_eq_true_iff] at h3
    rw [if_pos h3]
   ·rw [Bool.or_eq_false_iff] at h3
    have e3:¬ (g.1 < 31 \/ 268435456 < g.1):=λe=>e.elim (zOF h3.1) (zOF h3.2)
    rw [if_neg e3]
    have:=zlj (zOF h3.2)
    have e:(268435456:UInt64).toNat=268435456:=rfl
    exact T.ck (by omega) (T.some rfl)
theorem ztX (l:List UInt8) (hl:l.length <= 68719476736):zhj l=some (lenP l):=by
 refine T.eqs ?_
 unfold zhj
 cases l with
 | nil=>exact T.br (λ_=>T.some rfl) λh=>by cases h
 | cons y r =>
  have hy:=y.toNat_lt
  have e128:(128:UInt8).toNat=128:=rfl
  refine T.br (λh=>absurd (zOT h) (by rw [zLc];omega)) λ_=>T.eq (y:=y) rfl (T.br (λh=>T.eq (y:=y) rfl (T.some ?_)) λh=>T.eq (y:=y) rfl ?_)
  ·have h:=UInt8.lt_iff_toNat_lt.1 (zOT h)
   rw [zfn,if_pos (by omega)]
  ·have h1:¬ y.toNat < 128:=λh2=>zOF h (UInt8.lt_iff_toNat_lt.2 (by omega))
   have e:=not128' (y:=y) (by omega)
   rw [zfn,if_neg h1]
   refine T.or' (T.br (λh2=>T.some ?_) λh2=>?_)
   ·rw [Bool.or_eq_true,decide_eq_true_iff,decide_eq_true_iff,e] at h2
    rw [if_pos (by omega)]
   ·rw [Bool.or_eq_false_iff,decide_eq_false_iff_not,decide_eq_false_iff_not,e] at h2
    rw [if_neg (by omega)]
    refine T.br (λh3=>T.some ?_) λh3=>?_
    ·have h3:=zOT h3
     rw [e,zLc] at h3
     rw [if_pos (by omega)]
    ·have h3:=zOF h3
     rw [e,zLc] at h3
     rw [if_neg (by omega)]
     refine T.ck (by rw [e];omega) (T.asd (by rw [e,zLc];omega) ?_)
     have es:(((y :: r).take ((1:Int) + ((y &&& ~~~(128:UInt8)).toNat:Int)).toNat).drop (1:Int).toNat)=r.take (y.toNat - 128):=by
      rw [e,show ((1:Int) + ((y.toNat - 128:Nat):Int)).toNat=(y.toNat - 128) + 1 by omega,List.take_succ_cons,show (1:Int).toNat=1 from rfl,List.drop_succ_cons,List.drop_zero]
     rw [es]
     have e1:(128:UInt64).toNat=128:=rfl
     have e2:(2147483647:UInt64).toNat=2147483647:=rfl
     generalize hu:unsP (r.take (y.toNat - 128))=u
     refine T.eq (y:=u) (by rw [unsC,hu]) (T.or' (T.or' (T.br (λh4=>T.some ?_) λh4=>?_)))
     ·rw [Bool.or_eq_true,Bool.or_eq_true,decide_eq_true_iff,decide_eq_true_iff] at h4
      rw [if_pos]
      rcases h4 with (h4 | h4) | h4
      ·exact .inl (by simpa using h4)
      ·exact .inr (.inl h4)
      ·exact .inr (.inr h4)
     ·rw [Bool.or_eq_false_iff,Bool.or_eq_false_iff,decide_eq_false_iff_not,decide_eq_false_iff_not] at h4
      have h5:=zlj h4.2
      rw [if_neg]
      ·exact T.ck (by omega) (T.ck (by rw [e];omega) (T.some (by rw [e])))
      ·rintro (h6 | h6 | h6)
       ·have:=h4.1.1;exact h6 (by simpa using this)
       ·exact h4.1.2 h6
       ·exact h4.2 h6
theorem drop1 (y:UInt8) (r:List UInt8) {n:Int} (h:0 <= n):(((y :: r).take (((y :: r).length:Nat):Int).toNat).drop ((1:Int) + n).toNat)=r.drop n.toNat:=by
 rw [Int.toNat_natCast,List.take_length,show ((1:Int) + n).toNat=n.toNat + 1 by omega,List.drop_succ_cons]
theorem zvF (b:List UInt8) (hl:b.length <= 68719476736):zfU b=some (headP b):=by
 refine T.eqs ?_
 unfold zfU
 cases b with
 | nil=>exact T.br (λ_=>T.some rfl) λh=>by cases h
 | cons y r =>
  rw [zLc] at hl
  refine T.br (λh=>absurd (zOT h) (by rw [zLc];omega)) λ_=>T.eq (ztv y r (by omega)) ?_
  have hn:=zpi (y:=y) (r:=r)
  rw [zhd]
  generalize numP y r=n at hn ⊢
  refine T.br (λh=>T.some ?_) λh=>?_
  ·rw [if_pos (by simpa using h)];rfl
  have h:n.2.2=0:=by simpa using h
  have hn:=hn h
  rw [if_neg (λe=>e h)]
  refine T.ck (by omega) (T.asd (by rw [zLc];omega) ?_)
  rw [drop1 y r hn.1]
  have hle:=zrN (l:=r.drop n.2.1.toNat)
  refine T.eq (ztX _ (by rw [zLd];omega)) ?_
  rw [zLd] at hle
  generalize lenP (r.drop n.2.1.toNat)=l at hle ⊢
  refine T.br (λh=>T.some ?_) λh=>?_
  ·rw [if_pos (by simpa using h)];rfl
  have h:l.2.2=0:=by simpa using h
  have hle:=hle h
  rw [if_neg (λe=>e h)]
  exact T.eq (y:=y) rfl (T.asr rfl (T.eq (y:=y) rfl (T.ck (by omega) (T.ck (by omega) (T.some rfl)))))
theorem zpN {b:List UInt8} (h:(headP b).2.2.2.2=0):0 <= (headP b).2.2.1/\(headP b).2.2.1 <= 2147483647/\0 <= (headP b).2.2.2.1/\(headP b).2.2.2.1 <= b.length:=by
 cases b with
 | nil=>cases h
 | cons y r =>
  have hn:=zpi (y:=y) (r:=r)
  have hle:=zrN (l:=r.drop (numP y r).2.1.toNat)
  rw [zhd] at h ⊢
  split at h
  ·rename_i h1;exact absurd h h1
  ·rename_i h1
   rw [if_neg h1]
   have hn:=hn (Classical.byContradiction λe=>h1 e)
   split at h
   ·rename_i h2;exact absurd h h2
   ·rename_i h2
    rw [if_neg h2]
    have hle:=hle (Classical.byContradiction λe=>h2 e)
    rw [zLd] at hle
    dsimp only
    rw [zLc]
    omega
theorem zvV (b:List UInt8) (hl:b.length <= 68719476736):zfP b=some (headP b):=by
 refine T.eqs ?_
 unfold zfP
 cases b with
 | nil=>exact T.br (λ_=>T.some rfl) λh=>by cases h
 | cons y r =>
  rw [zLc] at hl
  have h31:=and31' y
  have hn:=zpi (y:=y) (r:=r)
  have hg:=zmM r true 0 0
  refine T.br (λh=>absurd (zOT h) (by rw [zLc];omega)) λ_=>T.eq (y:=y) rfl (T.asr rfl (T.eq (y:=y) rfl (T.eq (y:=y) rfl ?_)))
  refine T.jp (λ(q:Int × Tag)=>(numP y r).2.2=0/\q=(1 + (numP y r).2.1,Tag.mk ((shr8 y (6:UInt64).toNat).toNat:Int) (numP y r).1)) (λJ k=>T.br (λh=>?_) λh=>k _ ?_) λq ⟨hq,eq⟩=>?_
  ·have h:(y &&& 31).toNat=31:=by have:=zOT h;omega
   refine T.asd (by rw [zLc];omega) ?_
   rw [tl1]
   refine T.eq (groupsR r (by omega)) (T.br (λh2=>T.some ?_) λh2=>?_)
   ·have h2:(grpP true 0 0 r).2.2 ≠ 0:=by simpa using h2
    have hN:numP y r=(0,0,(grpP true 0 0 r).2.2):=by unfold numP;rw [if_pos h,if_pos h2]
    rw [zhd,hN,if_pos h2];rfl
   ·have h2:(grpP true 0 0 r).2.2=0:=by simpa using h2
    have h2n:¬ (grpP true 0 0 r).2.2 ≠ 0:=λe=>e h2
    refine T.or' (T.br (λh3=>T.some ?_) λh3=>?_)
    ·rw [Bool.or_eq_true,decide_eq_true_iff,decide_eq_true_iff] at h3
     have hN:numP y r=(0,0,4):=by unfold numP;rw [if_pos h,if_neg h2n,if_pos h3]
     rw [zhd,hN,if_pos (show ((0,0,4):Int × Int × Int).2.2 ≠ 0 by decide)];rfl
    ·rw [Bool.or_eq_false_iff] at h3
     have e3:¬ ((grpP true 0 0 r).1 < 31 \/ 268435456 < (grpP true 0 0 r).1):=λe=>e.elim (zOF h3.1) (zOF h3.2)
     have hN:numP y r=(((grpP true 0 0 r).1.toNat:Int),(grpP true 0 0 r).2.1,0):=by unfold numP;rw [if_pos h,if_neg h2n,if_neg e3]
     have:=zlj (zOF h3.2)
     have e:(268435456:UInt64).toNat=268435456:=rfl
     have:=hg h2
     exact T.ck (by omega) (T.ck (by omega) (k _ (by rw [hN];exact ⟨rfl,rfl⟩)))
  ·have h:¬ (y &&& 31).toNat=31:=by have:=zOF h;omega
   unfold numP
   rw [if_neg h]
   exact ⟨rfl,rfl⟩
  ·subst eq
   have hn:=hn hq
   rw [zhd,if_neg (λe=>e hq)]
   generalize numP y r=n at hn hq ⊢
   have hlc:(y :: r).length=r.length + 1:=rfl
   have hdr:((y :: r):List UInt8)[(1 + n.2.1).toNat]?=(r.drop n.2.1.toNat)[0]?:=by
    rw [show (1 + n.2.1).toNat=n.2.1.toNat + 1 by omega,List.getElem?_cons_succ,List.getElem?_drop,Nat.add_zero]
   have hld:(r.drop n.2.1.toNat).length=r.length - n.2.1.toNat:=zLd
   refine T.br (λh=>T.some ?_) λh=>?_
   ·have h:=zOT h
    dsimp only at h
    rw [zDn (by omega)];rfl
   have h:=zOF h
   dsimp only at h
   obtain ⟨z,s,ez⟩:=List.exists_cons_of_ne_nil (show r.drop n.2.1.toNat ≠ [] from λe=>by rw [e] at hld;simp at hld;omega)
   rw [ez] at hdr hld ⊢
   rw [zLc] at hld
   have hz:=z.toNat_lt
   have eg:getI (y :: r) (1 + n.2.1)=some z:=by rw [zbF (by omega) (by omega)];exact congrArg some (List.getElem?_eq_some_iff.1 (show (y :: r)[(1 + n.2.1).toNat]?=some z from hdr)).2
   refine T.eq eg (T.ck (by omega) ?_)
   refine T.jp (λ(q:Int × Int)=>z.toNat < 128/\q=(1 + n.2.1 + 1,(z.toNat:Int)) \/ ¬ z.toNat < 128/\¬ (z.toNat=128 \/ 136 < z.toNat)/\¬ s.length < z.toNat - 128/\¬ ((unsP (s.take (z.toNat - 128))).2 ≠ 0 \/ (unsP (s.take (z.toNat - 128))).1 < 128 \/ 2147483647 < (unsP (s.take (z.toNat - 128))).1)/\q=(1 + n.2.1 + 1 + ((z.toNat - 128:Nat):Int),((unsP (s.take (z.toNat - 128))).1.toNat:Int))) (λJ k=>T.br (λh1=>?_) λh1=>k _ (.inl ⟨by have:=zOF h1;omega,rfl⟩)) λq hq2=>T.some ?_
   ·have h1:=zOT h1
    have h1n:¬ z.toNat < 128:=by omega
    have e:((z.toNat:Int) - 128)=((z.toNat - 128:Nat):Int):=by omega
    rw [e]
    refine T.ck (by omega) (T.or' (T.br (λh2=>T.some ?_) λh2=>?_))
    ·rw [Bool.or_eq_true,decide_eq_true_iff,decide_eq_true_iff] at h2
     have hL:lenP (z :: s)=(0,0,4):=by rw [zfn,if_neg h1n,if_pos (by omega)]
     rw [hL];rfl
    rw [Bool.or_eq_false_iff,decide_eq_false_iff_not,decide_eq_false_iff_not] at h2
    have h2n:¬ (z.toNat=128 \/ 136 < z.toNat):=by omega
    refine T.ck (by omega) (T.br (λh3=>T.some ?_) λh3=>?_)
    ·have h3:=zOT h3
     dsimp only at h3
     have hL:lenP (z :: s)=(0,0,3):=by rw [zfn,if_neg h1n,if_neg h2n,if_pos (by omega)]
     rw [hL];rfl
    have h3:=zOF h3
    dsimp only at h3
    have h3n:¬ s.length < z.toNat - 128:=by omega
    refine T.ck (by omega) (T.asd (by omega) ?_)
    have es:(((y :: r).take ((1 + n.2.1 + 1) + ((z.toNat - 128:Nat):Int)).toNat).drop (1 + n.2.1 + 1).toNat)=s.take (z.toNat - 128):=by
     rw [List.drop_take,show (1 + n.2.1 + 1).toNat=(n.2.1.toNat + 1) + 1 by omega,List.drop_succ_cons,<- List.drop_drop,ez,List.drop_succ_cons,List.drop_zero,show (1 + n.2.1 + 1 + ((z.toNat - 128:Nat):Int)).toNat - (n.2.1.toNat + 1 + 1)=z.toNat - 128 by omega]
    rw [es]
    refine T.eq (unsR _) (T.or' (T.or' (T.br (λh4=>T.some ?_) λh4=>?_)))
    ·rw [Bool.or_eq_true,Bool.or_eq_true,decide_eq_true_iff,decide_eq_true_iff] at h4
     have h5:(unsP (s.take (z.toNat - 128))).2 ≠ 0 \/ (unsP (s.take (z.toNat - 128))).1 < 128 \/ 2147483647 < (unsP (s.take (z.toNat - 128))).1:=by
      rcases h4 with (h4 | h4) | h4
      ·exact .inl (by simpa using h4)
      ·exact .inr (.inl h4)
      ·exact .inr (.inr h4)
     have hL:lenP (z :: s)=(0,0,4):=by rw [zfn,if_neg h1n,if_neg h2n,if_neg h3n,if_pos h5]
     rw [hL];rfl
    ·rw [Bool.or_eq_false_iff,Bool.or_eq_false_iff,decide_eq_false_iff_not,decide_eq_false_iff_not] at h4
     have h5:=zlj h4.2
     have e2:(2147483647:UInt64).toNat=2147483647:=rfl
     refine T.ck (by omega) (T.ck (by omega) (k _ (.inr ⟨h1n,h2n,h3n,?_,rfl⟩)))
     rintro (h6 | h6 | h6)
     ·have:=h4.1.1;exact h6 (by simpa using this)
     ·exact h4.1.2 h6
     ·exact h4.2 h6
   ·rcases hq2 with ⟨g1,g2⟩ | ⟨g1,g2,g3,g4,g5⟩
    ·have hL:lenP (z :: s)=((z.toNat:Int),1,0):=by rw [zfn,if_pos g1]
     rw [hL,g2];rfl
    ·have hL:lenP (z :: s)=(((unsP (s.take (z.toNat - 128))).1.toNat:Int),1 + ((z.toNat - 128:Nat):Int),0):=by rw [zfn,if_neg g1,if_neg g2,if_neg g3,if_neg g4]
     rw [hL,g5,if_neg (λe=>e rfl)]
     dsimp only
     rw [show 1 + n.2.1 + 1 + ((z.toNat - 128:Nat):Int)=1 + n.2.1 + (1 + ((z.toNat - 128:Nat):Int)) by omega]
def takeP (b:List UInt8):Tag × Bool × List UInt8 × Int × Int:=if (headP b).2.2.2.2 ≠ 0 then (Tag.mk 0 0,false,[],0,(headP b).2.2.2.2) else if (b.length:Int) - (headP b).2.2.2.1 < (headP b).2.2.1 then (Tag.mk 0 0,false,[],0,3) else
 ((headP b).1,(headP b).2.1,(b.take ((headP b).2.2.2.1 + (headP b).2.2.1).toNat).drop (headP b).2.2.2.1.toNat,(headP b).2.2.2.1 + (headP b).2.2.1,0)
theorem zvS (b:List UInt8) (hl:b.length <= 68719476736):zjJ b=some (takeP b):=by
 refine T.eqs ?_
 unfold zjJ
 refine T.eq (zvF b hl) ?_
 have hle:=zpN (b:=b)
 unfold takeP
 generalize headP b=h at hle ⊢
 refine T.jp (λc=>(h.2.2.2.2=0->0 <= h.2.2.1)/\(c=true ↔ (h.2.2.2.2=0/\(b.length:Int) - h.2.2.2.1 < h.2.2.1))) (λJ k=>T.br (λh0=>?_) λh0=>k _ ⟨λe=>absurd e (zOF h0),λh=>(by cases h),λh=>absurd h.1 (zOF h0)⟩) λc hc=>?_
 ·have h0:=zOT h0
  have:=hle h0
  exact T.ck (by omega) (k _ ⟨λ_=>by omega,by rw [decide_eq_true_iff];exact ⟨λh=>⟨h0,h⟩,λh=>h.2⟩⟩)
 refine T.jp (λe=>e=if c=true then 3 else h.2.2.2.2) (λJ k=>T.br (λh1=>k _ (by rw [if_pos h1])) λh1=>k _ (by rw [if_neg (by rw [h1];decide)])) λe he=>?_
 subst he
 by_cases h0:h.2.2.2.2=0
 ·have:=hle h0
  rw [if_neg (λe=>e h0)]
  by_cases h1:(b.length:Int) - h.2.2.2.1 < h.2.2.1
  ·rw [if_pos h1,if_pos (hc.2.2 ⟨h0,h1⟩)]
   exact T.br (λ_=>T.some rfl) λh=>by cases h
  ·rw [if_neg h1,if_neg (λe=>h1 (hc.2.1 e).2),h0]
   refine T.br (λh=>by cases h) λ_=>T.ck (by omega) (T.asd (by omega) (T.ck (by omega) (T.abl (by rw [zLd,zLt];simp only [zLn];omega) (T.some rfl))))
 ·rw [if_pos h0,if_neg (λe=>h0 (hc.2.1 e).1)]
  exact T.br (λ_=>T.some rfl) λh2=>absurd (by simpa using h2) h0
theorem zvW (b:List UInt8) (hl:b.length <= 68719476736):zjF b=some (takeP b):=by
 refine T.eqs ?_
 unfold zjF
 refine T.eq (zvV b hl) ?_
 have hle:=zpN (b:=b)
 unfold takeP
 generalize headP b=h at hle ⊢
 refine T.br (λh0=>T.some ?_) λh0=>?_
 ·rw [if_pos (by simpa using h0)]
 have h0:h.2.2.2.2=0:=by simpa using h0
 have:=hle h0
 rw [if_neg (λe=>e h0)]
 refine T.ck (by omega) (T.br (λh1=>T.some ?_) λh1=>?_)
 ·rw [if_pos (zOT h1)]
 have h1:=zOF h1
 rw [if_neg h1]
 refine T.ck (by omega) (T.asd (by omega) (T.ck (by omega) (T.eq (y:=(b.take (h.2.2.2.1 + h.2.2.1).toNat).drop h.2.2.2.1.toNat) ?_ (T.some rfl))))
 refine T.eqs ?_
 unfold zhL
 exact T.abl (by rw [zLd,zLt];simp only [zLn];omega) (T.some rfl)
end Go.Proofs.Q


namespace Go.Proofs.Q
open Go.Sy
set_option linter.unusedVariables false

def frmP (x:GTyp):Nat:=if x.kind=7 then lst x x.root.toNat else 0
def frn (t:GTab) (x:GTyp) (b:List UInt8):Bool:=(decide ((takeP b).2.2.2.2=0) && decide ((takeP b).2.2.2.1=(b.length:Int))) && !((x.fields.drop (frmP x)).any λf=>decide ((takeP b).1 ∈ begT t f.ty))
structure TyF (t:GTab) (i:Int) (x:GTyp):Prop where
 i0:0 <= i
 i1:i < t.types.length
 at_:t.types[i.toNat]?=some x
 fl:x.fields.length <= 1000
 ok:TypOk x
 kids:∃ j,Kids (SubT 16 t.types) (kidsT x) (i.toNat + 1) j/\j <= t.types.length
theorem ztB {t:GTab} (ht:TabOk t) {i:Int} (h0:0 <= i) (h1:i < t.types.length):∃ x,TyF t i x:=by
 have htl:=ht.types
 obtain ⟨j,hj⟩:=SubT.sub ht.kids i.toNat (by omega) (by omega)
 have hjl:=hj.inb
 obtain ⟨x,hx,hok,hkid⟩:=hj
 exact ⟨x,h0,h1,hx,zln hkid hjl (by omega),hok,j,hkid,hjl⟩
theorem TyF.get {t:GTab} {i:Int} {x:GTyp} (h:TyF t i x):getI t.types i=some x:=by rw [zbF h.i0 h.i1];exact congrArg some (List.getElem?_eq_some_iff.1 h.at_).2
theorem TyF.beg {t:GTab} (ht:TabOk t) {i:Int} {x:GTyp} (h:TyF t i x) {f:GFld} (hf:f ∈ x.fields):(begT t f.ty).length <= 1000000:=by
 have htl:=ht.types
 obtain ⟨j,hkid,hj⟩:=h.kids
 obtain ⟨c,d,e1,e2,e3,e4⟩:=Kids.mem3 SubT.le' hkid (zmI f hf)
 have:=ziJ (e2.ups (h':=17) (by decide))
 unfold begT
 rw [e1]
 omega
theorem ztE {x:GTyp} (h:TypOk x):frmP x <= x.fields.length:=by
 unfold frmP
 split
 ·rename_i h7
  have h1:=zrj x x.root.toNat
  have h2:=h.rootF (.inl h7)
  omega
 ·exact zNz _
theorem startsR {t:GTab} (ht:TabOk t) {i:Int} {x:GTyp} (h:TyF t i x) (b:List UInt8) (hb:b.length <= 68719476736):T (λr=>r.2=frn t x b/\(r.2=true->r.1=(takeP b).1)) (zf6 t i b):=by
 unfold zf6
 have hg:∀ {β:Type} {R:β->Prop} {K:GTyp->Option β},T R (K x)->T R (cal (getI t.types i) K):=λk=>T.eq h.get k
 have hle:=ztE h.ok
 have hfl:=h.fl
 refine T.eq (zvW b hb) (T.or' (T.br (λh1=>T.some ⟨?_,λh=>by cases h⟩) λh1=>hg ?_))
 ·unfold frn
  rw [Bool.or_eq_true] at h1
  rcases h1 with h1 | h1
  ·rw [zDF (show ¬ (takeP b).2.2.2.2=0 by simpa using h1)];rfl
  ·rw [zDF (show ¬ (takeP b).2.2.2.1=(b.length:Int) by simpa using h1),Bool.and_false];rfl
 rw [Bool.or_eq_false_iff] at h1
 have e1:decide ((takeP b).2.2.2.2=0)=true:=by simpa using h1.1
 have e2:decide ((takeP b).2.2.2.1=(b.length:Int))=true:=by simpa using h1.2
 unfold frn
 rw [e1,e2,Bool.true_and,Bool.true_and]
 refine T.jp (ι:=Int) (λk=>k=(frmP x:Int)) (λJ kk=>T.br (λh7=>hg ?_) λh7=>kk _ ?_) λk hk=>?_
 ·have h7:=zOT h7
  refine T.eq (zrU x h.fl h.ok.root0 (h.ok.rootF (.inl h7))) (kk _ ?_)
  unfold frmP;rw [if_pos h7]
 ·unfold frmP;rw [if_neg (zOF h7)];rfl
 subst hk
 refine T.lp (λ(q:Int)=>0 <= q/\q <= (x.fields.length:Int)/\((x.fields.drop q.toNat).any λf=>decide ((takeP b).1 ∈ begT t f.ty))=((x.fields.drop (frmP x)).any λf=>decide ((takeP b).1 ∈ begT t f.ty))) (λ(q:Int)=>((x.fields.length:Int) - q).toNat) ⟨by omega,by omega,by rw [Int.toNat_natCast]⟩ (by omega) λL q ⟨q0,q1,q2⟩ hL=>hg (T.br (λhc=>hg (T.get q0 (zOT hc) λf hf=>?_)) λhc=>T.some ?_)
 ·have hc:=zOT hc
  have hd:x.fields.drop q.toNat=f :: x.fields.drop (q + 1).toNat:=by
   obtain ⟨g1,g2⟩:=List.getElem?_eq_some_iff.1 hf
   rw [List.drop_eq_getElem_cons g1,g2,show (q + 1).toNat=q.toNat + 1 by omega]
  rw [hd,List.any_cons] at q2
  refine T.eq (zpC ht f.ty) (T.eq (zoh _ _ (h.beg ht (List.mem_of_getElem? hf))) (T.br (λh2=>T.some ⟨?_,λh=>by cases h⟩) λh2=>T.ck (by omega) (hL _ ⟨by omega,by omega,?_⟩ (by omega))))
  ·rw [<- q2,h2];rfl
  ·rw [<- q2,h2,Bool.false_or]
 ·have hc:=zOF hc
  rw [zDn (by omega)] at q2
  exact ⟨by rw [<- q2];rfl,λ_=>rfl⟩
theorem lastC {x:GTyp} (h:TypOk x) (hfl:x.fields.length <= 1000) (h1:x.root <= x.fields.length):zht x=some ((lst x x.root.toNat:Nat):Int):=by
 have h0:=h.root0
 refine T.eqs ?_
 unfold zht
 have e0:min (max x.root (0:Int)) (x.fields.length:Int)=x.root:=by omega
 rw [e0]
 refine T.lp (λ(k:Int)=>0 <= k/\k <= x.root/\lst x x.root.toNat=lst x k.toNat) (λ(k:Int)=>k.toNat) ⟨h0,zIl _,rfl⟩ (by omega) λL k ⟨k1,k2,k3⟩ hL=>?_
 refine T.jp (λq=>(q=true->0 < k/\lst x k.toNat=lst x (k - 1).toNat)/\(q=false->lst x k.toNat=k.toNat)) (λJ h=>T.br (λhb=>?_) λhb=>h _ ⟨(λh=>by cases h),λ_=>?_⟩) λq hq=>?_
 ·have hb:=zOT hb
  have e:k.toNat=(k - 1).toNat + 1:=by omega
  obtain ⟨f,hf⟩:∃ f,x.fields[(k - 1).toNat]?=some f:=⟨_,List.getElem?_eq_getElem (by omega)⟩
  have hg:=zrJ hf
  have ek:(((k - 1).toNat:Nat):Int)=k - 1:=by omega
  rw [ek] at hg
  refine T.ck (by omega) (T.eq (zob (by omega) hf) (h _ ?_))
  rw [e]
  refine ⟨λhy1=>⟨hb,?_⟩,λhy1=>?_⟩
  ·rw [lst,if_pos (by rw [hg,hy1])]
  ·rw [lst,if_neg (by rw [hg,hy1];simp)]
 ·have hb:=zOF hb
  rw [show k.toNat=0 by omega];rfl
 ·refine T.br (λh=>T.ck ?_ (hL _ ?_ ?_)) λh=>T.some ?_
  ·obtain ⟨g1,g2⟩:=hq.1 h;omega
  ·obtain ⟨g1,g2⟩:=hq.1 h;exact ⟨by omega,by omega,k3.trans g2⟩
  ·obtain ⟨g1,g2⟩:=hq.1 h;omega
  ·have:=hq.2 h;rw [k3,this];omega
theorem tagsC (l:List Tag) (v:Tag) (hl:l.length <= 1000000):zbe l v=some (decide (v ∈ l)):=by
 refine T.eqs ?_
 unfold zbe
 refine T.cal (Q:=λ(r:Int)=>decide (0 <= r)=decide (v ∈ l)) ?_ λy _ hy=>T.some hy
 unfold zb5
 refine T.lp (λ(q:Int)=>0 <= q/\q <= (l.length:Int)/\v ∉ l.take q.toNat) (λ(q:Int)=>((l.length:Int) - q).toNat) ⟨zIl _,by omega,by simp⟩ (by omega) λL q ⟨q0,q1,q2⟩ hL=>T.br (λhb=>?_) λhb=>T.some ?_
 ·have hb:=zOT hb
  refine T.get q0 hb λy hy=>T.br (λh=>T.some ?_) λh=>T.ck (by omega) (hL _ ⟨by omega,by omega,?_⟩ (by omega))
  ·rw [zDT q0,zDT]
   rw [zOT h];exact List.mem_of_getElem? hy
  ·rw [show (q + 1).toNat=q.toNat + 1 by omega,List.take_add_one,hy]
   intro hm
   rcases List.mem_append.1 hm with hm | hm
   ·exact q2 hm
   ·exact zOF h (zMo.1 hm)
 ·have hb:=zOF hb
  rw [zTl (by omega)] at q2
  rw [zDF q2];rfl
theorem zqi {t:GTab} (ht:TabOk t) {β:Bool} {i:Int} {x:GTyp} (h:TyF t i x) (b:List UInt8) (hb:b.length <= 68719476736):T (λr=>r.2.1=frn t x b/\r.2.2=zjl t β/\(r.2.1=true->r.1=(takeP b).1)) (zb7 (zjl t β) i b):=by
 unfold zb7
 have hle:=ztE h.ok
 have hfl:=h.fl
 refine T.eq (zvS b hb) (T.or' (T.br (λh1=>T.some ⟨?_,rfl,λh=>by cases h⟩) λh1=>T.eq h.get ?_))
 ·unfold frn
  rw [Bool.or_eq_true] at h1
  rcases h1 with h1 | h1
  ·rw [zDF (show ¬ (takeP b).2.2.2.2=0 by simpa using h1)];rfl
  ·rw [zDF (show ¬ (takeP b).2.2.2.1=(b.length:Int) by simpa using h1),Bool.and_false];rfl
 rw [Bool.or_eq_false_iff] at h1
 have e1:decide ((takeP b).2.2.2.2=0)=true:=by simpa using h1.1
 have e2:decide ((takeP b).2.2.2.1=(b.length:Int))=true:=by simpa using h1.2
 unfold frn
 rw [e1,e2,Bool.true_and,Bool.true_and]
 refine T.jp (ι:=Int) (λk=>k=(frmP x:Int)) (λJ kk=>T.br (λh7=>?_) λh7=>kk _ ?_) λk hk=>?_
 ·have h7:=zOT h7
  refine T.eq (lastC h.ok h.fl (h.ok.rootF (.inl h7))) (kk _ ?_)
  unfold frmP;rw [if_pos h7]
 ·unfold frmP;rw [if_neg (zOF h7)];rfl
 subst hk
 refine T.asd (by omega) ?_
 have hdr:((x.fields.take ((x.fields.length:Nat):Int).toNat).drop ((frmP x:Nat):Int).toNat)=x.fields.drop (frmP x):=by rw [Int.toNat_natCast,Int.toNat_natCast,List.take_length]
 rw [hdr]
 refine T.cal (Q:=λ(r:Bool × GChk)=>r=((x.fields.drop (frmP x)).any (λf=>decide ((takeP b).1 ∈ begT t f.ty)),zjl t β)) ?_ λy _ hy=>T.some (by rw [hy];exact ⟨rfl,rfl,λ_=>rfl⟩)
 unfold za4
 have hmem:∀ f ∈ x.fields.drop (frmP x),f ∈ x.fields:=λf hf=>List.mem_of_mem_drop hf
 have hll:(x.fields.drop (frmP x)).length <= 1000:=by rw [zLd];omega
 generalize x.fields.drop (frmP x)=fs at hmem hll
 refine T.cal (Q:=λ(r:Int × GChk)=>r.2=zjl t β/\decide (0 <= r.1)=fs.any (λf=>decide ((takeP b).1 ∈ begT t f.ty))) ?_ λy _ hy=>T.some (by rw [<- hy.1,<- hy.2])
 unfold zbg
 refine T.lp (ι:=Int × GChk) (λq=>0 <= q.1/\q.1 <= (fs.length:Int)/\q.2=zjl t β/\(fs.drop q.1.toNat).any (λf=>decide ((takeP b).1 ∈ begT t f.ty))=fs.any (λf=>decide ((takeP b).1 ∈ begT t f.ty))) (λq=>((fs.length:Int) - q.1).toNat) ⟨zIl _,by dsimp only;omega,rfl,rfl⟩ (by dsimp only;omega) λL q ⟨q0,q1,qc,q2⟩ hL=>?_
 obtain ⟨q,c⟩:=q
 dsimp only at q0 q1 qc q2 hL ⊢
 subst qc
 refine T.br (λhc=>T.get q0 (zOT hc) λf hf=>?_) λhc=>T.some ⟨rfl,?_⟩
 ·have hc:=zOT hc
  have hd:fs.drop q.toNat=f :: fs.drop (q + 1).toNat:=by
   obtain ⟨g1,g2⟩:=List.getElem?_eq_some_iff.1 hf
   rw [List.drop_eq_getElem_cons g1,g2,show (q + 1).toNat=q.toNat + 1 by omega]
  rw [hd,List.any_cons] at q2
  refine T.eq (y:=(decide ((takeP b).1 ∈ begT t f.ty),zjl t β)) ?_ (T.br (λh2=>T.some ⟨rfl,?_⟩) λh2=>T.ck (by omega) (hL _ ⟨by dsimp only;omega,by dsimp only;omega,rfl,?_⟩ (by dsimp only;omega)))
  ·refine T.eqs ?_
   unfold zcZ
   exact T.eq (zq9 ht f.ty) (T.eq (tagsC _ _ (h.beg ht (hmem f (List.mem_of_getElem? hf)))) (T.some rfl))
  ·dsimp only at h2
   rw [<- q2,h2,zDT q0];rfl
  ·dsimp only at h2 ⊢
   rw [<- q2,h2,Bool.false_or]
 ·have hc:=zOF hc
  rw [zDn (by omega)] at q2
  rw [<- q2];rfl
/-! ### What nobody knows -/
def opnB (b:List UInt8):Bool:=decide (0 < b.length) && decide (b.length <= 70000)
theorem zox (b:List UInt8):zh5 b=some (opnB b):=by
 refine T.eqs ?_
 unfold zh5 opnB
 refine T.and' (T.some ?_)
 rw [Bool.eq_iff_iff];simp only [zBa,decide_eq_true_eq];omega
theorem zqE (b:List UInt8):zf9 b=some (opnB b):=by
 refine T.eqs ?_
 unfold zf9 opnB
 refine T.and' (T.some ?_)
 rw [Bool.eq_iff_iff];simp only [zBa,decide_eq_true_eq];omega
def hasI (x:GTyp) (n:Int):Bool:=x.items.any λit=>decide (it.number=n)
theorem znK (x:GTyp) (n:Int) (hl:x.items.length <= 1000000):T (λ(r:Int)=>decide (r < 0)=!hasI x n) (zex x n):=by
 unfold zex hasI
 refine T.lp (ι:=Int) (λ(q:Int)=>0 <= q/\q <= (x.items.length:Int)/\((x.items.drop q.toNat).any λit=>decide (it.number=n))=(x.items.any λit=>decide (it.number=n))) (λ(q:Int)=>((x.items.length:Int) - q).toNat) ⟨zIl _,by omega,rfl⟩ (by omega) λL q ⟨q1,q2,q3⟩ hL=>T.br (λh=>T.get q1 (zOT h) λy hy=>?_) λh=>T.some ?_
 ·have h:=zOT h
  have hd:x.items.drop q.toNat=y :: x.items.drop (q + 1).toNat:=by
   obtain ⟨g1,g2⟩:=List.getElem?_eq_some_iff.1 hy
   rw [List.drop_eq_getElem_cons g1,g2,show (q + 1).toNat=q.toNat + 1 by omega]
  rw [hd,List.any_cons] at q3
  refine T.br (λh2=>T.some ?_) λh2=>T.ck (by omega) (hL _ ⟨by omega,by omega,?_⟩ (by omega))
  ·rw [<- q3,h2,zDF (by omega)];rfl
  ·rw [<- q3,h2,Bool.false_or]
 ·have h:=zOF h
  rw [zDn (by omega)] at q3
  rw [<- q3];rfl
theorem zon (x:GTyp) (n:Int) (hl:x.items.length <= 1000000):T (λ(r:Int)=>decide (r < 0)=!hasI x n) (zdY x n):=by
 unfold zdY hasI
 refine T.cal (Q:=λ(r:Int)=>decide (r < 0)=!(x.items.any λit=>decide (it.number=n))) ?_ λy _ hy=>T.some hy
 unfold zaX
 refine T.lp (ι:=Int) (λ(q:Int)=>0 <= q/\q <= (x.items.length:Int)/\((x.items.drop q.toNat).any λit=>decide (it.number=n))=(x.items.any λit=>decide (it.number=n))) (λ(q:Int)=>((x.items.length:Int) - q).toNat) ⟨zIl _,by omega,rfl⟩ (by omega) λL q ⟨q1,q2,q3⟩ hL=>T.br (λh=>T.get q1 (zOT h) λy hy=>?_) λh=>T.some ?_
 ·have h:=zOT h
  have hd:x.items.drop q.toNat=y :: x.items.drop (q + 1).toNat:=by
   obtain ⟨g1,g2⟩:=List.getElem?_eq_some_iff.1 hy
   rw [List.drop_eq_getElem_cons g1,g2,show (q + 1).toNat=q.toNat + 1 by omega]
  rw [hd,List.any_cons] at q3
  refine T.eq (y:=decide (y.number=n)) rfl (T.br (λh2=>T.some ?_) λh2=>T.ck (by omega) (hL _ ⟨by omega,by omega,?_⟩ (by omega)))
  ·rw [<- q3,h2,zDF (by omega)];rfl
  ·rw [<- q3,h2,Bool.false_or]
 ·have h:=zOF h
  rw [zDn (by omega)] at q3
  rw [<- q3];rfl
def unkP (t:GTab) (x:GTyp) (v:Val):Bool :=
  (x.more && (decide (x.kind=9) || decide (x.kind=3)) && decide (v.l.length=0) && decide (v.more.length=0)) &&
  (if v.rule=1 then (if x.kind=9 then frn t x v.b && decide (v.n=0) else decide (v.b.length=0) && !hasI x v.n)
   else if v.rule=2 then (decide ((x.items.length:Int) + x.fields.length - x.root <= v.n) && decide (v.n < 1000)) && (if x.kind=9 then opnB v.b else decide (v.b.length=0)) else false)
theorem zro {x:GTyp} (h:x.kind=9) (h0:0 <= x.root) (h1:x.root <= x.fields.length):((slots x).length:Int)=x.fields.length - x.root:=by
 have key:∀ (l:List Int) (out:List (List Int)),(l.foldl (slot1 false x.fields) out).length=out.length + l.length:=by
  intro l
  induction l with
  | nil=>intro out;rfl
  | cons k r ih =>
   intro out
   rw [List.foldl_cons,ih]
   have:slot1 false x.fields out k=out ++ [[k]]:=by
    unfold slot1
    rw [if_neg]
    rintro ⟨h,_⟩
    simp at h
   rw [this,zLa,zLs,zLc];omega
 unfold slots
 rw [zDT h,Bool.not_true,key,zi4]
 simp only [zLn];omega
theorem unkR {t:GTab} (ht:TabOk t) {i:Int} {x:GTyp} (h:TyF t i x) {v:Val} (hf:Fine v):zgu t i v=some (unkP t x v):=by
 refine T.eqs ?_
 unfold zgu
 have hok:=h.ok
 have hil:=hok.ilen
 have hr0:=hok.root0
 have hfl:=h.fl
 have hvl:=hf.l
 have hvm:=hf.more
 refine T.eq h.get ?_
 refine T.orJ (d:=!decide (x.kind=9) && !decide (x.kind=3)) (λJ k=>T.and' k) (T.or' (T.or' (T.br (λh1=>T.some ?_) λh1=>?_)))
 ·unfold unkP
  have:(x.more && (decide (x.kind=9) || decide (x.kind=3)) && decide (v.l.length=0) && decide (v.more.length=0))=false:=by
   rw [Bool.eq_false_iff]
   intro h2
   simp only [zBa,Bool.or_eq_true,decide_eq_true_eq] at h2
   rw [h2.1.1.1,zDF (show ¬ (0:Int) < (v.l.length:Int) by omega),zDF (show ¬ (0:Int) < (v.more.length:Int) by omega)] at h1
   rcases h2.1.1.2 with h3 | h3
   ·rw [zDT h3] at h1;simp at h1
   ·rw [zDT h3] at h1;simp at h1
  rw [this];rfl
 have g:(x.more && (decide (x.kind=9) || decide (x.kind=3)) && decide (v.l.length=0) && decide (v.more.length=0))=true:=by
  rw [Bool.or_eq_false_iff,Bool.or_eq_false_iff,Bool.or_eq_false_iff] at h1
  have a1:x.more=true:=by simpa using h1.1.1.1
  have a2:=h1.1.1.2
  have a3:=zOF h1.1.2
  have a4:=zOF h1.2
  rw [a1,zDT (show v.l.length=0 by omega),zDT (show v.more.length=0 by omega)]
  cases e9:decide (x.kind=9) <;> cases e3:decide (x.kind=3) <;> rw [e9,e3] at a2 <;> first | rfl | cases a2
 unfold unkP
 rw [g,Bool.true_and]
 simp only [zBa,Bool.or_eq_true,decide_eq_true_eq] at g
 have hr:x.root <= 1000000:=by
  rcases g.1.1.2 with h9 | h3
  ·have:=hok.rootF (.inr (.inr h9));omega
  ·have:=hok.rootI h3;omega
 refine T.ck (by omega) (T.jp (ι:=Int) (λk=>k=(x.items.length:Int) + x.fields.length - x.root) (λJ kk=>T.br (λh9=>T.eq (zkY ht i) (kk _ ?_)) λh9=>kk _ ?_) λk hk=>?_)
 ·have h9:=zOT h9
  have es:slotsT t i=slots x:=by unfold slotsT;rw [if_pos h.i0,h.at_];exact if_pos (by omega)
  rw [es,zro h9 hr0 (hok.rootF (.inr (.inr h9))),hok.items (by omega)]
  simp only [zLn];omega
 ·have h9:=zOF h9
  have h3:x.kind=3:=g.1.1.2.resolve_left h9
  rw [hok.fields (by omega)]
  simp only [zLn];omega
 subst hk
 refine T.and' (T.br (λh1=>?_) λh1=>?_)
 ·rw [zBa] at h1
  rw [if_pos (zOT h1.1),if_pos (zOT h1.2)]
  exact T.cal (startsR ht h v.b hf.b) λy _ hy=>T.and' (T.some (by rw [hy.1]))
 refine T.br (λh2=>?_) λh2=>?_
 ·have h2:=zOT h2
  rw [zDT h2,Bool.true_and] at h1
  rw [if_pos h2,if_neg (zOF h1)]
  have e:decide ((v.b.length:Int)=0)=decide (v.b.length=0):=decide_eq_decide.2 (by omega)
  rw [e]
  refine T.jp (λc=>c=(decide (v.b.length=0) && !hasI x v.n)) (λJ k=>T.br (λh3=>T.cal (znK x v.n (by omega)) λy _ hy=>k _ (by rw [h3,hy];rfl)) λh3=>k _ (by rw [h3];rfl)) λc hc=>T.some hc
 ·have h2:=zOF h2
  rw [if_neg h2]
  refine T.br (λh3=>?_) λh3=>?_
  ·rw [if_pos (zOT h3)]
   refine T.and' (T.andJ (d:=if x.kind=9 then opnB v.b else decide (v.b.length=0)) (λJ k=>?_) (T.some rfl))
   refine T.jp (λc=>c=if x.kind=9 then opnB v.b else false) (λJ2 k2=>T.br (λh9=>T.eq (zox _) (k2 _ (by rw [if_pos (zOT h9)]))) λh9=>k2 _ (by rw [if_neg (zOF h9)])) λc hc=>?_
   refine T.jp (λd=>d=if x.kind=9 then opnB v.b else decide (v.b.length=0)) (λJ2 k2=>T.br (λhc1=>k2 _ ?_) λhc1=>T.and' (k2 _ ?_)) λd hd=>by rw [hd];exact k
   ·rw [hc1] at hc
    by_cases h9:x.kind=9
    ·rw [if_pos h9] at hc ⊢;exact hc
    ·rw [if_neg h9] at hc;cases hc
   ·rw [hc1] at hc
    have e:decide ((v.b.length:Int)=0)=decide (v.b.length=0):=decide_eq_decide.2 (by omega)
    by_cases h9:x.kind=9
    ·rw [if_pos h9] at hc ⊢
     rw [<- hc,zDF (by omega)];rfl
    ·rw [if_neg h9,zDT (g.1.1.2.resolve_left h9),e];rfl
  ·rw [if_neg (zOF h3)];exact T.some rfl
theorem unkC {t:GTab} (ht:TabOk t) {i:Int} {x:GTyp} (h:TyF t i x) {v:Val} (hf:Fine v):zcK (zjl t false) i v=some (unkP t x v,zjl t false):=by
 refine T.eqs ?_
 unfold zcK
 have hok:=h.ok
 have hil:=hok.ilen
 have hr0:=hok.root0
 have hfl:=h.fl
 have hvl:=hf.l
 have hvm:=hf.more
 refine T.eq h.get ?_
 refine T.orJ (d:=!decide (x.kind=9) && !decide (x.kind=3)) (λJ k=>T.and' k) ?_
 refine T.orJ (d:=decide ((0:Int) < (v.l.length:Int) + (v.more.length:Int))) (λJ k=>T.ck (by omega) k) (T.br (λh1=>T.some ?_) λh1=>?_)
 ·unfold unkP
  have:(x.more && (decide (x.kind=9) || decide (x.kind=3)) && decide (v.l.length=0) && decide (v.more.length=0))=false:=by
   rw [Bool.eq_false_iff]
   intro h2
   simp only [zBa,Bool.or_eq_true,decide_eq_true_eq] at h2
   rw [h2.1.1.1,zDF (show ¬ (0:Int) < (v.l.length:Int) + (v.more.length:Int) by omega)] at h1
   rcases h2.1.1.2 with h3 | h3
   ·rw [zDT h3] at h1;simp at h1
   ·rw [zDT h3] at h1;simp at h1
  rw [this];rfl
 have g:(x.more && (decide (x.kind=9) || decide (x.kind=3)) && decide (v.l.length=0) && decide (v.more.length=0))=true:=by
  rw [Bool.or_eq_false_iff,Bool.or_eq_false_iff] at h1
  have a1:x.more=true:=by simpa using h1.1.1
  have a2:=h1.1.2
  have a3:=zOF h1.2
  rw [a1,zDT (show v.l.length=0 by omega),zDT (show v.more.length=0 by omega)]
  cases e9:decide (x.kind=9) <;> cases e3:decide (x.kind=3) <;> rw [e9,e3] at a2 <;> first | rfl | cases a2
 unfold unkP
 rw [g,Bool.true_and]
 simp only [zBa,Bool.or_eq_true,decide_eq_true_eq] at g
 have hr:x.root <= 1000000:=by
  rcases g.1.1.2 with h9 | h3
  ·have:=hok.rootF (.inr (.inr h9));omega
  ·have:=hok.rootI h3;omega
 refine T.br (λh=>by cases h) λ_=>T.ck (by omega) (T.ck (by omega) (T.and' (T.br (λh1=>?_) λh1=>?_)))
 ·rw [zBa] at h1
  rw [if_pos (zOT h1.1),if_pos (zOT h1.2)]
  exact T.cal (zqi ht h v.b hf.b) λy _ hy=>T.and' (T.some (by rw [hy.1,hy.2.1]))
 refine T.br (λh2=>?_) λh2=>?_
 ·have h2:=zOT h2
  rw [zDT h2,Bool.true_and] at h1
  rw [if_pos h2,if_neg (zOF h1)]
  have e:decide ((v.b.length:Int)=0)=decide (v.b.length=0):=decide_eq_decide.2 (by omega)
  rw [e]
  refine T.jp (λc=>c=(decide (v.b.length=0) && !hasI x v.n)) (λJ k=>T.br (λh3=>T.cal (zon x v.n (by omega)) λy _ hy=>k _ (by rw [h3,hy];rfl)) λh3=>k _ (by rw [h3];rfl)) λc hc=>T.some (by rw [hc])
 ·have h2:=zOF h2
  rw [if_neg h2]
  refine T.or' (T.or' (T.br (λh3=>T.some ?_) λh3=>?_))
  ·rw [Bool.or_eq_true,Bool.or_eq_true] at h3
   rcases h3 with (h3 | h3) | h3
   ·rw [if_neg (show ¬ v.rule=2 by simpa using h3)]
   ·split
    ·rw [zDF (by have:=zOT h3;omega)];rfl
    ·rfl
   ·split
    ·rw [zDF (show ¬ v.n < 1000 by have:=zOT h3;omega),Bool.and_false];rfl
    ·rfl
  ·rw [Bool.or_eq_false_iff,Bool.or_eq_false_iff] at h3
   have e2:v.rule=2:=by simpa using h3.1.1
   have a1:=zOF h3.1.2
   have a2:=zOF h3.2
   rw [if_pos e2,zDT (show (x.items.length:Int) + x.fields.length - x.root <= v.n by omega),zDT (show v.n < 1000 by omega),Bool.true_and,Bool.true_and]
   refine T.br (λh9=>T.eq (zqE _) (T.some (by rw [if_pos (zOT h9)]))) λh9=>T.some ?_
   have e:decide ((v.b.length:Int)=0)=decide (v.b.length=0):=decide_eq_decide.2 (by omega)
   rw [if_neg (zOF h9),e]
end Go.Proofs.Q


namespace Go.Proofs.Q
open Go.Sy
set_option linter.unusedVariables false

/-! ### What is more -/
def rawP2:Int->List Raw->Bool
 | _,[]=>true
 | l,r :: rs=>(decide (l <= r.n) && decide (r.n < 1000) && opnB r.b) && rawP2 (r.n + 1) rs
def rawP1 (t:GTab) (x:GTyp):Bool->Tag->List Raw->Bool
 | _,_,[]=>true
 | f,g,r :: rs=>(frn t x r.b && decide (r.n=0) && !(decide (x.kind=8) && !f && !lessT g (takeP r.b).1)) && rawP1 t x false (takeP r.b).1 rs
def rwP (t:GTab) (i:Int) (x:GTyp) (v:Val):Bool:=if v.more=[] then decide (v.rule=0) else if x.more=false \/ (v.rule ≠ 1/\v.rule ≠ 2) then false else
 if v.rule=2 then rawP2 ((slotsT t i).length:Int) v.more else rawP1 t x true Tag.zero v.more
theorem zm4 {t:GTab} {i:Int} {x:GTyp} (h:TyF t i x):(slotsT t i).length <= 1000:=by
 have hfl:=h.fl
 unfold slotsT
 rw [if_pos h.i0,h.at_]
 dsimp only
 split
 ·have:=zmf h.ok.root0;omega
 ·exact zNz _
theorem zpF {l:List Raw} {q:Int} {r:Raw} (hr:l[q.toNat]?=some r) (q0:0 <= q):l.drop q.toNat=r :: l.drop (q + 1).toNat:=by
 obtain ⟨g1,g2⟩:=List.getElem?_eq_some_iff.1 hr
 rw [List.drop_eq_getElem_cons g1,g2,show (q + 1).toNat=q.toNat + 1 by omega]
theorem ztU {x:GTyp} {v:Val}:((!x.more) || ((!decide (v.rule=1)) && !decide (v.rule=2)))=decide (x.more=false \/ (v.rule ≠ 1/\v.rule ≠ 2)):=by
 cases x.more <;> by_cases h1:v.rule=1 <;> by_cases h2:v.rule=2 <;> simp [h1,h2]
theorem rawsR {t:GTab} (ht:TabOk t) {i:Int} {x:GTyp} (h:TyF t i x) {v:Val} (hf:Fine v):zjx t i v=some (rwP t i x v):=by
 refine T.eqs ?_
 unfold zjx rwP
 have hml:=hf.more
 have hsl:=zm4 h
 refine T.br (λh0=>T.some ?_) λh0=>T.eq h.get ?_
 ·rw [if_pos (List.length_eq_zero_iff.1 (by have:=zOT h0;omega))]
 have hne:v.more ≠ []:=λe=>zOF h0 (by rw [e];rfl)
 rw [if_neg hne]
 refine T.orJ (d:=!decide (v.rule=1) && !decide (v.rule=2)) (λJ k=>T.and' k) ?_
 rw [ztU]
 refine T.br (λh1=>T.some (by rw [if_pos (zOT h1)])) λh1=>?_
 rw [if_neg (zOF h1)]
 generalize hRR:(if v.rule=2 then rawP2 ((slotsT t i).length:Int) v.more else rawP1 t x true Tag.zero v.more)=RR
 refine T.lp (ι:=Int × Tag) (λq=>0 <= q.1/\q.1 <= (v.more.length:Int)/\(v.rule=2->∃ l,0 <= l/\(q.1=0->l=((slotsT t i).length:Int))/\(∀ r,0 < q.1->v.more[(q.1 - 1).toNat]?=some r->l=r.n + 1/\0 <= r.n/\r.n < 1000)/\rawP2 l (v.more.drop q.1.toNat)=rawP2 ((slotsT t i).length:Int) v.more) /\
  (v.rule ≠ 2->rawP1 t x (decide (q.1=0)) q.2 (v.more.drop q.1.toNat)=rawP1 t x true Tag.zero v.more)) (λq=>((v.more.length:Int) - q.1).toNat) ⟨zIl _,by dsimp only;omega,λ_=>⟨_,Int.natCast_nonneg _,λ_=>rfl,λr hr=>by dsimp only at hr;omega,rfl⟩,λ_=>rfl⟩ (by dsimp only;omega) λL q ⟨q1,q2,q3,q4⟩ hL=>?_
 obtain ⟨k,g⟩:=q
 dsimp only at q1 q2 q3 q4 hL ⊢
 refine T.br (λhc=>?_) λhc=>T.some ?_
 ·have hc:=zOT hc
  obtain ⟨r,hr⟩:∃ r,v.more[k.toNat]?=some r:=⟨_,List.getElem?_eq_getElem (by omega)⟩
  have hrb:=hf.raw r (List.mem_of_getElem? hr)
  have hd:=zpF hr q1
  rw [hd] at q3 q4
  have ek:(k + 1 - 1).toNat=k.toNat:=by omega
  refine T.jp (ι:=Tag) (λg'=>(v.rule=2->0 <= r.n/\r.n < 1000/\rawP2 (r.n + 1) (v.more.drop (k + 1).toNat)=rawP2 ((slotsT t i).length:Int) v.more)/\(v.rule ≠ 2->rawP1 t x false g' (v.more.drop (k + 1).toNat)=rawP1 t x true Tag.zero v.more)) (λJ kk=>T.get q1 hc λy hy=>?_) λg' hg=>T.ck (by omega) (hL _ ⟨by dsimp only;omega,by dsimp only;omega,λh2=>⟨r.n + 1,by have:=(hg.1 h2).1;omega,λe=>by dsimp only at e;omega,λr' _ hr'=>?_,(hg.1 h2).2.2⟩,λh2=>?_⟩ (by dsimp only;omega))
  ·rw [hr] at hy;cases hy
   refine T.br (λh2=>?_) λh2=>?_
   ·have h2:=zOT h2
    obtain ⟨l,l0,l1,l2,l3⟩:=q3 h2
    have hRR2:rawP2 ((slotsT t i).length:Int) v.more=RR:=by rw [<- hRR,if_pos h2]
    refine T.eq (zkY ht i) (T.jp (ι:=Int) (λz=>z=l) (λJ2 k2=>T.br (λhp=>?_) λhp=>k2 _ (l1 (by have:=zOF hp;omega)).symm) λz hz=>?_)
    ·have hp:=zOT hp
     refine T.ck (by omega) (T.get (by omega) (by omega) λz hz=>?_)
     obtain ⟨e1,e2,e3⟩:=l2 z hp hz
     exact T.ck (by omega) (k2 _ e1.symm)
    subst hz
    refine T.or' (T.orJ (d:=!opnB r.b) (λJ3 k3=>T.eq (zox _) k3) (T.br (λh5=>T.some ?_) λh5=>kk _ ⟨λ_=>?_,λe=>absurd h2 e⟩))
    ·rw [<- hRR2,<- l3]
     unfold rawP2
     rw [Bool.or_eq_true,Bool.or_eq_true] at h5
     have:(decide (z <= r.n) && decide (r.n < 1000) && opnB r.b)=false:=by
      rcases h5 with (h5 | h5) | h5
      ·rw [zDF (by have:=zOT h5;omega)];rfl
      ·rw [zDF (show ¬ r.n < 1000 by have:=zOT h5;omega),Bool.and_false];rfl
      ·rw [show opnB r.b=false by simpa using h5,Bool.and_false]
     rw [this];rfl
    ·rw [Bool.or_eq_false_iff,Bool.or_eq_false_iff] at h5
     have a1:=zOF h5.1.1
     have a2:=zOF h5.1.2
     refine ⟨by omega,by omega,?_⟩
     rw [<- l3]
     conv=>rhs;unfold rawP2
     rw [zDT (show z <= r.n by omega),zDT (show r.n < 1000 by omega),nt h5.2];rfl
   ·have h2:=zOF h2
    have hRR1:rawP1 t x true Tag.zero v.more=RR:=by rw [<- hRR,if_neg h2]
    have l3:=q4 h2
    refine T.cal (startsR ht h _ hrb) λy _ hy=>T.or' ?_
    refine T.orJ (d:=decide (x.kind=8) && decide (0 < k) && !lessT g y.1) (λJ3 k3=>T.eq h.get (T.and' (T.andJ (d:=!lessT g y.1) (λJ4 k4=>T.eq (zua _ _) k4) k3))) (T.br (λh5=>T.some ?_) λh5=>kk _ ⟨λe=>absurd e h2,λ_=>?_⟩)
    ·rw [<- hRR1,<- l3]
     unfold rawP1
     have:(frn t x r.b && decide (r.n=0) && !(decide (x.kind=8) && !decide (k=0) && !lessT g (takeP r.b).1))=false:=by
      rw [<- hy.1]
      cases hy2:y.2 with
      | false=>rfl
      | true =>
       rw [hy2,Bool.not_true,Bool.false_or,hy.2 hy2] at h5
       rw [show decide (k=0)=!decide (0 < k) by by_cases h0:k=0 <;> simp [h0] <;> omega,Bool.not_not]
       cases hn:decide (r.n=0) with
       | false=>rfl
       | true=>rw [hn,Bool.not_true,Bool.false_or] at h5;rw [h5];rfl
     rw [this];rfl
    ·rw [<- l3]
     conv=>rhs;unfold rawP1
     rw [Bool.or_eq_false_iff,Bool.or_eq_false_iff] at h5
     have hy2:=nt h5.1.1
     have e1:=h5.2
     rw [hy.2 hy2] at e1 ⊢
     rw [<- hy.1,hy2,nt h5.1.2,show decide (k=0)=!decide (0 < k) by by_cases h0:k=0 <;> simp [h0] <;> omega,Bool.not_not,e1];rfl
  ·dsimp only at hr'
   rw [ek,hr] at hr';cases hr'
   exact ⟨rfl,(hg.1 h2).1,(hg.1 h2).2.1⟩
  ·dsimp only
   rw [zDF (show ¬ k + 1=0 by omega)]
   exact hg.2 h2
 ·have hc:=zOF hc
  rw [zDn (by omega)] at q3 q4
  by_cases h2:v.rule=2
  ·obtain ⟨l,_,_,_,l3⟩:=q3 h2
   rw [<- hRR,if_pos h2,<- l3];rfl
  ·rw [<- hRR,if_neg h2,<- q4 h2];rfl
theorem rawsC {t:GTab} (ht:TabOk t) {β:Bool} {i:Int} {x:GTyp} (h:TyF t i x) {v:Val} (hf:Fine v):zdr (zjl t β) i v=some (rwP t i x v,zjl t β):=by
 refine T.eqs ?_
 unfold zdr rwP
 have hml:=hf.more
 have hsl:=zm4 h
 refine T.eq h.get (T.br (λh0=>T.some ?_) λh0=>?_)
 ·rw [if_pos (List.length_eq_zero_iff.1 (by have:=zOT h0;omega))]
 have hne:v.more ≠ []:=λe=>zOF h0 (by rw [e];rfl)
 rw [if_neg hne]
 refine T.orJ (d:=!decide (v.rule=1) && !decide (v.rule=2)) (λJ k=>T.and' k) ?_
 rw [ztU]
 refine T.br (λh1=>T.some (by rw [if_pos (zOT h1)])) λh1=>?_
 rw [if_neg (zOF h1)]
 generalize hRR:(if v.rule=2 then rawP2 ((slotsT t i).length:Int) v.more else rawP1 t x true Tag.zero v.more)=RR
 refine T.eq (zoo ht i) ?_
 refine T.lp (ι:=Int × Int × Tag × GChk) (λq=>0 <= q.2.1/\q.2.1 <= (v.more.length:Int)/\q.2.2.2=zjl t β/\(v.rule=2->0 <= q.1/\rawP2 q.1 (v.more.drop q.2.1.toNat)=rawP2 ((slotsT t i).length:Int) v.more) /\
  (v.rule ≠ 2->rawP1 t x (decide (q.2.1=0)) q.2.2.1 (v.more.drop q.2.1.toNat)=rawP1 t x true Tag.zero v.more)) (λq=>((v.more.length:Int) - q.2.1).toNat) ⟨zIl _,by dsimp only;omega,rfl,λ_=>⟨Int.natCast_nonneg _,rfl⟩,λ_=>rfl⟩ (by dsimp only;omega) λL q ⟨q1,q2,qc,q3,q4⟩ hL=>?_
 obtain ⟨l,k,g,c⟩:=q
 dsimp only at q1 q2 qc q3 q4 hL ⊢
 subst qc
 refine T.br (λhc=>?_) λhc=>T.some ?_
 ·have hc:=zOT hc
  obtain ⟨r,hr⟩:∃ r,v.more[k.toNat]?=some r:=⟨_,List.getElem?_eq_getElem (by omega)⟩
  have hrb:=hf.raw r (List.mem_of_getElem? hr)
  have hd:=zpF hr q1
  rw [hd] at q3 q4
  refine T.jp (ι:=Int × Tag × GChk) (λz=>z.2.2=zjl t β/\(v.rule=2->0 <= z.1/\rawP2 z.1 (v.more.drop (k + 1).toNat)=rawP2 ((slotsT t i).length:Int) v.more)/\(v.rule ≠ 2->rawP1 t x false z.2.1 (v.more.drop (k + 1).toNat)=rawP1 t x true Tag.zero v.more)) (λJ kk=>T.get q1 hc λy hy=>?_) λz hg=>T.ck (by omega) (hL _ ⟨by dsimp only;omega,by dsimp only;omega,hg.1,hg.2.1,λh2=>?_⟩ (by dsimp only;omega))
  ·rw [hr] at hy;cases hy
   refine T.br (λh2=>?_) λh2=>?_
   ·have h2:=zOT h2
    obtain ⟨l0,l3⟩:=q3 h2
    have hRR2:rawP2 ((slotsT t i).length:Int) v.more=RR:=by rw [<- hRR,if_pos h2]
    refine T.or' (T.orJ (d:=!opnB r.b) (λJ3 k3=>T.eq (zqE _) k3) (T.br (λh5=>T.some ?_) λh5=>?_))
    ·rw [<- hRR2,<- l3]
     unfold rawP2
     rw [Bool.or_eq_true,Bool.or_eq_true] at h5
     have:(decide (l <= r.n) && decide (r.n < 1000) && opnB r.b)=false:=by
      rcases h5 with (h5 | h5) | h5
      ·rw [zDF (by have:=zOT h5;omega)];rfl
      ·rw [zDF (show ¬ r.n < 1000 by have:=zOT h5;omega),Bool.and_false];rfl
      ·rw [show opnB r.b=false by simpa using h5,Bool.and_false]
     rw [this];rfl
    ·rw [Bool.or_eq_false_iff,Bool.or_eq_false_iff] at h5
     have a1:=zOF h5.1.1
     have a2:=zOF h5.1.2
     refine T.ck (by omega) (kk _ ⟨rfl,λ_=>⟨by dsimp only;omega,?_⟩,λe=>absurd h2 e⟩)
     show rawP2 (r.n + 1) _=_
     rw [<- l3]
     conv=>rhs;unfold rawP2
     rw [zDT (show l <= r.n by omega),zDT (show r.n < 1000 by omega),nt h5.2];rfl
   ·have h2:=zOF h2
    have hRR1:rawP1 t x true Tag.zero v.more=RR:=by rw [<- hRR,if_neg h2]
    have l3:=q4 h2
    refine T.cal (zqi ht h _ hrb) λy _ hy=>T.or' ?_
    refine T.orJ (d:=decide (x.kind=8) && decide (0 < k) && !lessT g y.1) (λJ3 k3=>T.and' (T.andJ (d:=!lessT g y.1) (λJ4 k4=>T.eq (zu4 _ _) k4) k3)) (T.br (λh5=>T.some ?_) λh5=>kk _ ⟨hy.2.1,λe=>absurd e h2,λ_=>?_⟩)
    ·rw [hy.2.1,<- hRR1,<- l3]
     unfold rawP1
     have:(frn t x r.b && decide (r.n=0) && !(decide (x.kind=8) && !decide (k=0) && !lessT g (takeP r.b).1))=false:=by
      rw [<- hy.1]
      cases hy2:y.2.1 with
      | false=>rfl
      | true =>
       rw [hy2,Bool.not_true,Bool.false_or,hy.2.2 hy2] at h5
       rw [show decide (k=0)=!decide (0 < k) by by_cases h0:k=0 <;> simp [h0] <;> omega,Bool.not_not]
       cases hn:decide (r.n=0) with
       | false=>rfl
       | true=>rw [hn,Bool.not_true,Bool.false_or] at h5;rw [h5];rfl
     rw [this];rfl
    ·dsimp only
     rw [<- l3]
     conv=>rhs;unfold rawP1
     rw [Bool.or_eq_false_iff,Bool.or_eq_false_iff] at h5
     have hy2:=nt h5.1.1
     have e1:=h5.2
     rw [hy.2.2 hy2] at e1 ⊢
     rw [<- hy.1,hy2,nt h5.1.2,show decide (k=0)=!decide (0 < k) by by_cases h0:k=0 <;> simp [h0] <;> omega,Bool.not_not,e1];rfl
  ·dsimp only
   rw [zDF (show ¬ k + 1=0 by omega)]
   exact hg.2.2 h2
 ·have hc:=zOF hc
  rw [zDn (by omega)] at q3 q4
  by_cases h2:v.rule=2
  ·rw [<- hRR,if_pos h2,<- (q3 h2).2];rfl
  ·rw [<- hRR,if_neg h2,<- q4 h2];rfl
end Go.Proofs.Q


namespace Go.Proofs.Q
open Go.Sy
set_option maxRecDepth 4000
end Go.Proofs.Q


namespace Go.Proofs.Q
open Go.Sy
set_option maxRecDepth 4000
def zat (a_p:GNpr) (zla:(List Str)):Option (GNpr) :=
 lp (ι:=Int × GNpr) (λL3 q2=>br (decide (q2.1 < (zla.length:Int))) (cal (getI zla q2.1) λy8=>asr (Nat.ble (q2.2.b.length + y8.b.length) 68719476736) <| ck ((q2.1 + (1:Int))) <| L3 ((q2.1 + (1:Int)),(GNpr.mk q2.2.t (q2.2.b ++ y8.b)))) (some (q2.2))) (((0:Int),a_p))

def zis (a_b:(List UInt8)):Option (Str) :=
 lp (ι:=(List UInt8) × Int) (λL3 q2=>br (decide (q2.2 < (a_b.length:Int))) (cal (getI a_b q2.2) λy15=>asr (Nat.ble (4:UInt64).toNat 8) <| cal (getI (Str.mk [48,49,50,51,52,53,54,55,56,57,65,66,67,68,69,70]).b ((shr8 y15 (4:UInt64).toNat).toNat:Int)) λy17=>cal (getI (Str.mk [48,49,50,51,52,53,54,55,56,57,65,66,67,68,69,70]).b ((y15 &&& (15:UInt8)).toNat:Int)) λy18=>asr (Nat.ble (q2.1.length + ([y17,y18]:(List UInt8)).length) 68719476736) <| ck ((q2.2 + (1:Int))) <| L3 ((q2.1 ++ ([y17,y18]:(List UInt8))),(q2.2 + (1:Int)))) (asr (Nat.ble (q2.1.length + ([(39:UInt8),(72:UInt8)]:(List UInt8)).length) 68719476736) <| some ((Str.mk (q2.1 ++ ([(39:UInt8),(72:UInt8)]:(List UInt8))))))) ((([(39:UInt8)]:(List UInt8)),(0:Int)))

def zfl (a_v:Val):Option (Str) :=
 br (decide (a_v.kind=(1:Int))) (br (!decide (a_v.n=(0:Int))) (some ((Str.mk [84,82,85,69]))) (some ((Str.mk [70,65,76,83,69])))) (br (decide (a_v.kind=(4:Int))) (some ((Str.mk [78,85,76,76]))) (br (decide (a_v.kind=(2:Int))) (cal (zdA a_v.n (10:Int)) λy1=>some (y1)) (br (decide (a_v.kind=(3:Int))) (some ((Str.mk a_v.b))) (br (decide (a_v.kind=(5:Int))) (cal (zis a_v.b) λy2=>some (y2)) (br (decide (a_v.kind=(6:Int))) (cal (strings_ReplaceAll (Str.mk a_v.b) (Str.mk [34]) (Str.mk [34,34])) λy3=>asr (Nat.ble ((Str.mk [34]).b.length + y3.b.length) 4611686018427387904) <| asr (Nat.ble ((Str.mk ((Str.mk [34]).b ++ y3.b)).b.length + (Str.mk [34]).b.length) 4611686018427387904) <| some ((Str.mk ((Str.mk ((Str.mk [34]).b ++ y3.b)).b ++ (Str.mk [34]).b)))) (some ((Str.mk []))))))))

def zcj (z6:Int->GNpr->GTyp->Val->Option (Bool × GNpr)) (zaa:GNpr->Int->Val->Option (GNpr)) (zab:GNpr->Int->GTyp->Val->Option (GNpr)) (zZ:GNpr->Int->Val->GTyp->Option (GNpr)) (z7:Int->Val->GNpr->GTyp->Option (Bool × GNpr)) (a_k:Int) (a_a1:GNpr) (a_a2:GTyp) (a_a3:Val):Option (Bool × GNpr) :=
 cal (getI a_a3.l a_k) λy2=>cal (zaa a_a1 a_a2.of y2) λy3=>some (true,y3)
def zc5 (z6:Int->GNpr->GTyp->Val->Option (Bool × GNpr)) (zaa:GNpr->Int->Val->Option (GNpr)) (zab:GNpr->Int->GTyp->Val->Option (GNpr)) (zZ:GNpr->Int->Val->GTyp->Option (GNpr)) (z7:Int->Val->GNpr->GTyp->Option (Bool × GNpr)) (a_p:GNpr) (a_i:Int) (a_v:Val):Option (GNpr) :=
 cal (getI a_p.t.types a_i) λy2=>br (decide (y2.kind=(3:Int))) (cal (zdY y2 a_v.n) λy4=>cal (getI y2.items y4) λy5=>cal (zat a_p ([y5.name]:(List Str))) λy7=>some (y7)) (br (decide (y2.kind=(10:Int))) (cal (zab a_p (a_v.l.length:Int) y2 a_v) λy9=>some (y9)) (br (decide (y2.kind=(9:Int))) (cal (getI y2.fields a_v.n) λy11=>cal (zat a_p ([y11.name,(Str.mk [32,58,32])]:(List Str))) λy14=>cal (getI a_v.l (0:Int)) λy16=>cal (zaa y14 y11.ty y16) λy17=>some (y17)) (jp (ι:=Bool) (λJ20=>br (decide (y2.kind=(7:Int))) (J20 ((decide (y2.kind=(7:Int))))) (J20 ((decide (y2.kind=(8:Int)))))) (λq19=>br q19 (cal (zZ a_p (a_v.l.length:Int) a_v y2) λy21=>some (y21)) (cal (zfl a_v) λy23=>cal (zat a_p ([y23]:(List Str))) λy25=>some (y25))))))
def zcI (z6:Int->GNpr->GTyp->Val->Option (Bool × GNpr)) (zaa:GNpr->Int->Val->Option (GNpr)) (zab:GNpr->Int->GTyp->Val->Option (GNpr)) (zZ:GNpr->Int->Val->GTyp->Option (GNpr)) (z7:Int->Val->GNpr->GTyp->Option (Bool × GNpr)) (a_p:GNpr) (a_n_:Int) (zlF:GTyp) (zfR:Val):Option (GNpr) :=
 lp (ι:=Bool × Int × GNpr) (λL3 q2=>br (decide (q2.2.1 < a_n_)) (jp (ι:=Bool × GNpr) (λJ19=>jp (ι:=GNpr) (λJ21=>br q2.1 (cal (zat q2.2.2 ([(Str.mk [123,32])]:(List Str))) λy23=>J21 (y23)) (cal (zat q2.2.2 ([(Str.mk [44,32])]:(List Str))) λy26=>J21 (y26))) (λq20=>cal (z6 q2.2.1 q20 zlF zfR) λy28=>br y28.1 (J19 (false,y28.2)) (asr (decide (0 <= ((q2.2.2.b.length:Nat):Int)/\((q2.2.2.b.length:Nat):Int) <= (y28.2.b.length:Int))) <| J19 (q2.1,(GNpr.mk y28.2.t (y28.2.b.take (((q2.2.2.b.length:Nat):Int)).toNat)))))) (λq18=>ck ((q2.2.1 + (1:Int))) <| L3 (q18.1,(q2.2.1 + (1:Int)),q18.2))) (br q2.1 (cal (zat q2.2.2 ([(Str.mk [123,125])]:(List Str))) λy33=>some (y33)) (cal (zat q2.2.2 ([(Str.mk [32,125])]:(List Str))) λy36=>some (y36)))) ((true,(0:Int),a_p))
def zci (z6:Int->GNpr->GTyp->Val->Option (Bool × GNpr)) (zaa:GNpr->Int->Val->Option (GNpr)) (zab:GNpr->Int->GTyp->Val->Option (GNpr)) (zZ:GNpr->Int->Val->GTyp->Option (GNpr)) (z7:Int->Val->GNpr->GTyp->Option (Bool × GNpr)) (a_p:GNpr) (a_n_:Int) (zlm:Val) (zfR:GTyp):Option (GNpr) :=
 lp (ι:=Bool × Int × GNpr) (λL3 q2=>br (decide (q2.2.1 < a_n_)) (jp (ι:=Bool × GNpr) (λJ19=>jp (ι:=GNpr) (λJ21=>br q2.1 (cal (zat q2.2.2 ([(Str.mk [123,32])]:(List Str))) λy23=>J21 (y23)) (cal (zat q2.2.2 ([(Str.mk [44,32])]:(List Str))) λy26=>J21 (y26))) (λq20=>cal (z7 q2.2.1 zlm q20 zfR) λy28=>br y28.1 (J19 (false,y28.2)) (asr (decide (0 <= ((q2.2.2.b.length:Nat):Int)/\((q2.2.2.b.length:Nat):Int) <= (y28.2.b.length:Int))) <| J19 (q2.1,(GNpr.mk y28.2.t (y28.2.b.take (((q2.2.2.b.length:Nat):Int)).toNat)))))) (λq18=>ck ((q2.2.1 + (1:Int))) <| L3 (q18.1,(q2.2.1 + (1:Int)),q18.2))) (br q2.1 (cal (zat q2.2.2 ([(Str.mk [123,125])]:(List Str))) λy33=>some (y33)) (cal (zat q2.2.2 ([(Str.mk [32,125])]:(List Str))) λy36=>some (y36)))) ((true,(0:Int),a_p))
def zbO (z6:Int->GNpr->GTyp->Val->Option (Bool × GNpr)) (zaa:GNpr->Int->Val->Option (GNpr)) (zab:GNpr->Int->GTyp->Val->Option (GNpr)) (zZ:GNpr->Int->Val->GTyp->Option (GNpr)) (z7:Int->Val->GNpr->GTyp->Option (Bool × GNpr)) (a_k:Int) (a_a1:Val) (a_a2:GNpr) (a_a3:GTyp):Option (Bool × GNpr) :=
 cal (getI a_a1.l a_k) λy2=>cal (zd5 y2) λy3=>br y3 (some (false,a_a2)) (cal (getI a_a3.fields a_k) λy4=>cal (zat a_a2 ([y4.name,(Str.mk [32])]:(List Str))) λy6=>cal (getI a_a3.fields a_k) λy8=>cal (getI a_a1.l a_k) λy9=>cal (zaa y6 y8.ty y9) λy10=>some (true,y10))
def zbA:Nat->(Int->GNpr->GTyp->Val->Option (Bool × GNpr)) × (GNpr->Int->Val->Option (GNpr)) × (GNpr->Int->GTyp->Val->Option (GNpr)) × (GNpr->Int->Val->GTyp->Option (GNpr)) × (Int->Val->GNpr->GTyp->Option (Bool × GNpr))
 | 0=>(λ_ _ _ _=>none,λ_ _ _=>none,λ_ _ _ _=>none,λ_ _ _ _=>none,λ_ _ _ _=>none)
 | n + 1=>let p:=zbA n;(zcj p.1 p.2.1 p.2.2.1 p.2.2.2.1 p.2.2.2.2,zc5 p.1 p.2.1 p.2.2.1 p.2.2.2.1 p.2.2.2.2,zcI p.1 p.2.1 p.2.2.1 p.2.2.2.1 p.2.2.2.2,zci p.1 p.2.1 p.2.2.1 p.2.2.2.1 p.2.2.2.2,zbO p.1 p.2.1 p.2.2.1 p.2.2.2.1 p.2.2.2.2)
def zbK (n:Nat):Int->GNpr->GTyp->Val->Option (Bool × GNpr):=(zbA n).1
def zbf (n:Nat):GNpr->Int->Val->Option (GNpr):=(zbA n).2.1
def zb1 (n:Nat):GNpr->Int->GTyp->Val->Option (GNpr):=(zbA n).2.2.1
def zbk (n:Nat):GNpr->Int->Val->GTyp->Option (GNpr):=(zbA n).2.2.2.1
def zbI (n:Nat):Int->Val->GNpr->GTyp->Option (Bool × GNpr):=(zbA n).2.2.2.2

def zd9 (a_t:GTab) (a_i:Int) (a_v:Val):Option (Str × Int) :=
 cal (zhu a_t a_i a_v) λy1=>br (!y1) (some ((Str.mk []),(13:Int))) (cal (zes fuel a_v) λy2=>br (!y2) (some ((Str.mk []),(16:Int))) (cal (zbf fuel (GNpr.mk a_t ([]:(List UInt8))) a_i a_v) λy5=>br (decide ((8000:Int) < ((y5.b.length:Nat):Int))) (some ((Str.mk []),(5:Int))) (some ((Str.mk y5.b),(0:Int)))))

def zfd (zkl:UInt64->Option (Str)) (a_v:UInt64):Option (Str) :=
 br (decide (a_v < (10:UInt64))) (some ((Str.mk ([((48:UInt64) + a_v).toUInt8]:(List UInt8))))) (jp (ι:=Str) (λJ3=>asr (!decide ((10:UInt64)=0)) <| asr (!decide ((10:UInt64)=0)) <| cal (zkl (a_v / (10:UInt64))) λy6=>asr (Nat.ble (y6.b.length + (Str.mk ([((48:UInt64) + (a_v % (10:UInt64))).toUInt8]:(List UInt8))).b.length) 4611686018427387904) <| J3 ((Str.mk (y6.b ++ (Str.mk ([((48:UInt64) + (a_v % (10:UInt64))).toUInt8]:(List UInt8))).b)))) (λq2=>some (q2)))
def zlb:Nat->(UInt64->Option (Str))
 | 0=>(λ_=>none)
 | n + 1=>let p:=zlb n;(zfd p)
def zgv (n:Nat):UInt64->Option (Str):=(zlb n)

def zjt (a_v:Int):Option (Str) :=
 br (decide (a_v < (0:Int))) (ck ((a_v + (1:Int))) <| ck ((-(a_v + (1:Int)))) <| cal (zgv fuel ((UInt64.ofNat ((-(a_v + (1:Int))) % 18446744073709551616).toNat) + (1:UInt64))) λy3=>asr (Nat.ble ((Str.mk [45]).b.length + y3.b.length) 4611686018427387904) <| some ((Str.mk ((Str.mk [45]).b ++ y3.b)))) (cal (zgv fuel (UInt64.ofNat (a_v % 18446744073709551616).toNat)) λy5=>some (y5))
end Go.Proofs.Q


namespace Go.Proofs.Q
open Go.Sy
set_option linter.unusedVariables false

theorem tx {β:Type} {o:Option β} {x:β} (h:T (λr=>r=x) o):o=some x:=by
 obtain ⟨r,h1,h2⟩:=h;rw [h1,h2]
def hd:List UInt8->UInt8
 | []=>0
 | c :: _=>c
theorem zuY (b:List UInt8) (n:Nat):hd (b.drop n)=(b[n]?).getD 0:=by
 rcases Nat.lt_or_ge n b.length with h | h
 ·rw [List.drop_eq_getElem_cons h,List.getElem?_eq_getElem h];rfl
 ·rw [zDn h,List.getElem?_eq_none h];rfl
theorem dropc {b:List UInt8} {n:Nat} {y:UInt8} (h:b[n]?=some y):b.drop n=y :: b.drop (n + 1):=by
 obtain ⟨h1,h2⟩:=List.getElem?_eq_some_iff.1 h
 rw [List.drop_eq_getElem_cons h1,h2]
theorem zmC (s:Str) (i:Int) (h:0 <= i):zfV s i=some (hd (s.b.drop i.toNat)):=by
 obtain ⟨r,h1,h2⟩:=ziT s i
 rw [h1,h2,if_pos h,zuY]

/-! ### White -/
inductive Wst where
 | out
 | start
 | ins
 | fin
def isWh (c:UInt8):Bool:=decide (c=32) || decide (c=9) || decide (c=10) || decide (c=13)
def wh:Wst->List UInt8->List UInt8
 | _,[]=>[]
 | .out,c :: r=>bif isWh c then wh .out r else bif decide (c=45) && decide (hd r=45) then wh .start r else c :: r
 | .start,_ :: r=>wh .ins r
 | .ins,c :: r=>bif decide (c=10) then wh .out r else bif decide (c=45) && decide (hd r=45) then wh .fin r else wh .ins r
 | .fin,_ :: r=>wh .out r
theorem zvu {b:List UInt8} {n:Nat} (h:hd (b.drop n)=45):n < b.length:=by
 rcases Nat.lt_or_ge n b.length with h2 | h2
 ·exact h2
 ·rw [zDn h2] at h;cases h
theorem skip1 {b:List UInt8} {n:Nat} (h:n < b.length):∃ c,b.drop n=c :: b.drop (n + 1):=⟨_,List.drop_eq_getElem_cons h⟩
theorem zuu (s:Str) (i:Int) (h0:0 <= i) (h1:i <= s.b.length) (hl:s.b.length <= 1000000):zgc s i=some ((s.b.length:Int) - ((wh .out (s.b.drop i.toNat)).length:Int)):=by
 refine tx ?_
 unfold zgc
 refine T.lp (λk=>i <= k/\k <= s.b.length/\wh .out (s.b.drop k.toNat)=wh .out (s.b.drop i.toNat)) (λk=>(s.b.length - k).toNat) ⟨zIl _,h1,rfl⟩ (by omega) λL k ⟨k1,k2,k3⟩ hL=>?_
 rw [<- k3] at hL ⊢
 refine T.br (λhb=>?_) (λhb=>T.some ?_)
 rotate_left
 ·have hb:=zOF hb
  rw [zDn (by omega)]
  simp only [wh,zLn];omega
 have hb:=zOT hb
 refine T.get (by omega) hb λy hy=>?_
 have e:=dropc hy
 have e1:(k + 1).toNat=k.toNat + 1:=by omega
 refine T.jp (λq=>q=(decide (y=32) || decide (y=9))) (λJ h=>T.br (λh2=>h _ (by rw [h2];rfl)) λh2=>T.get (by omega) hb λy' hy'=>h _ (by rw [hy] at hy';cases hy';rw [h2];rfl)) λq hq=>?_
 refine T.jp (λq'=>q'=(q || decide (y=10))) (λJ h=>T.br (λh2=>h _ (by rw [h2];rfl)) λh2=>T.get (by omega) hb λy' hy'=>h _ (by rw [hy] at hy';cases hy';rw [h2];rfl)) λq' hq'=>?_
 refine T.jp (λq2=>q2=(q' || decide (y=13))) (λJ h=>T.br (λh2=>h _ (by rw [h2];rfl)) λh2=>T.get (by omega) hb λy' hy'=>h _ (by rw [hy] at hy';cases hy';rw [h2];rfl)) λq2 hq2=>?_
 have hw:q2=isWh y:=by rw [hq2,hq',hq];rfl
 refine T.br (λh2=>T.ck (by omega) ?_) λh2=>?_
 ·refine hL _ ⟨by omega,by omega,?_⟩ (by omega)
  rw [e1,e];simp only [wh,<- hw,h2,zCt]
 refine T.get (by omega) hb λy' hy'=>?_
 rw [hy] at hy';cases hy'
 refine T.jp (λq=>q=(decide (y=45) && decide (hd (s.b.drop (k.toNat + 1))=45))) (λJ h=>T.br (λh3=>T.ck (by omega) (T.eq (zmC s _ (by omega)) (h _ (by rw [h3,e1];rfl)))) λh3=>h _ (by rw [h3];rfl)) λq3 hq3=>?_
 refine T.br (λh3=>T.ck (by omega) ?_) (λh3=>T.some ?_)
 rotate_left
 ·rw [e];simp only [wh,<- hw,h2,zCf,<- hq3,h3,zLc,zLd];omega
 have h45:hd (s.b.drop (k.toNat + 1))=45:=by rw [hq3] at h3;simpa using (Bool.and_eq_true_iff.1 h3).2
 have hlt:=zvu h45
 obtain ⟨c,ec⟩:=skip1 hlt
 have e2:(k + 2).toNat=k.toNat + 1 + 1:=by omega
 have hins:wh .out (s.b.drop k.toNat)=wh .ins (s.b.drop (k + 2).toNat):=by
  rw [e,e2];simp only [wh,<- hw,h2,zCf,<- hq3,h3,zCt];rw [ec];simp only [wh]
 refine T.lp (λj=>k + 2 <= j/\j <= s.b.length/\wh .out (s.b.drop k.toNat)=wh .ins (s.b.drop j.toNat)) (λj=>(s.b.length - j).toNat) ⟨zIl _,by omega,hins⟩ (by omega) λL2 j ⟨j1,j2,j3⟩ hL2=>?_
 refine T.jp (λq=>(q=true->j < s.b.length/\∀ y,s.b[j.toNat]?=some y->y ≠ 10)/\(q=false->wh .out (s.b.drop j.toNat)=wh .ins (s.b.drop j.toNat))) (λJ h=>T.br (λh4=>?_) λh4=>h _ ⟨(λh=>by cases h),λ_=>?_⟩) λq hq=>?_
 ·have h4:=zOT h4
  refine T.get (by omega) h4 λy2 hy2=>h _ ⟨λh5=>⟨h4,λy3 hy3=>?_⟩,λh5=>?_⟩
  ·rw [hy2] at hy3;cases hy3;simpa using h5
  ·have h6:y2=10:=by simpa using h5
   subst h6
   rw [dropc hy2]
   simp [wh,isWh]
 ·have h4:=zOF h4
  rw [zDn (by omega)];simp only [wh]
 refine T.br (λh4=>?_) (λh4=>hL _ ⟨by omega,j2,by rw [hq.2 h4,j3]⟩ (by omega))
 obtain ⟨hj,hne⟩:=hq.1 h4
 refine T.get (by omega) hj λy2 hy2=>?_
 have hy10:=hne y2 hy2
 have f:=dropc hy2
 have f1:(j + 1).toNat=j.toNat + 1:=by omega
 refine T.jp (λq=>q=(decide (y2=45) && decide (hd (s.b.drop (j.toNat + 1))=45))) (λJ h=>T.br (λh3=>T.ck (by omega) (T.eq (zmC s _ (by omega)) (h _ (by rw [h3,f1];rfl)))) λh3=>h _ (by rw [h3];rfl)) λq4 hq4=>?_
 refine T.br (λh5=>T.ck (by omega) ?_) (λh5=>T.ck (by omega) (hL2 _ ⟨by omega,by omega,?_⟩ (by omega)))
 ·have h46:hd (s.b.drop (j.toNat + 1))=45:=by rw [hq4] at h5;simpa using (Bool.and_eq_true_iff.1 h5).2
  have hlt2:=zvu h46
  obtain ⟨c2,ec2⟩:=skip1 hlt2
  have f2:(j + 2).toNat=j.toNat + 1 + 1:=by omega
  refine hL _ ⟨by omega,by omega,?_⟩ (by omega)
  rw [j3,f,f2];simp only [wh,zDF hy10,zCf,<- hq4,h5,zCt];rw [ec2];simp only [wh]
 ·rw [j3,f,f1];simp only [wh,zDF hy10,zCf,<- hq4,h5]

/-! ### Names -/
def inName (c:UInt8) (r:List UInt8):Bool:=zcm c || isDigit c || (decide (c=45) && !decide (hd r=45))
def nm:List UInt8->Nat
 | []=>0
 | c :: r=>bif inName c r then nm r + 1 else 0
theorem zmL (c:UInt8) (r:List UInt8):nm (c :: r)=bif inName c r then nm r + 1 else 0:=rfl
theorem zpR:∀ b:List UInt8,nm b <= b.length
 | []=>zNl _
 | c :: r=>by
  have:=zpR r
  unfold nm
  cases inName c r <;> simp <;> omega
def nmBad (b:List UInt8):Bool:=decide ((b.take (nm b)).getLast?=some 45) || decide (60 < nm b)
theorem zsA {b:List UInt8} {n:Nat} {y:UInt8} (hn:0 < n) (hy:b[n - 1]?=some y):(b.take n).getLast?=some y:=by
 have hlt:=(List.getElem?_eq_some_iff.1 hy).1
 rw [List.getLast?_eq_getElem?,zLt,List.getElem?_take,Nat.min_eq_left (by omega),if_pos (by omega),hy]
theorem zu2 (s:Str) (i:Int) (h0:0 <= i) (h1:i < s.b.length) (hl:s.b.length <= 1000000) (hc:zcm (hd (s.b.drop i.toNat))=true) :
    zhr s i=some (bif nmBad (s.b.drop i.toNat) then -1 else i + nm (s.b.drop i.toNat)):=by
  refine tx ?_
  unfold zhr
  have hi0:0 < nm (s.b.drop i.toNat):=by
    obtain ⟨c,ec⟩:=skip1 (b:=s.b) (n:=i.toNat) (by omega)
    rw [ec] at hc ⊢
    unfold nm inName
    simp only [hd] at hc
    rw [hc];simp
  refine T.lp (λk=>i <= k/\k <= s.b.length/\(nm (s.b.drop i.toNat):Int)=k - i + nm (s.b.drop k.toNat)) (λk=>(s.b.length - k).toNat) ⟨zIl _,by omega,by omega⟩ (by omega) λL k ⟨k1,k2,k3⟩ hL=>?_
  refine T.jp (λq=>(q=true->k < s.b.length/\(nm (s.b.drop i.toNat):Int)=k + 1 - i + nm (s.b.drop (k + 1).toNat))/\(q=false->(nm (s.b.drop i.toNat):Int)=k - i)) (λJ h=>?_) λq hq=>?_
  · refine T.br (λhb=>?_) (λhb=>h _ ⟨(λh=>by cases h),λ_=>by
      have:=zOF hb
      rw [zDn (as:=s.b) (i:=k.toNat) (by omega)] at k3
      simpa [nm] using k3⟩)
    have hb:=zOT hb
    refine T.get (by omega) hb λy hy=>?_
    have e:=dropc hy
    have e1:(k + 1).toNat=k.toNat + 1:=by omega
    refine T.eq (zgX y) ?_
    refine T.jp (λq=>q=(zcm y || isDigit y)) (λJ2 h2=>T.br (λh3=>h2 _ (by rw [h3];rfl)) λh3=>T.get (by omega) hb λy2 hy2=>T.eq (zeW y2) (h2 _ (by rw [hy] at hy2;cases hy2;rw [h3];rfl))) λq hq=>?_
    refine T.jp (λq2=>q2=inName y (s.b.drop (k.toNat + 1))) (λJ2 h2=>T.br (λh3=>h2 _ (by unfold inName;rw [<- hq,h3];rfl)) λh3=>T.get (by omega) hb λy2 hy2=>?_) λq2 hq2=>?_
    · rw [hy] at hy2;cases hy2
      refine T.jp (λq3=>q3=(decide (y=45) && !decide (hd (s.b.drop (k.toNat + 1))=45))) (λJ3 h4=>T.br (λh5=>T.ck (by omega) (T.eq (zmC s _ (by omega)) (h4 _ (by rw [h5,e1];rfl)))) λh5=>h4 _ (by rw [h5];rfl)) λq3 hq3=>h2 _ ?_
      unfold inName;rw [<- hq,h3,hq3];rfl
    · rw [e,zmL] at k3
      refine h _ ⟨λh3=>⟨hb,?_⟩,λh3=>?_⟩
      · rw [<- hq2,h3,zCt] at k3
        rw [e1];omega
      · rw [<- hq2,h3,zCf] at k3
        omega
  refine T.br (λhb=>T.ck (by have:=hq.1 hb;omega) (hL _ ⟨by omega,by have:=hq.1 hb;omega,(hq.1 hb).2⟩ (by have:=hq.1 hb;omega))) λhb=>?_
  have hn:=hq.2 hb
  refine T.ck (by omega) (T.get (by omega) (by omega) λy hy=>?_)
  have hlast:((s.b.drop i.toNat).take (nm (s.b.drop i.toNat))).getLast?=some y:=by
    refine zsA hi0 ?_
    rw [List.getElem?_drop]
    have:i.toNat + (nm (s.b.drop i.toNat) - 1)=(k - 1).toNat:=by omega
    rw [this,hy]
  refine T.jp (λq=>q=nmBad (s.b.drop i.toNat)) (λJ h=>T.br (λh3=>h _ ?_) λh3=>T.ck (by omega) (h _ ?_)) λq hq=>?_
  · unfold nmBad
    rw [hlast]
    have:=zOT h3
    subst this;rfl
  · unfold nmBad
    rw [hlast]
    have:=zOF h3
    have e:decide (some y=some (45:UInt8))=false:=by simpa using this
    rw [e,Bool.false_or,decide_eq_decide]
    omega
  · rw [<- hq]
    exact T.br (λh3=>T.some (by rw [h3];rfl)) λh3=>T.some (by rw [h3,zCf];omega)
end Go.Proofs.Q


namespace Go.Proofs.Q
open Go.Sy
set_option linter.unusedVariables false

theorem seg {b:List UInt8} {i k:Nat}:(b.take k).drop i=(b.drop i).take (k - i):=by rw [List.drop_take]
theorem ztk {b:List UInt8} {i n:Nat} {y:UInt8} (h:b[i + n]?=some y):(b.drop i)[n]?=some y:=by rw [List.getElem?_drop,h]
theorem zsY {b:List UInt8} {n:Nat} {y:UInt8} (h:b[n]?=some y):b.take (n + 1)=b.take n ++ [y]:=by rw [List.take_add_one,h];rfl

/-! ### Numbers -/
def dg:List UInt8->Nat
 | []=>0
 | c :: r=>bif isDigit c then dg r + 1 else 0
theorem zrI (c:UInt8) (r:List UInt8):dg (c :: r)=bif isDigit c then dg r + 1 else 0:=rfl
theorem zt6:∀ b:List UInt8,dg b <= b.length
 | []=>zNl _
 | c :: r=>by
  have:=zt6 r
  rw [zrI]
  cases isDigit c <;> simp <;> omega
def numBad (m:Bool) (d:List UInt8):Bool :=
 decide (dg d < 1) || decide (19 < dg d) || (decide (1 < dg d) && decide (hd d=48)) || (m && decide (hd d=48)) || zcm (hd (d.drop (dg d))) ||
  decide (9223372036854775808 < uval (d.take (dg d))) || (!m && decide (uval (d.take (dg d))=9223372036854775808))
def numLen (b:List UInt8):Option Nat :=
 bif decide (hd b=45) then bif numBad true (b.drop 1) then none else some (dg (b.drop 1) + 1)
 else bif numBad false b then none else some (dg b)
theorem zsJ (s:Str) (i:Int) (h0:0 <= i) (h1:i < s.b.length) (hl:s.b.length <= 1000000) :
    zfe s i=some (match numLen (s.b.drop i.toNat) with
      | none=>-1
      | some n=>i + (n:Int)):=by
  refine tx ?_
  unfold zfe
  refine T.get h0 h1 λy1 hy1=>?_
  have hd1:hd (s.b.drop i.toNat)=y1:=by rw [dropc hy1];rfl
  refine T.jp (λf=>i <= f/\f <= i + 1/\numLen (s.b.drop i.toNat)=(bif numBad (decide (y1=45)) (s.b.drop f.toNat) then none else some (dg (s.b.drop f.toNat) + (f - i).toNat))) (λJ h=>T.br (λhb=>T.ck (by omega) (h _ ⟨by omega,by omega,?_⟩)) λhb=>h _ ⟨by omega,by omega,?_⟩) λf ⟨f1,f2,f3⟩=>?_
  · have e1:(i + 1).toNat=i.toNat + 1:=by omega
    have e2:(i + 1 - i).toNat=1:=by omega
    unfold numLen
    rw [hd1,hb,zCt,e1,e2,List.drop_drop]
  · have e2:(i - i).toNat=0:=by omega
    unfold numLen
    rw [hd1,hb,zCf,e2,Nat.add_zero]
  have hfl:f <= s.b.length:=by omega
  have hgoal:∀ k:Int,(dg (s.b.drop f.toNat):Int)=k - f->(match numLen (s.b.drop i.toNat) with
      | none=>-1
      | some n=>i + (n:Int))=bif numBad (decide (y1=45)) (s.b.drop f.toNat) then -1 else k:=by
    intro k hk
    rw [f3]
    cases numBad (decide (y1=45)) (s.b.drop f.toNat) with
    | true=>rfl
    | false =>
      show i + ((dg (s.b.drop f.toNat) + (f - i).toNat:Nat):Int)=k
      omega
  refine T.lp (ι:=Int × UInt64) (λq=>f <= q.1/\q.1 <= s.b.length/\(dg (s.b.drop f.toNat):Int)=q.1 - f + dg (s.b.drop q.1.toNat)/\(q.1 - f <= 19->q.2=uval ((s.b.drop f.toNat).take (q.1.toNat - f.toNat)))) (λq=>(s.b.length - q.1).toNat)
    ⟨zIl _,hfl,by dsimp only;omega,λ_=>by rw [Nat.sub_self];rfl⟩ (by simp only;omega) λL q hq hL=>?_
  obtain ⟨k,v⟩:=q
  obtain ⟨hq1,hq2,hq3,hq4⟩:=hq
  simp only at hq1 hq2 hq3 hq4 ⊢
  refine T.jp (λb=>(b=true->k < s.b.length/\(dg (s.b.drop f.toNat):Int)=k + 1 - f + dg (s.b.drop (k + 1).toNat))/\(b=false->(dg (s.b.drop f.toNat):Int)=k - f)) (λJ h=>?_) λb hb=>?_
  · refine T.br (λh2=>?_) λh2=>h _ ⟨(λh=>by cases h),λ_=>?_⟩
    · have h2:=zOT h2
      have ek:(k + 1).toNat=k.toNat + 1:=by omega
      refine T.get (by omega) h2 λy hy=>T.eq (zeW y) (h _ ?_)
      rw [dropc hy,zrI] at hq3
      rw [ek]
      refine ⟨λhd=>⟨h2,?_⟩,λhd=>?_⟩
      · rw [hd,zCt] at hq3;omega
      · rw [hd,zCf] at hq3;omega
    · have h2:=zOF h2
      rw [zDn (as:=s.b) (i:=k.toNat) (by omega)] at hq3
      simpa [dg] using hq3
  refine T.br (λh2=>?_) λh2=>?_
  · obtain ⟨hk,hd⟩:=hb.1 h2
    obtain ⟨y,hy⟩:∃ y,s.b[k.toNat]?=some y:=⟨_,List.getElem?_eq_getElem (by omega)⟩
    have hsn:=zsY (b:=s.b.drop f.toNat) (n:=k.toNat - f.toNat) (y:=y) (ztk (by rw [show f.toNat + (k.toNat - f.toNat)=k.toNat by omega,hy]))
    have hk1:(k + 1).toNat - f.toNat=k.toNat - f.toNat + 1:=by omega
    refine T.ck (by omega) (T.jp (λu=>k - f < 19->u=10 * v + (y - 48).toUInt64) (λJ h=>T.br (λ_=>?_) λh3=>h _ λh4=>by have:=zOF h3;omega) λu hu=>T.ck (by omega) (hL _ ?_ (by simp only;omega)))
    · exact T.get (by omega) hk λy' hy'=>h _ λ_=>by rw [hy] at hy';cases hy';rfl
    · refine ⟨by simp only;omega,by simp only;omega,hd,λh19=>?_⟩
      simp only at h19 ⊢
      rw [hk1,hsn,zku,hu (by omega),hq4 (by omega)]
  have hn:=hb.2 h2
  rw [hgoal k hn]
  refine T.ck (by omega) ?_
  have hdn:dg (s.b.drop f.toNat)=k.toNat - f.toNat:=by omega
  have hyf:1 <= k - f->∀ y,s.b[f.toNat]?=some y->hd (s.b.drop f.toNat)=y:=λ_ y hy=>by rw [dropc hy];rfl
  refine T.jp (λb=>b=(decide (dg (s.b.drop f.toNat) < 1) || decide (19 < dg (s.b.drop f.toNat)))) (λJ h=>T.br (λh3=>h _ ?_) λh3=>h _ ?_) λb1 hb1=>?_
  · have:=zOT h3;rw [zDT (by omega)];rfl
  · have:=zOF h3;rw [zDF (show ¬ dg (s.b.drop f.toNat) < 1 by omega),Bool.false_or,decide_eq_decide];omega
  refine T.jp (λb=>b=(b1 || (decide (1 < dg (s.b.drop f.toNat)) && decide (hd (s.b.drop f.toNat)=48)))) (λJ h=>T.br (λh3=>h _ (by rw [h3];rfl)) λh3=>?_) λb2 hb2=>?_
  · refine T.jp (λb=>b=(decide (1 < dg (s.b.drop f.toNat)) && decide (hd (s.b.drop f.toNat)=48))) (λJ3 h4=>T.br (λh5=>?_) λh5=>h4 _ ?_) λb hb=>h _ (by rw [h3,hb];rfl)
    · have h5:=zOT h5
      exact T.get (by omega) (by omega) λy hy=>h4 _ (by rw [zDT (show 1 < dg (s.b.drop f.toNat) by omega),hyf (by omega) y hy];rfl)
    · have h5:=zOF h5
      rw [zDF (show ¬ 1 < dg (s.b.drop f.toNat) by omega)];rfl
  refine T.jp (λb=>b=(b2 || (decide (y1=45) && decide (hd (s.b.drop f.toNat)=48)))) (λJ h=>T.br (λh3=>h _ (by rw [h3];rfl)) λh3=>?_) λb3 hb3=>?_
  · have hge:1 <= k - f:=by
      have e1:=(Bool.or_eq_false_iff.1 (hb2.symm.trans h3)).1
      have:=zOF (Bool.or_eq_false_iff.1 (hb1.symm.trans e1)).1
      omega
    refine T.jp (λb=>b=(decide (y1=45) && decide (hd (s.b.drop f.toNat)=48))) (λJ3 h4=>T.br (λh5=>?_) λh5=>h4 _ (by rw [h5];rfl)) λb hb=>h _ (by rw [h3,hb];rfl)
    exact T.get (by omega) (by omega) λy hy=>h4 _ (by rw [h5,hyf hge y hy];rfl)
  have hat:zfV s k=some (hd ((s.b.drop f.toNat).drop (dg (s.b.drop f.toNat)))):=by
    rw [zmC s k (by omega),List.drop_drop,hdn]
    congr 3;omega
  refine T.jp (λb=>b=(b3 || zcm (hd ((s.b.drop f.toNat).drop (dg (s.b.drop f.toNat)))))) (λJ h=>T.br (λh3=>h _ (by rw [h3];rfl)) λh3=>T.eq hat (T.eq (zgX _) (h _ (by rw [h3];rfl)))) λb4 hb4=>?_
  have hv:b4=false->v=uval ((s.b.drop f.toNat).take (dg (s.b.drop f.toNat))):=λh=>by
    have e3:=(Bool.or_eq_false_iff.1 (hb4.symm.trans h)).1
    have e2:=(Bool.or_eq_false_iff.1 (hb3.symm.trans e3)).1
    have e1:=(Bool.or_eq_false_iff.1 (hb2.symm.trans e2)).1
    have:=zOF (Bool.or_eq_false_iff.1 (hb1.symm.trans e1)).2
    rw [hdn];exact hq4 (by omega)
  refine T.jp (λb=>b=(b4 || decide (9223372036854775808 < uval ((s.b.drop f.toNat).take (dg (s.b.drop f.toNat)))))) (λJ h=>T.br (λh3=>h _ (by rw [h3];rfl)) λh3=>h _ (by rw [h3,hv h3];rfl)) λb5 hb5=>?_
  refine T.jp (λb=>b=(b5 || (!decide (y1=45) && decide (uval ((s.b.drop f.toNat).take (dg (s.b.drop f.toNat)))=9223372036854775808)))) (λJ h=>T.br (λh3=>h _ (by rw [h3];rfl)) λh3=>?_) λb6 hb6=>?_
  · have e4:=(Bool.or_eq_false_iff.1 (hb5.symm.trans h3)).1
    refine T.jp (λb=>b=(!decide (y1=45) && decide (uval ((s.b.drop f.toNat).take (dg (s.b.drop f.toNat)))=9223372036854775808))) (λJ3 h4=>T.br (λh5=>h4 _ (by rw [h5,hv e4];rfl)) λh5=>h4 _ (by rw [h5];rfl)) λb hb=>h _ (by rw [h3,hb];rfl)
  have hall:b6=numBad (decide (y1=45)) (s.b.drop f.toNat):=by
    rw [hb6,hb5,hb4,hb3,hb2,hb1];rfl
  rw [<- hall]
  exact T.br (λh3=>T.some (by rw [h3];rfl)) λh3=>T.some (by rw [h3];rfl)

/-! ### Hexes -/
def isHex (c:UInt8):Bool:=isDigit c || (decide (65 <= c) && decide (c <= 70))
def hx:List UInt8->Nat
 | []=>0
 | c :: r=>bif isHex c then hx r + 1 else 0
theorem zvn (c:UInt8) (r:List UInt8):hx (c :: r)=bif isHex c then hx r + 1 else 0:=rfl
def hexBad (r:List UInt8):Bool:=!decide (hx r % 2=0) || !decide (hd (r.drop (hx r))=39) || !decide (hd (r.drop (hx r + 1))=72)
theorem zul {b:List UInt8} {n:Nat} (h:hd (b.drop n) ≠ 0):n < b.length:=by
 rcases Nat.lt_or_ge n b.length with h2 | h2
 ·exact h2
 ·rw [zDn h2] at h;exact absurd rfl h
theorem zvM (s:Str) (i:Int) (h0:0 <= i) (h1:i < s.b.length) (hl:s.b.length <= 1000000) :
    zi1 s i=some (bif hexBad (s.b.drop (i.toNat + 1)) then (-1,⟨[]⟩) else (i + 1 + (hx (s.b.drop (i.toNat + 1)):Int) + 2,⟨(s.b.drop (i.toNat + 1)).take (hx (s.b.drop (i.toNat + 1)))⟩)):=by
  refine tx ?_
  unfold zi1
  have e0:(i + 1).toNat=i.toNat + 1:=by omega
  refine T.ck (by omega) (T.lp (λ(k:Int)=>i + 1 <= k/\k <= (s.b.length:Int)/\(hx (s.b.drop (i.toNat + 1)):Int)=k - (i + 1) + hx (s.b.drop k.toNat)) (λ(k:Int)=>((s.b.length:Int) - k).toNat) ⟨zIl _,by omega,by rw [e0];omega⟩ (by omega) λL k ⟨k1,k2,k3⟩ hL=>?_)
  refine T.jp (λb=>(b=true->k < s.b.length/\(hx (s.b.drop (i.toNat + 1)):Int)=k + 1 - (i + 1) + hx (s.b.drop (k + 1).toNat))/\(b=false->(hx (s.b.drop (i.toNat + 1)):Int)=k - (i + 1))) (λJ h=>T.br (λh2=>?_) λh2=>h _ ⟨(λh=>by cases h),λ_=>?_⟩) λb hb=>?_
  · have h2:=zOT h2
    refine T.get (by omega) h2 λy hy=>T.eq (zeW y) ?_
    have ek:(k + 1).toNat=k.toNat + 1:=by omega
    refine T.jp (λq=>q=isHex y) (λJ2 h3=>T.br (λh4=>h3 _ (by unfold isHex;rw [h4];rfl)) λh4=>T.get (by omega) h2 λy' hy'=>?_) λq hq=>h _ ?_
    · rw [hy] at hy';cases hy'
      refine T.jp (λq=>q=(decide (65 <= y) && decide (y <= 70))) (λJ4 h5=>T.br (λh6=>T.get (by omega) h2 λy' hy'=>h5 _ (by rw [hy] at hy';cases hy';rw [h6];rfl)) λh6=>h5 _ (by rw [h6];rfl)) λq hq=>h3 _ (by unfold isHex;rw [h4,hq];rfl)
    · subst hq
      rw [dropc hy,zvn] at k3
      rw [ek]
      refine ⟨λhd=>⟨h2,?_⟩,λhd=>?_⟩
      · rw [hd,zCt] at k3;omega
      · rw [hd,zCf] at k3;omega
  · have h2:=zOF h2
    rw [zDn (as:=s.b) (i:=k.toNat) (by omega)] at k3
    simpa [hx] using k3
  refine T.br (λh2=>T.ck (by have:=hb.1 h2;omega) (hL _ ⟨by have:=hb.1 h2;omega,by have:=hb.1 h2;omega,(hb.1 h2).2⟩ (by have:=hb.1 h2;omega))) λh2=>?_
  have hn:=hb.2 h2
  have hdk:(s.b.drop (i.toNat + 1)).drop (hx (s.b.drop (i.toNat + 1)))=s.b.drop k.toNat:=by rw [List.drop_drop];congr 1;omega
  have hdk1:(s.b.drop (i.toNat + 1)).drop (hx (s.b.drop (i.toNat + 1)) + 1)=s.b.drop (k + 1).toNat:=by rw [List.drop_drop];congr 1;omega
  refine T.ck (by omega) (T.asr rfl ?_)
  have hmod:decide ((k - (i + 1)).tmod 2=0)=decide (hx (s.b.drop (i.toNat + 1)) % 2=0):=by
    rw [decide_eq_decide,Int.tmod_eq_emod_of_nonneg (by omega)]
    omega
  refine T.jp (λb=>b=(!decide (hx (s.b.drop (i.toNat + 1)) % 2=0) || !decide (hd (s.b.drop k.toNat)=39))) (λJ h=>T.br (λh3=>h _ (by rw [<- hmod,h3];rfl)) λh3=>T.eq (zmC s k (by omega)) (h _ (by rw [<- hmod,h3];rfl))) λb1 hb1=>?_
  refine T.jp (λb=>b=hexBad (s.b.drop (i.toNat + 1))) (λJ h=>T.br (λh3=>h _ ?_) λh3=>T.ck (by omega) (T.eq (zmC s (k + 1) (by omega)) (h _ ?_))) λb2 hb2=>?_
  · unfold hexBad;rw [hdk,<- hb1,h3];rfl
  · unfold hexBad;rw [hdk,hdk1,<- hb1,h3];rfl
  rw [<- hb2]
  refine T.br (λh3=>T.some (by rw [h3];rfl)) λh3=>?_
  have hlt:k + 1 < s.b.length:=by
    rw [h3] at hb2
    unfold hexBad at hb2
    have:=(Bool.or_eq_false_iff.1 hb2.symm).2
    have h72:hd (s.b.drop (k + 1).toNat)=72:=by rw [hdk1] at this;simpa using this
    have:=zul (b:=s.b) (n:=(k + 1).toNat) (by rw [h72];decide)
    omega
  refine T.ck (by omega) (T.asd (by omega) (T.some ?_))
  rw [h3,zCf,seg,e0]
  have e5:k.toNat - (i.toNat + 1)=hx (s.b.drop (i.toNat + 1)):=by omega
  rw [e5,hn]
  have e6:i + 1 + (k - (i + 1)) + 2=k + 2:=by omega
  rw [e6]

/-! ### Strings -/
def qd:Bool->List UInt8->List UInt8->Option (List UInt8 × List UInt8)
 | _,[],_=>none
 | true,_ :: r,acc=>qd false r (acc ++ [34])
 | false,c :: r,acc=>bif decide (c=34) then bif decide (hd r=34) then qd true r acc else bif Lib.validD acc then some (acc,r) else none else qd false r (acc ++ [c])
theorem zsQ (s:Str) (i:Int) (h0:0 <= i) (h1:i < s.b.length) (hl:s.b.length <= 1000000) :
    ze6 s i=some (match qd false (s.b.drop (i.toNat + 1)) [] with
      | none=>(-1,⟨[]⟩)
      | some (t,r)=>((s.b.length:Int) - (r.length:Int),⟨t⟩)):=by
  refine tx ?_
  unfold ze6
  have e0:(i + 1).toNat=i.toNat + 1:=by omega
  refine T.ck (by omega) (T.lp (ι:=Int × Str) (λq=>i + 1 <= q.1/\q.1 <= s.b.length + 1/\(q.2.b.length:Int) < q.1/\qd false (s.b.drop (i.toNat + 1)) []=qd false (s.b.drop q.1.toNat) q.2.b) (λq=>(s.b.length + 1 - q.1).toNat) ⟨zIl _,by dsimp only;omega,by dsimp only;simp only [zLn];omega,by dsimp only;rw [e0]⟩ (by dsimp only;omega) λL q hq hL=>?_)
  obtain ⟨k,o⟩:=q
  obtain ⟨hq1,hq2,hq3,hq4⟩:=hq
  simp only at hq1 hq2 hq3 hq4 ⊢
  rw [hq4] at hL ⊢
  refine T.br (λh2=>?_) λh2=>T.some ?_
  rotate_left
  · have h2:=zOF h2
    rw [zDn (by omega)];simp only [qd]
  have h2:=zOT h2
  have ek:(k + 1).toNat=k.toNat + 1:=by omega
  refine T.jp (λ(q:Int × Str)=>k <= q.1/\q.1 < (s.b.length:Int)/\(q.2.b.length:Int) < q.1 + 1/\qd false (s.b.drop k.toNat) o.b=qd false (s.b.drop (q.1 + 1).toNat) q.2.b) (λJ h=>?_) λq hq=>?_
  · refine T.get (by omega) h2 λy hy=>T.br (λh3=>?_) λh3=>?_
    · have h34:decide (y=34)=false:=by simpa using h3
      have ey:(s.b.take (k + 1).toNat).drop k.toNat=[y]:=by
        rw [seg,ek,dropc hy,show k.toNat + 1 - k.toNat=1 by omega];rfl
      refine T.ck (by omega) (T.asd (by omega) (T.abl ?_ (h _ ⟨zIl _,h2,?_,?_⟩)))
      · simp only [zLd,zLt];omega
      · simp only [zLa,zLd,zLt];omega
      · dsimp only
        rw [ey,ek]
        conv=>lhs;rw [dropc hy]
        simp only [qd,h34,zCf]
    · have h34:decide (y=34)=true:=by simpa using h3
      refine T.ck (by omega) (T.eq (zmC s (k + 1) (by omega)) (T.br (λh4=>?_) λh4=>?_))
      · have hn:decide (hd (s.b.drop (k.toNat + 1))=34)=false:=by rw [ek] at h4;simpa using h4
        refine T.eq rfl (T.br (λh5=>T.some ?_) λh5=>T.ck (by omega) (T.some ?_))
        · have h5:Lib.validD o.b=false:=by simpa using h5
          conv=>rhs;rw [dropc hy]
          simp only [qd,h34,zCt,hn,zCf,h5]
        · have h5:Lib.validD o.b=true:=by simpa using h5
          conv=>rhs;rw [dropc hy]
          simp only [qd,h34,zCt,hn,zCf,h5,zLd]
          congr 1;omega
      · have hn:hd (s.b.drop (k.toNat + 1))=34:=by rw [ek] at h4;simpa using h4
        have hlt:=zul (b:=s.b) (n:=k.toNat + 1) (by rw [hn];decide)
        obtain ⟨c,ec⟩:=skip1 hlt
        refine T.abl ?_ (T.ck (by omega) (h _ ⟨by dsimp only;omega,by dsimp only;omega,?_,?_⟩))
        · simp only [zLc,zLn];omega
        · simp only [zLa,zLc,zLn];omega
        · dsimp only
          rw [show (k + 1 + 1).toNat=k.toNat + 1 + 1 by omega]
          conv=>lhs;rw [dropc hy]
          simp only [qd,h34,zCt,zDT hn]
          rw [ec];simp only [qd]
  · exact T.ck (by omega) (hL _ ⟨by dsimp only;omega,by dsimp only;omega,hq.2.2.1,hq.2.2.2⟩ (by dsimp only;omega))
end Go.Proofs.Q


namespace Go.Proofs.Q
open Go.Sy
set_option linter.unusedVariables false

/-! ### Signs -/
def isPre:List UInt8->List UInt8->Bool
 | [],_=>true
 | _ :: _,[]=>false
 | p :: ps,c :: r=>bif decide (p=c) then isPre ps r else false
def sgF:List (List UInt8)->List UInt8->Nat
 | [],_=>0
 | p :: ps,b=>bif isPre p b then p.length else sgF ps b
def sgs:List (List UInt8):=[[58,58,61],[46,46,46],[46,46],[91,91],[93,93],[123],[125],[91],[93],[40],[41],[44],[58]]
def sg (b:List UInt8):Nat:=sgF sgs b
theorem zkp:∀ (p b:List UInt8),isPre p b=true ↔ p.length <= b.length/\b.take p.length=p
 | [],b=>by simp [isPre]
 | _ :: _,[]=>by simp [isPre]
 | p :: ps,c :: r=>by
  have ih:=zkp ps r
  unfold isPre
  by_cases h:p=c
  ·subst h;simp [ih]
  ·simp only [zDF h,zCf,zLc,List.take_succ_cons,List.cons.injEq]
   exact ⟨(λh=>by cases h),λh2=>absurd h2.2.1.symm h⟩
theorem zuL {k:Nat} {y:Str} (h:([(Str.mk [58,58,61]),(Str.mk [46,46,46]),(Str.mk [46,46]),(Str.mk [91,91]),(Str.mk [93,93]),(Str.mk [123]),(Str.mk [125]),(Str.mk [91]),(Str.mk [93]),(Str.mk [40]),(Str.mk [41]),(Str.mk [44]),(Str.mk [58])]:List Str)[k]?=some y):sgs.drop k=y.b :: sgs.drop (k + 1):=by
 have e:([(Str.mk [58,58,61]),(Str.mk [46,46,46]),(Str.mk [46,46]),(Str.mk [91,91]),(Str.mk [93,93]),(Str.mk [123]),(Str.mk [125]),(Str.mk [91]),(Str.mk [93]),(Str.mk [40]),(Str.mk [41]),(Str.mk [44]),(Str.mk [58])]:List Str)=sgs.map Str.mk:=rfl
 rw [e,List.getElem?_map] at h
 obtain ⟨z,h1,h2⟩:=Option.map_eq_some_iff.1 h
 subst h2
 obtain ⟨h3,h4⟩:=List.getElem?_eq_some_iff.1 h1
 rw [List.drop_eq_getElem_cons h3,h4]
theorem zvk (s:Str) (i:Int) (h0:0 <= i) (h1:i < s.b.length) (hl:s.b.length <= 1000000):zhs s i=some ((sg (s.b.drop i.toNat):Nat):Int):=by
 refine tx ?_
 unfold zhs
 refine T.asd (by omega) (T.lp (λ(k:Int)=>0 <= k/\k <= 13/\sgF (sgs.drop k.toNat) (s.b.drop i.toNat)=sg (s.b.drop i.toNat)) (λ(k:Int)=>(13 - k).toNat) ⟨zIl _,by omega,rfl⟩ (by omega) λL k ⟨k1,k2,k3⟩ hL=>?_)
 have er:(s.b.take ((s.b.length:Int)).toNat).drop i.toNat=s.b.drop i.toNat:=by rw [zTl (by omega)]
 refine T.br (λh2=>?_) λh2=>T.some ?_
 rotate_left
 ·have h2:¬ k < 13:=zOF h2
  have:k=13:=by omega
  subst this
  rw [<- k3];rfl
 have h2:=zOT h2
 refine T.get k1 h2 λy hy=>?_
 have hs:=zuL hy
 rw [hs] at k3
 unfold sgF at k3
 rw [er]
 refine T.jp (λb=>b=isPre y.b (s.b.drop i.toNat)) (λJ h=>T.br (λh3=>?_) λh3=>h _ ?_) λb hb=>?_
 ·have h3:=zOT h3
  refine T.asd ⟨zIl _,by omega,h3⟩ (T.get k1 h2 λy2 hy2=>h _ ?_)
  rw [hy] at hy2;cases hy2
  have h4:y.b.length <= (s.b.drop i.toNat).length:=by simp only [zLd] at h3 ⊢;omega
  rw [Bool.eq_iff_iff,decide_eq_true_eq,zkp]
  constructor
  ·intro h5
   refine ⟨h4,?_⟩
   have:=congrArg Str.b h5
   simpa using this
  ·intro h5
   obtain ⟨yb⟩:=y
   simp only [Str.mk.injEq]
   simpa using h5.2
 ·have h3:=zOF h3
  symm
  rw [Bool.eq_false_iff]
  intro h5
  have:=(zkp _ _).1 h5
  simp only [zLd] at h3 this
  omega
 ·rw [hb]
  refine T.br (λh3=>T.some ?_) λh3=>T.ck (by have h2:k < 13:=h2;omega) (hL _ ⟨by omega,by have h2:k < 13:=h2;omega,?_⟩ (by have h2:k < 13:=h2;omega))
  ·rw [h3,zCt] at k3;rw [<- k3]
  ·rw [h3,zCf] at k3
   have e:(k + 1).toNat=k.toNat + 1:=by omega
   rw [e,k3]

/-! ### Words -/
def wordsL:List Str:=[(Str.mk [68,69,70,73,78,73,84,73,79,78,83]),(Str.mk [69,88,80,76,73,67,73,84]),(Str.mk [73,77,80,76,73,67,73,84]),(Str.mk [65,85,84,79,77,65,84,73,67]),(Str.mk [84,65,71,83]),(Str.mk [66,69,71,73,78]),(Str.mk [69,78,68]),(Str.mk [66,79,79,76,69,65,78]),(Str.mk [73,78,84,69,71,69,82]),(Str.mk [69,78,85,77,69,82,65,84,69,68]),(Str.mk [78,85,76,76]),(Str.mk [79,67,84,69,84]),(Str.mk [83,84,82,73,78,71]),(Str.mk [85,84,70,56,83,116,114,105,110,103]),(Str.mk [83,69,81,85,69,78,67,69]),(Str.mk [83,69,84]),(Str.mk [67,72,79,73,67,69]),(Str.mk [79,70]),(Str.mk [79,80,84,73,79,78,65,76]),(Str.mk [68,69,70,65,85,76,84]),(Str.mk [83,73,90,69]),(Str.mk [77,73,78]),(Str.mk [77,65,88]),(Str.mk [84,82,85,69]),(Str.mk [70,65,76,83,69])]
def sameB:List UInt8->List UInt8->Bool
 | [],[]=>true
 | a :: r,b :: t=>bif decide (a=b) then sameB r t else false
 | _,_=>false
theorem zl3:∀ a b:List UInt8,sameB a b=true ↔ a=b
 | [],[]=>by simp [sameB]
 | [],_ :: _=>by simp [sameB]
 | _ :: _,[]=>by simp [sameB]
 | a :: r,b :: t=>by
  have ih:=zl3 r t
  unfold sameB
  by_cases h:a=b
  ·subst h;simp [ih]
  ·simp [h]
def isWord (t:List UInt8):Bool:=wordsL.any λw=>sameB w.b t
theorem zuW (s:Str):zho s=some (isWord s.b):=by
 refine tx ?_
 unfold zho
 refine T.eq (y:=wordsL) rfl (T.cal (zhY wordsL s (by decide)) λy _ hy=>T.some ?_)
 rw [hy,Bool.eq_iff_iff,decide_eq_true_eq]
 unfold isWord
 rw [List.any_eq_true]
 constructor
 ·intro h;exact ⟨s,h,(zl3 _ _).2 rfl⟩
 ·rintro ⟨w,h1,h2⟩
  have:=(zl3 _ _).1 h2
  obtain ⟨wb⟩:=w;obtain ⟨sb⟩:=s
  simp only at this;subst this;exact h1

/-! ### One sign, all signs -/
/-- The kind and the text of what comes first, and what is left behind it. -/
def oneS (b:List UInt8):Option (Int × List UInt8 × List UInt8) :=
 let c:=hd b
 bif zcm c then bif nmBad b then none else some (bif isWord (b.take (nm b)) then 5 else bif decide (c <= 90) then 1 else 2,b.take (nm b),b.drop (nm b))
 else bif isDigit c || (decide (c=45) && isDigit (hd (b.drop 1))) then match numLen b with
  | none=>none
  | some n=>some (3,b.take n,b.drop n)
 else bif decide (c=39) then bif hexBad (b.drop 1) then none else some (4,(b.drop 1).take (hx (b.drop 1)),(b.drop 1).drop (hx (b.drop 1) + 2))
 else bif decide (c=34) then match qd false (b.drop 1) [] with
  | none=>none
  | some (t,r)=>some (7,t,r)
 else bif decide (0 < sg b) then some (6,b.take (sg b),b.drop (sg b)) else none
theorem zo3:∀ (b:List UInt8) (f:Bool) (acc t r:List UInt8),qd f b acc=some (t,r)->r.length < b.length
 | [],f,acc,t,r,h=>by cases f <;> simp [qd] at h
 | c :: b,true,acc,t,r,h=>by
  simp only [qd] at h
  have:=zo3 b _ _ _ _ h
  simp;omega
 | c :: b,false,acc,t,r,h=>by
  simp only [qd] at h
  by_cases h1:c=34
  ·simp only [zDT h1,zCt] at h
   by_cases h2:hd b=34
   ·simp only [zDT h2,zCt] at h
    have:=zo3 b _ _ _ _ h
    simp;omega
   ·simp only [zDF h2,zCf] at h
    cases hv:Lib.validD acc with
    | true=>rw [hv] at h;simp at h;rw [<- h.2];simp
    | false=>rw [hv] at h;cases h
  ·simp only [zDF h1,zCf] at h
   have:=zo3 b _ _ _ _ h
   simp;omega
theorem zoB {b:List UInt8} {n:Nat} (h:numLen b=some n):0 < n/\n <= b.length:=by
 unfold numLen at h
 by_cases h1:hd b=45
 ·simp only [zDT h1,zCt] at h
  cases hb:numBad true (b.drop 1) with
  | true=>rw [hb] at h;cases h
  | false =>
   rw [hb] at h;simp only [zCf,Option.some.injEq] at h
   have:=zt6 (b.drop 1)
   rw [zLd] at this
   have:b ≠ []:=λe=>by rw [e] at h1;cases h1
   have:=List.length_pos_iff.2 this
   omega
 ·simp only [zDF h1,zCf] at h
  cases hb:numBad false b with
  | true=>rw [hb] at h;cases h
  | false =>
   rw [hb] at h;simp at h
   have:=zt6 b
   have:decide (dg b < 1)=false:=by
    unfold numBad at hb
    simp only [Bool.or_eq_false_iff] at hb
    exact hb.1.1.1.1.1.1
   have:=zOF this
   omega
theorem zvU {b:List UInt8} (h:zcm (hd b)=true):0 < nm b:=by
 cases b with
 | nil=>simp [hd,zcm] at h
 | cons c r =>
  rw [zmL]
  simp only [hd] at h
  unfold inName
  rw [h];simp
theorem ztO:∀ (l:List (List UInt8)) (b:List UInt8),sgF l b <= b.length
 | [],b=>zNz _
 | p :: ps,b=>by
  unfold sgF
  cases h:isPre p b with
  | true=>exact ((zkp _ _).1 h).1
  | false=>exact ztO ps b
theorem ztK {b t r:List UInt8} {k:Int} (h:oneS b=some (k,t,r)):r.length < b.length:=by
 unfold oneS at h
 simp only at h
 cases h1:zcm (hd b) with
 | true =>
  rw [h1,zCt] at h
  cases h2:nmBad b with
  | true=>rw [h2] at h;cases h
  | false =>
   rw [h2] at h
   simp only [zCf,Option.some.injEq,Prod.mk.injEq] at h
   rw [<- h.2.2,zLd]
   have:=zvU h1
   have:=zpR b
   omega
 | false =>
  rw [h1,zCf] at h
  cases h2:isDigit (hd b) || (decide (hd b=45) && isDigit (hd (b.drop 1))) with
  | true =>
   rw [h2,zCt] at h
   cases h3:numLen b with
   | none=>rw [h3] at h;cases h
   | some n =>
    rw [h3] at h
    simp only [Option.some.injEq,Prod.mk.injEq] at h
    have:=zoB h3
    rw [<- h.2.2,zLd];omega
  | false =>
   rw [h2,zCf] at h
   by_cases h3:hd b=39
   ·rw [zDT h3,zCt] at h
    cases h4:hexBad (b.drop 1) with
    | true=>rw [h4] at h;cases h
    | false =>
     rw [h4] at h
     simp only [zCf,Option.some.injEq,Prod.mk.injEq] at h
     have:b ≠ []:=λe=>by rw [e] at h3;cases h3
     have:=List.length_pos_iff.2 this
     rw [<- h.2.2,zLd,zLd];omega
   ·rw [zDF h3,zCf] at h
    by_cases h4:hd b=34
    ·rw [zDT h4,zCt] at h
     cases h5:qd false (b.drop 1) [] with
     | none=>rw [h5] at h;cases h
     | some q =>
      rw [h5] at h
      obtain ⟨t',r'⟩:=q
      simp only [Option.some.injEq,Prod.mk.injEq] at h
      have:=zo3 _ _ _ _ _ h5
      rw [zLd] at this
      rw [<- h.2.2];omega
    ·rw [zDF h4,zCf] at h
     by_cases h5:0 < sg b
     ·rw [zDT h5,zCt] at h
      simp only [Option.some.injEq,Prod.mk.injEq] at h
      have:=ztO sgs b
      have e:sgF sgs b=sg b:=rfl
      rw [<- h.2.2,zLd];omega
     ·rw [zDF h5] at h;cases h
theorem zv3 (s:Str) (i:Int) (h0:0 <= i) (h1:i < s.b.length) (hl:s.b.length <= 1000000) :
    T (λ(q:GTok × Int)=>match oneS (s.b.drop i.toNat) with
      | none=>q.2 < 0
      | some (k,t,r)=>q=(⟨k,⟨t⟩,i⟩,(s.b.length:Int) - (r.length:Int))) (ziG s i):=by
  unfold ziG
  refine T.get h0 h1 λy hy=>?_
  have ed:=dropc hy
  have hy0:hd (s.b.drop i.toNat)=y:=by rw [ed];rfl
  have ed1:(s.b.drop i.toNat).drop 1=s.b.drop (i.toNat + 1):=by rw [List.drop_drop]
  have elen:(s.b.drop i.toNat).length=s.b.length - i.toNat:=zLd
  have etake:∀ (n:Nat),(s.b.take (i + (n:Int)).toNat).drop i.toNat=(s.b.drop i.toNat).take n:=λn=>by
    rw [seg];congr 1;omega
  have erest:∀ (n:Nat),n <= (s.b.drop i.toNat).length->i + (n:Int)=(s.b.length:Int) - (((s.b.drop i.toNat).drop n).length:Int):=λn hn=>by
    rw [zLd,elen];rw [elen] at hn;omega
  refine T.jp (ι:=Int × GTok) (λ(q:Int × GTok)=>match oneS (s.b.drop i.toNat) with
      | none=>q.1 < 0
      | some (k,t,r)=>(q.2,q.1)=(⟨k,⟨t⟩,i⟩,(s.b.length:Int) - (r.length:Int))) (λJ h=>?_) λq hq=>T.some hq
  unfold oneS at h ⊢
  simp only [hy0] at h ⊢
  refine T.eq (zgX y) (T.br (λhle=>?_) λhle=>T.eq (zeW y) ?_)
  · rw [hle,zCt] at h ⊢
    have hcl:zcm (hd (s.b.drop i.toNat))=true:=by rw [hy0];exact hle
    refine T.eq (zu2 s i h0 h1 hl hcl) ?_
    cases hb:nmBad (s.b.drop i.toNat) with
    | true =>
      rw [hb,zCt] at h
      simp only [zCt] at h ⊢
      exact T.br (λ_=>T.some (by dsimp only;omega)) λhn=>by have:=zOF hn;omega
    | false =>
      rw [hb,zCf] at h
      simp only [zCf] at h ⊢
      have hnl:=zpR (s.b.drop i.toNat)
      rw [elen] at hnl
      refine T.br (λhn=>by have:=zOT hn;omega) λ_=>T.asd (by omega) ?_
      rw [etake]
      refine T.jp (ι:=GTok) (λt=>t=⟨bif decide (y <= 90) then 1 else 2,⟨(s.b.drop i.toNat).take (nm (s.b.drop i.toNat))⟩,i⟩) (λJ2 h2=>T.br (λh3=>h2 _ (by rw [h3];rfl)) λh3=>h2 _ (by rw [h3];rfl)) λt ht=>?_
      subst ht
      refine T.eq (zuW _) (T.br (λh3=>h _ ?_) λh3=>h _ ?_)
      · dsimp only at h3 ⊢;rw [h3,<- erest _ (zpR _)];rfl
      · dsimp only at h3 ⊢;rw [h3,<- erest _ (zpR _)];rfl
  · rw [hle, zCf] at h ⊢
    refine T.jp (λb=>b=(isDigit y || (decide (y=45) && isDigit (hd ((s.b.drop i.toNat).drop 1))))) (λJ2 h2=>T.br (λh3=>h2 _ (by rw [h3];rfl)) λh3=>?_) λb hb=>?_
    · refine T.jp (λb=>b=(decide (y=45) && isDigit (hd ((s.b.drop i.toNat).drop 1)))) (λJ3 h4=>T.br (λh5=>T.ck (by omega) (T.eq (zmC s (i + 1) (by omega)) (T.eq (zeW _) (h4 _ ?_)))) λh5=>h4 _ (by rw [h5];rfl)) λb hb=>h2 _ (by rw [h3,hb];rfl)
      rw [h5,ed1,show (i + 1).toNat=i.toNat + 1 by omega];rfl
    rw [<- hb] at h ⊢
    refine T.br (λh3=>T.eq (zsJ s i h0 h1 hl) ?_) λh3=>?_
    · rw [h3,zCt] at h ⊢
      cases hn:numLen (s.b.drop i.toNat) with
      | none =>
        simp only [hn] at h ⊢
        exact T.br (λ_=>T.some (by dsimp only;omega)) λhn=>by have:=zOF hn;omega
      | some n =>
        simp only [hn] at h ⊢
        have hbd:=zoB hn
        have hbd2:=hbd.2
        rw [elen] at hbd2
        refine T.br (λhn=>by have:=zOT hn;omega) λ_=>T.asd (by omega) (h _ ?_)
        rw [etake,<- erest n hbd.2]
    · rw [h3,zCf] at h ⊢
      refine T.br (λh4=>T.eq (zvM s i h0 h1 hl) (h _ ?_)) λh4=>?_
      · rw [h4,zCt,ed1]
        cases hb:hexBad (s.b.drop (i.toNat + 1)) with
        | true=>simp only [zCt];omega
        | false =>
          simp only [zCf]
          have h5:hx (s.b.drop (i.toNat + 1)) + 1 < (s.b.drop (i.toNat + 1)).length:=by
            unfold hexBad at hb
            have:=(Bool.or_eq_false_iff.1 hb).2
            have h72:hd ((s.b.drop (i.toNat + 1)).drop (hx (s.b.drop (i.toNat + 1)) + 1))=72:=by simpa using this
            exact zul (by rw [h72];decide)
          rw [zLd] at h5
          rw [zLd,zLd]
          have e:i + 1 + (hx (s.b.drop (i.toNat + 1)):Int) + 2=(s.b.length:Int) - ((s.b.length - (i.toNat + 1) - (hx (s.b.drop (i.toNat + 1)) + 2):Nat):Int):=by omega
          rw [e]
      · rw [h4,zCf] at h ⊢
        refine T.br (λh5=>T.eq (zsQ s i h0 h1 hl) (h _ ?_)) λh5=>?_
        · rw [h5,zCt,ed1]
          cases hq:qd false (s.b.drop (i.toNat + 1)) [] with
          | none=>simp only;omega
          | some q=>rfl
        · rw [h5,zCf] at h ⊢
          refine T.eq (zvk s i h0 h1 hl) (T.br (λh6=>?_) λh6=>h _ ?_)
          · have h6:=zOT h6
            have hsl:=ztO sgs (s.b.drop i.toNat)
            have esg:sgF sgs (s.b.drop i.toNat)=sg (s.b.drop i.toNat):=rfl
            have hpos:0 < sg (s.b.drop i.toNat):=by omega
            have hsl2:=hsl
            rw [elen] at hsl2
            refine T.ck (by omega) (T.asd (by omega) (T.ck (by omega) (h _ ?_)))
            rw [zDT hpos,zCt]
            dsimp only
            rw [etake,<- erest (sg (s.b.drop i.toNat)) hsl]
          · have h6:=zOF h6
            rw [zDF (show ¬ 0 < sg (s.b.drop i.toNat) by omega)]
            simp only [zCf];omega

def toksF (n:Nat):Nat->List UInt8->List GTok->List GTok × Int × Int
 | 0,_,_=>([],0,0)
 | f + 1,b,acc=>match wh .out b with
  | []=>(acc ++ [⟨0,⟨[]⟩,(n:Int)⟩],0,0)
  | c :: r=>match oneS (c :: r) with
   | none=>([],(n:Int) - ((c :: r).length:Int),6)
   | some (k,t,r')=>toksF n f r' (acc ++ [⟨k,⟨t⟩,(n:Int) - ((c :: r).length:Int)⟩])
theorem znu (n f:Nat) (b:List UInt8) (acc:List GTok):toksF n (f + 1) b acc=match wh .out b with
    | []=>(acc ++ [⟨0,⟨[]⟩,(n:Int)⟩],0,0)
    | c :: r=>match oneS (c :: r) with
      | none=>([],(n:Int) - ((c :: r).length:Int),6)
      | some (k,t,r')=>toksF n f r' (acc ++ [⟨k,⟨t⟩,(n:Int) - ((c :: r).length:Int)⟩]):=rfl
def toks (b:List UInt8):List GTok × Int × Int:=bif decide (8000 < b.length) then ([],0,5) else toksF b.length (b.length + 1) b []
theorem zjy:∀ (b:List UInt8) (st:Wst),(wh st b).length <= b.length
 | [],st=>by cases st <;> simp [wh]
 | c :: r,.out=>by
  have h1:=zjy r .out
  have h2:=zjy r .start
  simp only [wh]
  cases isWh c <;> simp only [zCt,zCf]
  ·cases decide (c=45) && decide (hd r=45) <;> simp only [zCt,zCf,zLc] <;> omega
  ·simp only [zLc];omega
 | c :: r,.start=>by have:=zjy r .ins;simp only [wh,zLc];omega
 | c :: r,.ins=>by
  have h1:=zjy r .out
  have h2:=zjy r .fin
  have h3:=zjy r .ins
  simp only [wh,zLc]
  cases decide (c=10) <;> simp only [zCt,zCf]
  ·cases decide (c=45) && decide (hd r=45) <;> simp only [zCt,zCf] <;> omega
  ·omega
 | c :: r,.fin=>by have:=zjy r .out;simp only [wh,zLc];omega
theorem zjB:∀ (b:List UInt8) (st:Wst),∃ n,wh st b=b.drop n
 | [],st=>⟨0,by cases st <;> simp [wh]⟩
 | c :: r,.out=>by
  obtain ⟨n1,h1⟩:=zjB r .out
  obtain ⟨n2,h2⟩:=zjB r .start
  simp only [wh]
  cases isWh c <;> simp only [zCt,zCf]
  ·cases decide (c=45) && decide (hd r=45) <;> simp only [zCt,zCf]
   ·exact ⟨0,rfl⟩
   ·exact ⟨n2 + 1,h2⟩
  ·exact ⟨n1 + 1,h1⟩
 | c :: r,.start=>by obtain ⟨n,h⟩:=zjB r .ins;exact ⟨n + 1,h⟩
 | c :: r,.ins=>by
  obtain ⟨n1,h1⟩:=zjB r .out
  obtain ⟨n2,h2⟩:=zjB r .fin
  obtain ⟨n3,h3⟩:=zjB r .ins
  simp only [wh]
  cases decide (c=10) <;> simp only [zCt,zCf]
  ·cases decide (c=45) && decide (hd r=45) <;> simp only [zCt,zCf]
   ·exact ⟨n3 + 1,h3⟩
   ·exact ⟨n2 + 1,h2⟩
  ·exact ⟨n1 + 1,h1⟩
 | c :: r,.fin=>by obtain ⟨n,h⟩:=zjB r .out;exact ⟨n + 1,h⟩
theorem zoM:∀ (b:List UInt8) (f:Bool) (acc t r:List UInt8),qd f b acc=some (t,r)->∃ n,r=b.drop n
 | [],f,acc,t,r,h=>by cases f <;> simp [qd] at h
 | c :: b,true,acc,t,r,h=>by
  simp only [qd] at h
  obtain ⟨n,e⟩:=zoM b _ _ _ _ h
  exact ⟨n + 1,e⟩
 | c :: b,false,acc,t,r,h=>by
  simp only [qd] at h
  by_cases h1:c=34
  ·simp only [zDT h1,zCt] at h
   by_cases h2:hd b=34
   ·simp only [zDT h2,zCt] at h
    obtain ⟨n,e⟩:=zoM b _ _ _ _ h
    exact ⟨n + 1,e⟩
   ·simp only [zDF h2,zCf] at h
    cases hv:Lib.validD acc with
    | true=>rw [hv] at h;simp at h;exact ⟨1,h.2.symm⟩
    | false=>rw [hv] at h;cases h
  ·simp only [zDF h1,zCf] at h
   obtain ⟨n,e⟩:=zoM b _ _ _ _ h
   exact ⟨n + 1,e⟩
theorem zuf {b t r:List UInt8} {k:Int} (h:oneS b=some (k,t,r)):∃ n,r=b.drop n:=by
 unfold oneS at h
 simp only at h
 cases h1:zcm (hd b) with
 | true =>
  rw [h1,zCt] at h
  cases h2:nmBad b with
  | true=>rw [h2] at h;cases h
  | false =>
   rw [h2] at h
   simp only [zCf,Option.some.injEq,Prod.mk.injEq] at h
   exact ⟨_,h.2.2.symm⟩
 | false =>
  rw [h1,zCf] at h
  cases h2:isDigit (hd b) || (decide (hd b=45) && isDigit (hd (b.drop 1))) with
  | true =>
   rw [h2,zCt] at h
   cases h3:numLen b with
   | none=>rw [h3] at h;cases h
   | some n =>
    rw [h3] at h
    simp only [Option.some.injEq,Prod.mk.injEq] at h
    exact ⟨_,h.2.2.symm⟩
  | false =>
   rw [h2,zCf] at h
   by_cases h3:hd b=39
   ·rw [zDT h3,zCt] at h
    cases h4:hexBad (b.drop 1) with
    | true=>rw [h4] at h;cases h
    | false =>
     rw [h4] at h
     simp only [zCf,Option.some.injEq,Prod.mk.injEq,List.drop_drop] at h
     exact ⟨_,h.2.2.symm⟩
   ·rw [zDF h3,zCf] at h
    by_cases h4:hd b=34
    ·rw [zDT h4,zCt] at h
     cases h5:qd false (b.drop 1) [] with
     | none=>rw [h5] at h;cases h
     | some q =>
      rw [h5] at h
      obtain ⟨t',r'⟩:=q
      simp only [Option.some.injEq,Prod.mk.injEq] at h
      obtain ⟨n,e⟩:=zoM _ _ _ _ _ h5
      rw [List.drop_drop] at e
      exact ⟨_,h.2.2.symm.trans e⟩
    ·rw [zDF h4,zCf] at h
     by_cases h5:0 < sg b
     ·rw [zDT h5,zCt] at h
      simp only [Option.some.injEq,Prod.mk.injEq] at h
      exact ⟨_,h.2.2.symm⟩
     ·rw [zDF h5] at h;cases h
theorem zpY {b r:List UInt8} {n:Nat} (h:r=b.drop n):b.drop (b.length - r.length)=r:=by
 subst h
 rw [zLd]
 rcases Nat.lt_or_ge b.length n with h2 | h2
 ·rw [zDn (show b.length <= n by omega),zDn (by omega)]
 ·congr 1;omega

theorem zod (s:Str):zev s=some (toks s.b):=by
 refine tx ?_
 unfold zev toks
 refine T.br (λh=>T.some ?_) λh=>?_
 ·have h:=zOT h
  rw [zDT (show 8000 < s.b.length by omega)];rfl
 have hl:=zOF h
 rw [zDF (show ¬ 8000 < s.b.length by omega),zCf]
 refine T.lp (ι:=List GTok × Int) (λ(q:List GTok × Int)=>0 <= q.2/\q.2 <= (s.b.length:Int)/\(q.1.length:Int) <= q.2/\∃ f,(s.b.drop q.2.toNat).length < f/\toksF s.b.length (s.b.length + 1) s.b []=toksF s.b.length f (s.b.drop q.2.toNat) q.1) (λ(q:List GTok × Int)=>((s.b.length:Int) - q.2).toNat) ⟨zIl _,by dsimp only;omega,by simp,s.b.length + 1,by simp,rfl⟩ (by dsimp only;omega) λL q hq hL=>?_
 obtain ⟨l,k⟩:=q
 obtain ⟨h1,h2,h3,f,h4,h5⟩:=hq
 simp only at h1 h2 h3 h4 h5 ⊢
 rw [h5] at hL ⊢
 cases f with
 | zero=>omega
 | succ f =>
  have hwl:=zjy (s.b.drop k.toNat) .out
  rw [zLd] at hwl h4
  obtain ⟨nw,hw⟩:=zjB (s.b.drop k.toNat) .out
  rw [List.drop_drop] at hw
  have hsw:=zpY hw
  refine T.eq (zuu s k h1 h2 (by omega)) ?_
  rw [znu] at hL ⊢
  cases hwh:wh .out (s.b.drop k.toNat) with
  | nil =>
   simp only [hwh] at hL ⊢
   refine T.br (λ_=>T.abl (by simp only [zLc,zLn];omega) (T.some rfl)) λh6=>?_
   have:=zOF h6
   simp at this
  | cons c r =>
   simp only [hwh] at hL ⊢ 
   rw [hwh] at hwl hsw
   have hcl:0 < (c :: r).length:=by simp
   refine T.br (λh6=>by have:=zOT h6;omega) λ_=>?_
   have hi:((s.b.length:Int) - ((c :: r).length:Int)).toNat=s.b.length - (c :: r).length:=by omega
   refine T.cal (zv3 s ((s.b.length:Int) - ((c :: r).length:Int)) (by omega) (by omega) (by omega)) λq _ hq=>?_
   rw [hi,hsw] at hq
   cases ho:oneS (c :: r) with
   | none =>
    rw [ho] at hq
    simp only [ho] at hL ⊢
    simp only at hq
    exact T.br (λ_=>T.some rfl) λh7=>by have:=zOF h7;omega
   | some p =>
    obtain ⟨kd,t,r'⟩:=p
    rw [ho] at hq
    simp only [ho] at hL ⊢
    simp only at hq
    subst hq
    have hol:=ztK ho
    obtain ⟨no,hso⟩:=zuf ho
    have hso2:r'=s.b.drop (s.b.length - (c :: r).length + no):=by rw [hso,<- List.drop_drop,hsw]
    have hsd:=zpY hso2
    refine T.br (λh7=>by have:=zOT h7;dsimp only at this;omega) λ_=>T.abl (by simp only [zLc,zLn];omega) (hL _ ⟨by dsimp only;omega,by dsimp only;omega,?_,f,?_,?_⟩ (by dsimp only;omega))
    ·dsimp only;rw [zLa,zLs];omega
    ·dsimp only
     rw [show ((s.b.length:Int) - (r'.length:Int)).toNat=s.b.length - r'.length by omega,hsd]
     omega
    ·dsimp only
     rw [show ((s.b.length:Int) - (r'.length:Int)).toNat=s.b.length - r'.length by omega,hsd]
end Go.Proofs.Q


namespace Go.Proofs.Q
open Go.Sy
set_option linter.unusedVariables false

theorem zvK {w x:List UInt8}:hd (w ++ x)=hd (w ++ [hd x]):=by
 cases w with
 | nil=>rfl
 | cons c w=>rfl

/-! ### Names -/
def nmAll:List UInt8->UInt8->Bool
 | [],_=>true
 | c :: w,d=>inName c (w ++ [d]) && nmAll w d
theorem zog {c:UInt8} {r s:List UInt8} (h:hd r=hd s):inName c r=inName c s:=by unfold inName;rw [h]
def kindN (w:List UInt8):Int:=bif isWord w then 5 else bif decide (hd w <= 90) then 1 else 2
def esc:List UInt8->List UInt8
 | []=>[]
 | c :: s=>if c=34 then 34 :: 34 :: esc s else c :: esc s
end Go.Proofs.Q


namespace Go.Proofs.Q
open Go.Sy
set_option linter.unusedVariables false

/-! ### Leaves -/
theorem ztC (p:GNpr) (l:List Str) (hl:l.length <= 1000) (hb:p.b.length + (l.map λs=>s.b.length).sum <= 68000000000):zat p l=some ⟨p.t,p.b ++ (l.map λs=>s.b).flatten⟩:=by
 refine T.eqs ?_
 unfold zat
 refine T.lp (ι:=Int × GNpr) (λq=>0 <= q.1/\q.1 <= (l.length:Int)/\q.2.t=p.t/\q.2.b ++ ((l.drop q.1.toNat).map λs=>s.b).flatten=p.b ++ (l.map λs=>s.b).flatten/\q.2.b.length + ((l.drop q.1.toNat).map λs=>s.b.length).sum <= 68000000000) (λq=>((l.length:Int) - q.1).toNat) ⟨zIl _,by dsimp only;omega,rfl,rfl,hb⟩ (by dsimp only;omega) λJ q ⟨q0,q1,q2,q3,q4⟩ hJ=>?_
 obtain ⟨k,g⟩:=q
 dsimp only at q0 q1 q2 q3 q4 hJ ⊢
 refine T.br (λhk=>?_) λhk=>T.some ?_
 ·have hk:=zOT hk
  refine T.get q0 hk λy hy=>?_
  have hd:l.drop k.toNat=y :: l.drop (k.toNat + 1):=by
   obtain ⟨h1,h2⟩:=List.getElem?_eq_some_iff.1 hy
   rw [List.drop_eq_getElem_cons h1,h2]
  rw [hd] at q3 q4
  rw [List.map_cons,List.sum_cons] at q4
  rw [List.map_cons,List.flatten_cons] at q3
  have ek:(k + 1).toNat=k.toNat + 1:=by omega
  refine T.abl (by omega) (T.ck (by omega) (hJ _ ⟨by dsimp only;omega,by dsimp only;omega,q2,?_,?_⟩ (by dsimp only;omega)))
  ·dsimp only;rw [ek,zLA];exact q3
  ·dsimp only;rw [ek,zLa];omega
 ·have hk:=zOF hk
  rw [zDn (by omega)] at q3
  simp only [List.map_nil,List.flatten_nil,List.append_nil] at q3
  obtain ⟨gt,gb⟩:=g
  dsimp only at q2 q3
  rw [q2,q3]
theorem put1 (p:GNpr) (s:Str) (h:p.b.length + s.b.length <= 68000000000):zat p [s]=some ⟨p.t,p.b ++ s.b⟩:=by
 rw [ztC p [s] (by simp) (by simpa using h)];simp
theorem put2 (p:GNpr) (s u:Str) (h:p.b.length + s.b.length + u.b.length <= 68000000000):zat p [s,u]=some ⟨p.t,p.b ++ (s.b ++ u.b)⟩:=by
 rw [ztC p [s,u] (by simp) (by simp only [List.map_cons,List.map_nil,List.sum_cons,List.sum_nil];omega)];simp
def hiD (c:UInt8):UInt8:=([48,49,50,51,52,53,54,55,56,57,65,66,67,68,69,70]:List UInt8).getD (c.toNat / 16) 0
def loD (c:UInt8):UInt8:=([48,49,50,51,52,53,54,55,56,57,65,66,67,68,69,70]:List UInt8).getD (c.toNat % 16) 0
def hexE (b:List UInt8):List UInt8:=(b.map λc=>[hiD c,loD c]).flatten
theorem zuv:∀ X:Fin 256,getI ([48,49,50,51,52,53,54,55,56,57,65,66,67,68,69,70]:List UInt8) ((shr8 (UInt8.ofNat X.val) (4:UInt64).toNat).toNat:Int)=some (hiD (UInt8.ofNat X.val))/\getI ([48,49,50,51,52,53,54,55,56,57,65,66,67,68,69,70]:List UInt8) ((UInt8.ofNat X.val &&& (15:UInt8)).toNat:Int)=some (loD (UInt8.ofNat X.val)):=by decide +kernel
theorem hexD (c:UInt8):getI ([48,49,50,51,52,53,54,55,56,57,65,66,67,68,69,70]:List UInt8) ((shr8 c (4:UInt64).toNat).toNat:Int)=some (hiD c)/\getI ([48,49,50,51,52,53,54,55,56,57,65,66,67,68,69,70]:List UInt8) ((c &&& (15:UInt8)).toNat:Int)=some (loD c):=by
 have:=zuv ⟨c.toNat,c.toNat_lt⟩
 simp only [UInt8.ofNat_toNat] at this
 exact this
theorem zmZ (b:List UInt8):(hexE b).length=2 * b.length:=by
 unfold hexE
 induction b with
 | nil=>rfl
 | cons c b ih=>rw [List.map_cons,List.flatten_cons,zLa,ih,zLc];simp;omega
theorem zsL (c:UInt8) (b:List UInt8):hexE (c :: b)=hiD c :: loD c :: hexE b:=rfl
theorem zvg (b:List UInt8) (hb:b.length <= 1000000):zis b=some ⟨39 :: (hexE b ++ [39,72])⟩:=by
 refine T.eqs ?_
 unfold zis
 refine T.lp (ι:=List UInt8 × Int) (λq=>0 <= q.2/\q.2 <= (b.length:Int)/\q.1.length <= 1 + 2 * q.2.toNat/\q.1 ++ hexE (b.drop q.2.toNat)=39 :: hexE b) (λq=>((b.length:Int) - q.2).toNat) ⟨zIl _,by dsimp only;omega,zNl _,rfl⟩ (by dsimp only;omega) λJ q ⟨q0,q1,q2,q3⟩ hJ=>?_
 obtain ⟨acc,k⟩:=q
 dsimp only at q0 q1 q2 q3 hJ ⊢
 refine T.br (λhk=>?_) λhk=>?_
 ·have hk:=zOT hk
  refine T.get q0 hk λy hy=>?_
  have hd:b.drop k.toNat=y :: b.drop (k.toNat + 1):=by
   obtain ⟨h1,h2⟩:=List.getElem?_eq_some_iff.1 hy
   rw [List.drop_eq_getElem_cons h1,h2]
  have ek:(k + 1).toNat=k.toNat + 1:=by omega
  refine T.asr rfl (T.eq (hexD y).1 (T.eq (hexD y).2 (T.abl (by simp only [zLc,zLn];omega) (T.ck (by omega) (hJ _ ⟨by dsimp only;omega,by dsimp only;omega,?_,?_⟩ (by dsimp only;omega))))))
  ·simp only [zLa,zLc,zLn];omega
  ·dsimp only
   rw [ek,<- q3,hd,zsL,zLA];rfl
 ·have hk:=zOF hk
  rw [zDn (by omega)] at q3
  have q3:acc=39 :: hexE b:=by simpa [hexE] using q3
  refine T.abl (by simp only [zLc,zLn];omega) (T.some ?_)
  rw [q3];rfl
theorem zle:∀ (k u:Nat),u < 10 ^ (k + 1)->(Lib.decDigits u).length <= k + 1
 | 0,u,h=>by rw [Lib.decDigits_one (by simpa using h)];exact zNl _
 | k + 1,u,h=>by
  by_cases h1:u < 10
  ·rw [Lib.decDigits_one h1];simp
  ·rw [Lib.decDigits,dif_neg h1,zLa,zLs]
   rw [Nat.pow_succ] at h
   have:=zle k (u / 10) (by omega)
   omega
theorem zqy {n:Int} (h0:-9223372036854775808 <= n) (h1:n <= 9223372036854775807):(Lib.itoa n).length <= 20:=by
 unfold Lib.itoa
 split
 ·have:=zle 18 n.natAbs (by have h9:(10:Nat) ^ (18 + 1)=10000000000000000000:=(by decide);omega)
  rw [zLc];omega
 ·have:=zle 18 n.toNat (by have h9:(10:Nat) ^ (18 + 1)=10000000000000000000:=(by decide);omega)
  omega
theorem zvN {n:Int} (h0:-9223372036854775808 <= n) (h1:n <= 9223372036854775807):zdA n 10=some ⟨Lib.itoa n⟩:=by
 unfold zdA
 rw [zDT rfl,Nat.ble_eq_true_of_le (Nat.le_trans (zqy h0 h1) (by decide))];rfl
theorem zrD (s:List UInt8):Lib.index (34 :: s) [34]=0:=by
 unfold Lib.index
 rw [if_pos]
 simp [List.isPrefixOf]
theorem zqp {c:UInt8} (hc:c ≠ 34) (s:List UInt8):Lib.index (c :: s) [34]=if Lib.index s [34] == -1 then -1 else Lib.index s [34] + 1:=by
 show (if List.isPrefixOf [34] (c :: s) then 0 else _)=_
 rw [if_neg]
 have:((34:UInt8) == c)=false:=by simpa using λe=>hc e.symm
 simp [List.isPrefixOf,this]
theorem zsT {c:UInt8} (hc:c ≠ 34) (nw:List UInt8):∀ (k:Nat) (s:List UInt8),Lib.replaceK [34] nw k (c :: s)=c :: Lib.replaceK [34] nw k s
 | 0,s=>rfl
 | k + 1,s=>by
  rw [Lib.replaceK,Lib.replaceK,zqp hc]
  have hge:=Lib.index_ge s [34]
  by_cases h:Lib.index s [34]=-1
  ·rw [h];rfl
  ·have h1:(Lib.index s [34] == -1)=false:=by simpa using h
   have h2:(Lib.index s [34] + 1 == -1)=false:=by
    have:Lib.index s [34] + 1 ≠ -1:=by omega
    simpa using this
   rw [h1]
   simp only [Bool.false_eq_true,if_false]
   rw [h2]
   simp only [Bool.false_eq_true,if_false]
   have e:(Lib.index s [34] + 1).toNat=(Lib.index s [34]).toNat + 1:=by omega
   rw [e,List.take_succ_cons,show (Lib.index s [34]).toNat + 1 + [(34:UInt8)].length=((Lib.index s [34]).toNat + [(34:UInt8)].length) + 1 from rfl,List.drop_succ_cons]
   rfl
theorem zsK {c:UInt8} (hc:c ≠ 34):∀ (f:Nat) (s:List UInt8),Lib.countFrom [34] f (c :: s)=Lib.countFrom [34] f s
 | 0,s=>rfl
 | f + 1,s=>by
  rw [Lib.countFrom,Lib.countFrom,zqp hc]
  have hge:=Lib.index_ge s [34]
  by_cases h:Lib.index s [34]=-1
  ·rw [h];rfl
  ·have h1:(Lib.index s [34] == -1)=false:=by simpa using h
   have h2:(Lib.index s [34] + 1 == -1)=false:=by
    have:Lib.index s [34] + 1 ≠ -1:=by omega
    simpa using this
   rw [h1]
   simp only [Bool.false_eq_true,if_false]
   rw [h2]
   simp only [Bool.false_eq_true,if_false]
   have e:(Lib.index s [34] + 1).toNat=(Lib.index s [34]).toNat + 1:=by omega
   rw [e,show (Lib.index s [34]).toNat + 1 + [(34:UInt8)].length=((Lib.index s [34]).toNat + [(34:UInt8)].length) + 1 from rfl,List.drop_succ_cons]
theorem zpo:∀ (s:List UInt8) (f:Nat),s.length < f->Lib.replaceK [34] [34,34] (Lib.countFrom [34] f s) s=esc s/\Lib.countFrom [34] f s <= s.length
 | [],f,hf=>by
  obtain ⟨f,rfl⟩:∃ g,f=g + 1:=⟨f - 1,by omega⟩
  exact ⟨rfl,zNl _⟩
 | c :: s,f,hf=>by
  obtain ⟨f,rfl⟩:∃ g,f=g + 1:=⟨f - 1,by omega⟩
  rw [zLc] at hf ⊢
  by_cases hc:c=34
  ·subst hc
   obtain ⟨h1,h2⟩:=zpo s f (by omega)
   have e:Lib.countFrom [34] (f + 1) (34 :: s)=Lib.countFrom [34] f s + 1:=by
    rw [Lib.countFrom,zrD]
    show 1 + Lib.countFrom [34] f s=_
    omega
   rw [e]
   refine ⟨?_,by omega⟩
   rw [Lib.replaceK,zrD]
   show [] ++ [34,34] ++ Lib.replaceK [34] [34,34] (Lib.countFrom [34] f s) s=esc (34 :: s)
   rw [h1];rfl
  ·obtain ⟨h1,h2⟩:=zpo s (f + 1) (by omega)
   rw [zsK hc,zsT hc,h1]
   exact ⟨by show _=if c=34 then _ else _;rw [if_neg hc],by omega⟩
theorem zjZ:∀ a:List UInt8,(esc a).length <= 2 * a.length
 | []=>zNl _
 | c :: s=>by
  have:=zjZ s
  show (if c=34 then 34 :: 34 :: esc s else c :: esc s).length <= _
  split <;> simp only [zLc] <;> omega
theorem zvj (b:List UInt8) (hb:b.length <= 1000000):strings_ReplaceAll ⟨b⟩ ⟨[34]⟩ ⟨[34,34]⟩=some ⟨esc b⟩:=by
 obtain ⟨h1,h2⟩:=zpo b (b.length + 1) (by omega)
 have e:Lib.replaceAll b [34] [34,34]=esc b:=by
  unfold Lib.replaceAll Lib.replace
  rw [if_neg (by decide)]
  unfold Lib.replaceNum
  rw [if_pos (.inl (by decide))]
  exact h1
 have hl:=zjZ b
 unfold strings_ReplaceAll
 have hc:Lib.count b [34] <= b.length:=h2
 rw [e,Nat.ble_eq_true_of_le hb,Nat.ble_eq_true_of_le (show (1:Nat) <= ([34]:List UInt8).length from zNl _),Nat.ble_eq_true_of_le (show b.length + Lib.count b [34] * ([34,34]:List UInt8).length <= 140737488355328 by simp only [zLc,zLn];omega),Nat.ble_eq_true_of_le (show (esc b).length <= 4294967296 by omega)]
 rfl
def leafT (v:Val):List UInt8 :=
 if v.kind=1 then (if v.n=0 then [70,65,76,83,69] else [84,82,85,69])
 else if v.kind=4 then [78,85,76,76]
 else if v.kind=2 then Lib.itoa v.n
 else if v.kind=5 then 39 :: (hexE v.b ++ [39,72])
 else if v.kind=6 then 34 :: (esc v.b ++ [34])
 else []
theorem zjn {v:Val} (h0:-9223372036854775808 <= v.n) (h1:v.n <= 9223372036854775807) (hb:v.b.length <= 70000):(leafT v).length + 200 <= 150000:=by
 have:=zqy h0 h1
 have:=zmZ v.b
 have:=zjZ v.b
 unfold leafT
 split
 ·split <;> decide
 ·split
  ·decide
  ·split
   ·omega
   ·split
    ·rw [zLc,zLa];simp only [zLc,zLn];omega
    ·split
     ·rw [zLc,zLa];simp only [zLc,zLn];omega
     ·decide
theorem zuX {v:Val} (h0:-9223372036854775808 <= v.n) (h1:v.n <= 9223372036854775807) (hb:v.b.length <= 70000) (hk:v.kind ≠ 3):zfl v=some ⟨leafT v⟩:=by
 have hel:=zjZ v.b
 refine T.eqs ?_
 unfold zfl leafT
 refine T.br (λh=>?_) λh=>?_
 ·rw [if_pos (zOT h)]
  refine T.br (λh=>?_) λh=>?_
  ·rw [if_neg (show ¬ v.n=0 by simpa using h)];exact T.some rfl
  ·rw [if_pos (show v.n=0 by simpa using h)];exact T.some rfl
 rw [if_neg (zOF h)]
 refine T.br (λh=>?_) λh=>?_
 ·rw [if_pos (zOT h)];exact T.some rfl
 rw [if_neg (zOF h)]
 refine T.br (λh=>?_) λh=>?_
 ·rw [if_pos (zOT h)];exact T.eq (zvN h0 h1) (T.some rfl)
 rw [if_neg (zOF h)]
 refine T.br (λh=>absurd (zOT h) hk) λ_=>T.br (λh=>?_) λh=>?_
 ·rw [if_pos (zOT h)];exact T.eq (zvg v.b (by omega)) (T.some rfl)
 rw [if_neg (zOF h)]
 refine T.br (λh=>?_) λh=>?_
 ·rw [if_pos (zOT h)]
  refine T.eq (zvj v.b (by omega)) (T.abl ?_ (T.abl ?_ (T.some rfl)))
  ·simp only [zLc,zLn];omega
  ·simp only [zLa,zLc,zLn];omega
 rw [if_neg (zOF h)]
 exact T.some rfl
end Go.Proofs.Q


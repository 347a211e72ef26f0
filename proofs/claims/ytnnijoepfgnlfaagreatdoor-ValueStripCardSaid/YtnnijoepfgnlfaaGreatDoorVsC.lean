/- ValueStrip: the law's model answers true. No condition but that no list in the value is longer than any may be. -/
import Derived.Test.YtnnijoepfgnlfaaGreatDoorVsA
import Derived.Test.YtnnijoepfgnlfaaGreatDoorVsB
import Derived.KernelRfl
set_option linter.unusedVariables false
set_option linter.unusedSimpArgs false

namespace Go.Proofs.Q
open Go.Sy
set_option linter.unusedVariables false

theorem zqE {U V N p q c:Nat} (h:U + (c + 1) ≤ V) (h2:V + p ≤ N) (hp:0 < p) (hq:q ≤ c):U + q ≤ N - 1:=by omega
theorem zq5 (c:Nat) {u v N p q:Nat} (h:u < v) (h2:v * (c + 1) + p ≤ N) (hp:0 < p) (hq:q ≤ c):u * (c + 1) + q ≤ N - 1:=by
  have h3:=Nat.mul_le_mul_right (c + 1) (Nat.succ_le_of_lt h)
  rw [Nat.succ_mul] at h3
  exact zqE h3 h2 hp hq
theorem zrQ {u v N p q:Nat} (h:u < v) (h2:v * 301 + p ≤ N) (hp:0 < p) (hq:q ≤ 300):u * 301 + q ≤ N - 1:=zq5 300 h h2 hp hq
theorem zlL {m:GMod} {rk:Int→Nat} {Fs Nd Md} {N:Nat} (E:Env m rk) (hN:N ≤ 50000) (hnd:∀ N',N' + 1=N→NodeS m rk Nd N') (hmd:MadeS m rk Md N):NodeS m rk (zc3 Fs Nd Md) N:=by
  intro x k j h a d hm hx3 hs hj hdn hN2 hd0 hd
  unfold zc3
  have hlt:=hs.lt
  obtain ⟨n,hn⟩:∃ n,m.nodes[k]?=some n:=⟨_,List.getElem?_eq_getElem (by omega)⟩
  refine T.br (fun hb=>T.some ⟨Gk.refl hx3,fun e=>absurd e (by simpa using hb)⟩) fun hb=>?_
  refine T.get (Int.natCast_nonneg _) (by rw [hm];omega) fun n' hn'=>?_
  rw [hm,Int.toNat_natCast,hn] at hn'
  cases hn'
  have hN0:1 ≤ N:=by omega
  refine T.jp (ι:=Int × GMk) (fun r=>Gk x r.2∧(r.2.e=0→r.1=(x.l.length:Int)∧SubT (17 - d).toNat r.2.l x.l.length r.2.l.length∧∃ t,r.2.l[x.l.length]?=some t∧t.tags.length ≤ N)) (fun J kk=>T.br (fun hk=>?_) fun hk=>?_) fun q ⟨q1,q2⟩=>?_
  · have hk:=zOT hk
    obtain ⟨f0,f1⟩:=hdn k n (Nat.le_refl _) hlt hn hk
    have hf2:fnd m.names n.name < m.names.length:=by
      rcases zj8 m.names n.name with h | h
      · omega
      · exact h.2.1
    obtain ⟨c,dd,c1,c2,c3,c4⟩:=E.root _ f0 (by omega)
    have hrk:=E.ed _ _ f1
    have hwn:=E.wf.nodes
    have hc:=c2.lt
    have hNN:rk (fnd m.names n.name) * 301 + (dd - c) ≤ N - 1:=zrQ hrk hN2 (Nat.sub_pos_of_lt hlt) (Nat.le_trans (Nat.sub_le _ _) (Nat.le_trans c3 hwn))
    refine T.eq (zoe x.m n.name (by rw [hm];have:=E.wf.names;omega)) (T.get (by rw [hm];exact f0) (by rw [hm,E.wf.types];omega) fun y hy=>?_)
    rw [hm,c1] at hy
    cases hy
    exact T.cal (hnd (N - 1) (by omega) x c dd 17 _ d hm hx3 c2 c3 c4 hNN hd0 hd) fun r _ ⟨r1,r2⟩=>kk _ ⟨r1,fun e=>by
      obtain ⟨e1,e2,t,e3,e4⟩:=r2 e
      exact ⟨e1,e2,t,e3,Nat.le_trans e4 (by rw [Nat.sub_add_cancel hN0];exact Nat.le_refl _)⟩⟩
  · have hk:=zOF hk
    exact T.cal (hmd x n k j h a d hm hx3 hn hk hs hj hdn hN2 hd0 hd) fun r _ ⟨r1,r2⟩=>kk _ ⟨r1,fun e=>by
      obtain ⟨e1,e2,t,e3,e4⟩:=r2 e
      exact ⟨e1,e2,t,e3,Nat.le_trans e4 hN0⟩⟩
  have hNb:N < 100000:=by omega
  refine T.jp (fun b=>b=true→q.2.e=0) (fun J kk=>T.br (fun h5=>kk _ fun _=>zOT h5) fun _=>kk _ fun h=>by cases h) fun b hb3=>?_
  refine T.jp (ι:=GMk) (fun z=>Gk x z∧(z.e=0→q.1=(x.l.length:Int)∧SubT (17 - d).toNat z.l x.l.length z.l.length∧∃ t,z.l[x.l.length]?=some t∧t.tags.length ≤ N + 1)) (fun J kk=>T.br (fun h6=>?_) fun _=>kk _ ⟨q1,fun e=>?_⟩) fun z ⟨z1,z2⟩=>T.some ⟨z1,z2⟩
  · have h6:=hb3 h6
    obtain ⟨e1,e2,t,e3,e4⟩:=q2 h6
    have hl1:=(List.getElem?_eq_some_iff.1 e3).1
    have hto:TypOk t:=by
      cases hD:(17 - d).toNat with
      | zero=>rw [hD] at e2;exact e2.elim
      | succ D' =>
        rw [hD] at e2
        obtain ⟨t3,k6,k7,_⟩:=e2
        rw [e3] at k6;cases k6;exact k7
    refine T.jp (ι:=Int × GMk) (fun p=>p.2=q.2) (fun J2 k2=>T.br (fun _=>k2 _ rfl) fun _=>T.jp (fun _=>True) (fun J3 k3=>T.br (fun _=>k3 _ trivial) fun _=>k3 _ trivial) fun b4 _=>T.br (fun _=>?_) fun _=>k2 _ rfl) fun p hp=>?_
    · rw [e1]
      exact T.cal (zlm hl1) fun s _ hs=>k2 _ hs
    · rw [hp,e1]
      refine T.cal (zlN (t:=t) _ _ (fun _=>⟨e3,Nat.le_of_lt (Nat.lt_of_le_of_lt e4 hNb)⟩)) fun z _ ⟨w1,w2,w3⟩=>kk _ ⟨⟨w1.trans q1.m,by rw [w2];exact q1.le,by rw [w2];exact q1.lim,fun ez=>q1.e (w3 ez).1,fun ez p hp=>?_⟩,fun ez=>?_⟩
      · obtain ⟨tg,k1,k2,k3⟩:=(w3 ez).2 t e3
        rw [k1,List.getElem?_set_ne (Nat.ne_of_gt hp)]
        exact q1.pre h6 p hp
      · obtain ⟨tg,k1,k2,k3⟩:=(w3 ez).2 t e3
        rw [w2,k1]
        exact ⟨e1,e2.set e3 (hto.tag k2 (Nat.le_trans k3 (Nat.succ_le_of_lt (Nat.lt_of_le_of_lt e4 hNb)))) rfl,_,List.getElem?_set_self hl1,Nat.le_trans k3 (Nat.succ_le_succ e4)⟩
  · obtain ⟨e1,e2,t,e3,e4⟩:=q2 e
    exact ⟨e1,e2,t,e3,Nat.le_succ_of_le e4⟩
structure New (n:GNode) (t:GTyp):Prop where
  kind:t.kind=n.kind
  root:t.root=n.root
  items:t.items=[]
  fields:t.fields=[]
  tags:t.kind ≠ 9→t.tags ≠ []
  tlen:t.tags.length ≤ 1
theorem New.ok {n:GNode} {t:GTyp} (h:New n t) (hn:NodeOk n) (h3:n.kind ≠ 3) (h7:n.kind ≠ 7) (h8:n.kind ≠ 8) (h9:n.kind ≠ 9) (o:Int):TypOk { t with of:=o }:=by
  have hk:=h.kind
  exact ⟨h.tags,by have:=h.tlen;show t.tags.length ≤ _;omega,by rw [h.root];exact hn.root0,fun e=>by rcases e with e | e | e <;> (rw [hk] at e;contradiction),fun e=>by rw [hk] at e;contradiction,fun _=>h.fields,fun _=>h.items,by show t.items.length ≤ _;rw [h.items];decide,fun it hit=>(by dsimp only at hit;rw [h.items] at hit;cases hit),fun f hf=>(by dsimp only at hf;rw [h.fields] at hf;cases hf),fun _ _=>(by dsimp only;rw [h.root];exact hn.rootZ h3 (by omega))⟩
theorem zjX {α:Type} (l:List α) (t:α):(l ++ [t])[l.length]?=some t:=by rw [List.getElem?_append_right (Nat.le_refl _),Nat.sub_self];rfl
theorem zl0 {m:GMod} {rk:Int→Nat} {Fs Nd Md} {N:Nat} (E:Env m rk) (hN:N ≤ 50000) (hnd:∀ N',N' + 1=N→NodeS m rk Nd N') (hfs:FieldsT m rk Fs N):MadeS m rk (zc4 Fs Nd Md) N:=by
  intro x n k j h a d hm hx3 hn hk11 hs hj hdn hN2 hd0 hd
  unfold zc4
  have hlt:=hs.lt
  have hok:=E.wf.ok n (List.mem_of_getElem? hn)
  obtain ⟨h',rfl,hkid⟩:∃ h',h=h' + 1∧Kids (Sub h' m.nodes) (kidsOf n) (k + 1) j:=by
    cases h with
    | zero=>exact hs.elim
    | succ h' =>
      obtain ⟨n',e1,e2⟩:=hs
      rw [hn] at e1;cases e1
      exact ⟨h',rfl,e2⟩
  refine T.jp (fun b=>b=false→d ≤ 16∧x.l.length < 300) (fun J kk=>T.br (fun _=>kk _ fun h=>by cases h) fun h1=>kk _ fun h2=>?_) fun b hb=>T.br (fun _=>T.eq (fail10 _ _) (T.some ⟨Gk.sm (Sm.fl (by decide)) hx3,fun e=>absurd e (zqS (by decide))⟩)) fun hb1=>?_
  · have h1:=zOF h1
    have h2:=zOF h2
    omega
  obtain ⟨hd16,hx300⟩:=hb hb1
  obtain ⟨D,hD,hD2⟩:∃ D,(17 - d).toNat=D + 1∧(16 - d).toNat=D:=⟨(16 - d).toNat,by omega,rfl⟩
  refine T.jp (ι:=GTyp) (fun t=>New n t) (fun J kk=>T.br (fun _=>T.cal (zqM _) fun u _ _=>kk _ ⟨rfl,rfl,rfl,rfl,fun _=>by simp,by simp⟩) fun h9=>kk _ ⟨rfl,rfl,rfl,rfl,fun h=>absurd (by simpa using h9) h,by simp⟩) fun t ht=>?_
  refine T.jp (ι:=GMk) (fun y=>y=GMk.mk x.m (x.l ++ [t]) x.e) (fun J kk=>T.abl (by rw [List.length_singleton];omega) (kk _ rfl)) fun y hy=>?_
  subst hy
  have hxl1:(x.l ++ [t]).length=x.l.length + 1:=by rw [List.length_append,List.length_singleton]
  have hkind:=ht.kind
  have g0:∀ y:GMk,Sm (GMk.mk x.m (x.l ++ [t]) x.e) y→Gk x y:=fun y hy=>⟨hy.m,by rw [hy.l];dsimp only;omega,by rw [hy.l];dsimp only;omega,hy.e,fun _ q hq=>by rw [hy.l];exact List.getElem?_append_left hq⟩
  have hti:((x.l.length:Nat):Int).toNat=x.l.length:=Int.toNat_natCast _
  have hleaf:n.kind ≠ 3→n.kind ≠ 7→n.kind ≠ 8→n.kind ≠ 9→n.kind ≠ 10→∀ y:GMk,Sm (GMk.mk x.m (x.l ++ [t]) x.e) y→(y.e=0→SubT (17 - d).toNat y.l x.l.length y.l.length∧∃ t,y.l[x.l.length]?=some t∧t.tags.length ≤ 1):=fun h3 h7 h8 h9 h10 y hy _=>by
    have hl:=hy.l
    dsimp only at hl
    rw [hl,hD,hxl1]
    refine ⟨⟨t,zjX _ _,ht.ok hok h3 h7 h8 h9 t.of,?_⟩,t,zjX _ _,ht.tlen⟩
    unfold kidsT
    rw [ht.fields,if_neg (by rw [hkind];exact h10)]
    rfl
  refine T.jp (ι:=GMk) (fun y=>Gk x y∧(y.e=0→SubT (17 - d).toNat y.l x.l.length y.l.length∧∃ t,y.l[x.l.length]?=some t∧t.tags.length ≤ 1)) (fun J kk=>?_) fun y ⟨y1,y2⟩=>T.some ⟨y1,fun e=>⟨rfl,y2 e⟩⟩
  refine T.jp (fun b=>b=decide (n.kind=2 ∨ n.kind=5 ∨ n.kind=6 ∨ n.kind=10)) (fun J1 k1=>T.br (fun h1=>k1 _ ?_) fun h1=>T.br (fun h2=>k1 _ ?_) fun h2=>T.br (fun h3=>k1 _ ?_) fun h3=>k1 _ ?_) fun b hb=>?_
  · have h1:=zOT h1
    rw [zDT h1,zDT (.inl h1)]
  · have h2:=zOT h2
    rw [zDT h2,zDT (.inr (.inl h2))]
  · have h3:=zOT h3
    rw [zDT h3,zDT (.inr (.inr (.inl h3)))]
  · have h1:=zOF h1
    have h2:=zOF h2
    have h3:=zOF h3
    rw [decide_eq_decide];omega
  subst hb
  refine T.br (fun hb=>?_) fun hb=>?_
  · -- a leaf with bounds, or a list
    have hb:=zOT hb
    refine T.cal (zpX _ _) fun ce _ _=>T.jp (ι:=GMk) (fun y=>Sm (GMk.mk x.m (x.l ++ [t]) x.e) y) (fun J1 k1=>T.br (fun hc=>T.eq (fail10 _ _) (k1 _ (Sm.fl (by simpa using hc)))) fun _=>k1 _ (Sm.refl _)) fun y hy=>T.br (fun h10=>?_) fun h10=>kk _ ⟨g0 y hy,hleaf (by omega) (by omega) (by omega) (by omega) (zOF h10) y hy⟩
    have h10:=zOT h10
    have hko:kidsOf n=n.fields.map (fun f=>f.ty) ++ [n.of]:=by unfold kidsOf;rw [if_neg hk11,if_pos h10]
    obtain ⟨c,dd,c1,c2,c3,c4⟩:=Kids.subs hkid (k:=n.of) (by rw [hko];simp)
    have hc:=c2.lt
    have hyl:=hy.l
    dsimp only at hyl
    refine T.ck (by omega) ?_
    rw [c1]
    refine T.cal (hnd (N - 1) (by omega) y c dd h' a (d + 1) (hy.m.trans hm) (by rw [hyl];omega) c2 (by omega) (hdn.part (by omega) c4) (by omega) (by omega) (by omega)) fun r _ ⟨r1,r2⟩=>?_
    have g1:Gk x r.2:=(g0 y hy).trans r1
    refine T.br (fun he=>?_) fun he=>kk _ ⟨g1,fun e=>absurd e (zOF he)⟩
    have he:=zOT he
    have hpre:=r1.pre he x.l.length (by rw [hyl];omega)
    rw [hyl,zjX] at hpre
    have hl1:=(List.getElem?_eq_some_iff.1 hpre).1
    have hr:=r2 he
    clear r2
    obtain ⟨e1,e2,_⟩:=hr
    refine T.asd ⟨by omega,by omega⟩ ?_
    rw [hti]
    refine T.eq hpre (kk _ ⟨⟨g1.m,by rw [List.length_set];exact g1.le,by rw [List.length_set];exact g1.lim,g1.e,fun e q hq=>by dsimp only;rw [List.getElem?_set_ne (by omega)];exact g1.pre he q hq⟩,fun _=>?_⟩)
    dsimp only
    rw [hD,List.length_set]
    refine ⟨⟨_,List.getElem?_set_self hl1,ht.ok hok (by omega) (by omega) (by omega) (by omega) r.1,?_⟩,_,List.getElem?_set_self hl1,ht.tlen⟩
    unfold kidsT
    dsimp only
    rw [ht.fields,if_pos (by rw [hkind];exact h10)]
    have hD3:(17 - (d + 1)).toNat=D:=by omega
    rw [hD3,hyl,hxl1] at e2
    rw [e1,hyl,hxl1]
    exact ⟨_,rfl,SubT.mono (fun q hq _=>List.getElem?_set_ne (by omega)) e2,rfl⟩
  have hb:=zOF hb
  refine T.br (fun h3=>?_) fun h3=>?_
  · -- an enumerated type
    have h3:=zOT h3
    refine T.cal (znH (GMk.mk x.m (x.l ++ [t]) x.e) n hok (hok.items h3)) fun r _ ⟨r1,r2,r3⟩=>?_
    dsimp only at r1 r2 r3 ⊢
    refine T.asd (by rw [r2]) (T.asd ⟨by omega,by omega⟩ ?_)
    rw [hti]
    have hget:r.2.l[x.l.length]?=some t:=by rw [r2];exact zjX _ _
    have hrl:r.2.l.length=x.l.length + 1:=by rw [r2];exact hxl1
    refine T.eq hget (kk _ ⟨⟨r1,by dsimp only;rw [List.length_set];omega,by dsimp only;rw [List.length_set];omega,fun e=>(r3 e).1,fun e q hq=>by dsimp only;rw [List.getElem?_set_ne (by omega),r2];exact List.getElem?_append_left hq⟩,fun e=>?_⟩)
    obtain ⟨e1,e2,e3⟩:=r3 e
    have hil:=hok.ilen
    dsimp only
    rw [hD,List.length_set]
    refine ⟨⟨_,List.getElem?_set_self (by omega),⟨ht.tags,by have:=ht.tlen;dsimp only;omega,by dsimp only;rw [ht.root];exact hok.root0,fun e=>by dsimp only at e;rw [hkind] at e;omega,fun _=>by dsimp only;rw [ht.root,e2];exact hok.items h3,fun _=>ht.fields,fun e=>by dsimp only at e;rw [hkind] at e;contradiction,by dsimp only;rw [e2];exact hil,e3,fun f hf=>(by dsimp only at hf;rw [ht.fields] at hf;cases hf),fun e=>absurd (by dsimp only;rw [hkind];exact h3) e⟩,?_⟩,_,List.getElem?_set_self (by omega),ht.tlen⟩
    unfold kidsT
    dsimp only
    rw [ht.fields,if_neg (by rw [hkind];omega),hrl]
    rfl
  have h3:=zOF h3
  refine T.jp (fun b=>b=decide (n.kind=7 ∨ n.kind=8 ∨ n.kind=9)) (fun J1 k1=>T.br (fun h1=>k1 _ ?_) fun h1=>T.br (fun h2=>k1 _ ?_) fun h2=>k1 _ ?_) fun b hb2=>?_
  · have h1:=zOT h1
    rw [zDT h1,zDT (.inl h1)]
  · have h2:=zOT h2
    rw [zDT h2,zDT (.inr (.inl h2))]
  · have h1:=zOF h1
    have h2:=zOF h2
    rw [decide_eq_decide];omega
  subst hb2
  refine T.br (fun hb2=>?_) fun hb2=>kk _ ⟨g0 _ (Sm.refl _),?_⟩
  · -- fields
    have hb2:=zOT hb2
    have hko:kidsOf n=n.fields.map (fun f=>f.ty):=by unfold kidsOf;rw [if_neg hk11,if_neg (by omega),List.append_nil]
    rw [hko] at hkid
    refine T.cal (hfs (GMk.mk x.m (x.l ++ [t]) x.e) n k j h' a d x.l t hm rfl (by dsimp only;omega) hn hkid hj hdn hN2 hd0 hd16 hb2 hkind ht.root) fun y _ ⟨y1,y2,y3,y4⟩=>kk _ ⟨⟨y1.trans hm.symm,by dsimp only at y2;omega,y3,fun e=>(y4 e).1,fun e q hq=>?_⟩,fun e=>?_⟩
    · rw [(y4 e).2.1 q hq];exact List.getElem?_append_left hq
    obtain ⟨e1,e2,fs,e3,e4,e5,e6⟩:=y4 e
    dsimp only at e5
    rw [hD]
    refine ⟨⟨_,e3,⟨ht.tags,by have:=ht.tlen;dsimp only;omega,by dsimp only;rw [ht.root];exact hok.root0,fun _=>by dsimp only;rw [ht.root,e4];exact hok.fields hb2,fun e=>by dsimp only at e;rw [hkind] at e;contradiction,fun e=>absurd (by dsimp only;rw [hkind];exact hb2) e,fun _=>ht.items,by dsimp only;rw [ht.items];decide,fun it hit=>(by dsimp only at hit;rw [ht.items] at hit;cases hit),e6,fun _ e=>absurd (by dsimp only;rw [hkind];exact hb2) e⟩,?_⟩,_,e3,ht.tlen⟩
    unfold kidsT
    dsimp only
    rw [if_neg (by rw [hkind];omega),List.append_nil]
    rw [hD2,hxl1] at e5
    exact e5
  · have hb2:=zOF hb2
    exact hleaf h3 (by omega) (by omega) (by omega) (by omega) _ (Sm.refl _)
theorem zpW {m:GMod} {rk:Int→Nat} (E:Env m rk):∀ N,N ≤ 30000 →
    (∀ n,3 * N + 1 ≤ n→FieldsT m rk (zd3 n) N)∧(∀ n,3 * N + 2 ≤ n→MadeS m rk (zeS n) N)∧(∀ n,3 * N + 3 ≤ n→NodeS m rk (zeZ n) N):=by
  intro N
  induction N with
  | zero =>
    intro _
    have hf:∀ n,1 ≤ n→FieldsT m rk (zd3 n) 0:=fun n hn=>by
      obtain ⟨n,rfl⟩:∃ n',n=n' + 1:=⟨n - 1,by omega⟩
      exact zkg (Fs:=(zag n).1) (Nd:=(zag n).2.1) (Md:=(zag n).2.2) E (by omega) fun N' h=>by omega
    have hm:∀ n,2 ≤ n→MadeS m rk (zeS n) 0:=fun n hn=>by
      obtain ⟨n,rfl⟩:∃ n',n=n' + 1:=⟨n - 1,by omega⟩
      exact zl0 (Fs:=(zag n).1) (Nd:=(zag n).2.1) (Md:=(zag n).2.2) E (by omega) (fun N' h=>by omega) (hf n (by omega))
    refine ⟨fun n hn=>hf n (by omega),fun n hn=>hm n (by omega),fun n hn=>?_⟩
    obtain ⟨n,rfl⟩:∃ n',n=n' + 1:=⟨n - 1,by omega⟩
    exact zlL (Fs:=(zag n).1) (Nd:=(zag n).2.1) (Md:=(zag n).2.2) E (by omega) (fun N' h=>by omega) (hm n (by omega))
  | succ N ih =>
    intro hN
    obtain ⟨_,_,ihn⟩:=ih (by omega)
    have hf:∀ n,3 * (N + 1) + 1 ≤ n→FieldsT m rk (zd3 n) (N + 1):=fun n hn=>by
      obtain ⟨n,rfl⟩:∃ n',n=n' + 1:=⟨n - 1,by omega⟩
      exact zkg (Fs:=(zag n).1) (Nd:=(zag n).2.1) (Md:=(zag n).2.2) E (by omega) fun N' h=>by
        have:N'=N:=by omega
        subst this;exact ihn n (by omega)
    have hm:∀ n,3 * (N + 1) + 2 ≤ n→MadeS m rk (zeS n) (N + 1):=fun n hn=>by
      obtain ⟨n,rfl⟩:∃ n',n=n' + 1:=⟨n - 1,by omega⟩
      exact zl0 (Fs:=(zag n).1) (Nd:=(zag n).2.1) (Md:=(zag n).2.2) E (by omega) (fun N' h=>by
        have:N'=N:=by omega
        subst this;exact ihn n (by omega)) (hf n (by omega))
    refine ⟨hf,hm,fun n hn=>?_⟩
    obtain ⟨n,rfl⟩:∃ n',n=n' + 1:=⟨n - 1,by omega⟩
    exact zlL (Fs:=(zag n).1) (Nd:=(zag n).2.1) (Md:=(zag n).2.2) E (by omega) (fun N' h=>by
        have:N'=N:=by omega
        subst this;exact ihn n (by omega)) (hm n (by omega))
end Go.Proofs.Q


namespace Go.Proofs.Q
open Go.Sy
set_option linter.unusedVariables false

theorem Kids.find {S:Nat→Nat→Prop} {p:Nat}:∀ {r:List Int} {a b:Nat},Kids S r a b→a ≤ p→p < b→∃ (k:Int) (c d:Nat),k ∈ r∧k=(c:Int)∧S c d∧c ≤ p∧p < d:=by
  intro r
  induction r with
  | nil=>intro a b h h1 h2;cases h;omega
  | cons x r ih =>
    intro a b ⟨c,h0,h1,h2⟩ ha hb
    rcases Nat.lt_or_ge p c with h | h
    · exact ⟨x,a,c,List.mem_cons_self,h0,h1,ha,h⟩
    · obtain ⟨k,c',d',k1,k2,k3,k4,k5⟩:=ih h2 h hb
      exact ⟨k,c',d',List.mem_cons_of_mem _ k1,k2,k3,k4,k5⟩
theorem zr1:∀ {h:Nat} {l:List GNode} {c d p:Nat} {n:GNode},Sub h l c d→c ≤ p→p < d→l[p]?=some n→n.kind=11→n.name ∈ nmx l h (c:Int):=by
  intro h
  induction h with
  | zero=>intro l c d p n hs;exact hs.elim
  | succ h ih =>
    intro l c d p n ⟨n0,h1,h2⟩ hc hd hn hk
    rw [zlc h1]
    rcases Nat.eq_or_lt_of_le hc with e | e
    · subst e
      rw [h1] at hn;cases hn
      rw [if_pos hk];exact List.mem_singleton.2 rfl
    · by_cases h0:n0.kind=11
      · have:kidsOf n0=[]:=by unfold kidsOf;rw [if_pos h0]
        rw [this] at h2
        cases h2
        omega
      · rw [if_neg h0]
        obtain ⟨k,c',d',k1,k2,k3,k4,k5⟩:=Kids.find h2 e hd
        refine List.mem_flatMap.2 ⟨k,k1,?_⟩
        rw [k2]
        exact ih k3 k4 k5 hn hk
theorem zry {m:GMod} (h:(wr m).2=0):first (zj5 m) m.names.length 0=none:=by
  unfold wr at h
  split at h
  · cases h
  · split at h
    · cases h
    · assumption
theorem zrb {m:GMod} (h:(wr m).2=0):first (twice m) m.names.length 0=none:=by
  unfold wr at h
  split at h
  · cases h
  · assumption
theorem zsy {m:GMod} (w:WF m) (h:(wr m).2=0):∃ rk:Int→Nat,Env m rk:=by
  obtain ⟨rk,r1,r2⟩:=ranks w h
  have hn:=w.names
  have ht:=w.types
  refine ⟨rk,w,fun i=>Nat.le_trans (r1 i) hn,r2,fun b b0 b1=>?_⟩
  obtain ⟨t,hbt⟩:∃ t,m.types[b.toNat]?=some t:=⟨_,List.getElem?_eq_getElem (by omega)⟩
  obtain ⟨c,d,e1,e2,e3,e4⟩:=Kids.subs w.forest (List.mem_of_getElem? hbt)
  subst e1
  refine ⟨c,d,hbt,e2,e4,fun p n hp hq hpn hk=>?_⟩
  have hmem:n.name ∈ nms m (c:Int):=zr1 e2 hp hq hpn hk
  have hno:=zhI (zry h) b b0 (by omega)
  unfold zj5 at hno
  rw [hbt] at hno
  have hno:lost m (c:Int)=false:=hno
  unfold lost at hno
  have h1:=List.any_eq_false.1 hno _ hmem
  have h2:0 ≤ fnd m.names n.name:=by
    refine Classical.byContradiction fun hc=>h1 (zDT (by omega))
  refine ⟨h2,b0,uses m (c:Int),by unfold gr;rw [List.getElem?_map,hbt];rfl,?_⟩
  unfold uses
  refine zoh.2 (.inr (List.mem_filterMap.2 ⟨_,hmem,?_⟩))
  unfold idx
  rw [if_neg (by omega)]
theorem SubT.sub:∀ {h:Nat} {l:List GTyp} {r:List Int} {a b:Nat},Kids (SubT h l) r a b→∀ i,a ≤ i→i < b→∃ j,SubT h l i j:=by
  intro h
  induction h with
  | zero =>
    intro l r a b hk i h1 h2
    cases r with
    | nil=>cases hk;omega
    | cons k r=>obtain ⟨c,_,h,_⟩:=hk;exact h.elim
  | succ h ih =>
    intro l r a b hk i h1 h2
    obtain ⟨k,c,d,_,_,k3,k4,k5⟩:=Kids.find hk h1 h2
    rcases Nat.eq_or_lt_of_le k4 with e | e
    · subst e;exact ⟨d,k3⟩
    · obtain ⟨t,_,_,h3⟩:=k3
      obtain ⟨j,hj⟩:=ih h3 i e k5
      exact ⟨j,hj.up⟩
structure TabOk (t:GTab):Prop where
  names:t.names.length ≤ 40
  roots:t.roots.length=t.names.length
  types:t.types.length ≤ 300
  kids:Kids (SubT 17 t.types) t.roots 0 t.types.length
  fnds:∀ (p:Nat) (s:Str),t.names[p]?=some s→fnd t.names s=(p:Int)
theorem TabOk.empty (s:Str):TabOk (GTab.mk s [] [] []):=⟨Nat.zero_le _,rfl,Nat.zero_le _,rfl,fun p s h=>by simp at h⟩
theorem zqz {m:GMod} (w:WF m):T (fun r=>TabOk r.1∧(r.2.2=0→r.1.names=m.names∧r.1.name=m.name)) (zhf m):=by
  unfold zhf
  have hn:=w.names
  have ht:=w.types
  refine T.eq (zqj w) (T.br (fun hb=>T.some ⟨TabOk.empty _,fun h=>absurd h (by simpa using hb)⟩) fun hb=>?_)
  have hw:(wr m).2=0:=by
    have hb:(ordr m).2.2=0:=by simpa using hb
    unfold ordr at hb
    split at hb
    · assumption
    · exact hb
  obtain ⟨rk,E⟩:=zsy w hw
  have hfn:∀ (p:Nat) (s:Str),m.names[p]?=some s→fnd m.names s=(p:Int):=fun p s hp=>by
    have hlt:=(List.getElem?_eq_some_iff.1 hp).1
    have h1:=zhI (zrb hw) (p:Int) (by omega) (by omega)
    unfold twice at h1
    rw [Int.toNat_natCast,hp] at h1
    have h2:=zOF h1
    rcases zj8 m.names s with h3 | h3
    · exact absurd (List.mem_of_getElem? hp) h3.2
    · rcases Int.lt_or_le (p:Int) (fnd m.names s) with h4 | h4
      · exact absurd hp (h3.2.2.2 p (by omega))
      · omega
  have hnode:=(zpW E 12400 (by omega)).2.2 fuel (by unfold fuel;omega)
  refine T.jp (ι:=GTab) (fun t=>t=GTab.mk m.name m.names [] []) (fun J kk=>T.abl (by rw [List.length_nil];omega) (kk _ (by rw [List.nil_append]))) fun t htb=>?_
  subst htb
  refine T.lp (ι:=Int × GTab × GMk) (fun q=>0 ≤ q.1∧q.1 ≤ m.names.length∧q.2.1.names=m.names∧q.2.1.name=m.name∧(q.2.1.roots.length:Int)=q.1∧q.2.2.m=m∧q.2.2.l.length ≤ 300∧Kids (SubT 17 q.2.2.l) q.2.1.roots 0 q.2.2.l.length) (fun q=>((m.names.length:Int) - q.1).toNat) ⟨Int.le_refl _,by dsimp only;omega,rfl,rfl,rfl,rfl,Nat.zero_le _,rfl⟩ (by dsimp only;omega) fun L q ⟨q1,q2,q3,q4,q5,q6,q7,q8⟩ hL=>?_
  obtain ⟨i,t,y⟩:=q
  dsimp only at q1 q2 q3 q4 q5 q6 q7 q8 hL ⊢
  refine T.br (fun hi=>?_) fun hi=>T.some ⟨⟨by dsimp only;rw [q3];exact hn,by dsimp only;rw [q3];have:=zOF hi;omega,q7,q8,fun p s h=>(by rw [q3] at h ⊢;exact hfn p s h)⟩,fun _=>⟨q3,q4⟩⟩
  have hi:=zOT hi
  obtain ⟨c,d,e1,e2,e3,e4⟩:=E.root i q1 hi
  have hwn:=w.nodes
  have hrk:=E.rk40 i
  have hcd:=e2.lt
  refine T.jp (ι:=GTab × GMk) (fun p=>p.1.names=m.names∧p.1.name=m.name∧(p.1.roots.length:Int)=i + 1∧p.2.m=m∧p.2.l.length ≤ 300∧(p.2.e=0→Kids (SubT 17 p.2.l) p.1.roots 0 p.2.l.length)) (fun J kk=>T.get q1 (by omega) fun y36 h36=>?_) fun p ⟨p1,p2,p3,p4,p5,p6⟩=>?_
  · rw [e1] at h36;cases h36
    have hNN:rk i * 301 + (d - c) ≤ 12400:=by
      have:=Nat.mul_le_mul_right 301 hrk
      have h2:d - c ≤ 300:=Nat.le_trans (Nat.sub_le _ _) (Nat.le_trans e3 hwn)
      exact Nat.le_trans (Nat.add_le_add this h2) (by decide)
    refine T.cal (hnode y c d 17 i 0 q6 q7 e2 e3 e4 hNN (Int.le_refl _) (by decide)) fun r _ ⟨r1,r2⟩=>T.abl (by rw [List.length_singleton];omega) (kk _ ⟨q3,q4,by dsimp only;rw [List.length_append,List.length_singleton];omega,r1.m.trans q6,r1.lim,fun e=>?_⟩)
    obtain ⟨k1,k2,_⟩:=r2 e
    dsimp only
    rw [k1]
    exact Kids.snoc (KidsT.monoL (fun k _ hk=>r1.pre e k hk) q8) k2
  · refine T.br (fun he=>T.some ⟨TabOk.empty _,fun h=>absurd h (by simpa using he)⟩) fun he=>T.ck (by omega) (hL _ ⟨by dsimp only;omega,by dsimp only;omega,p1,p2,p3,p4,p5,p6 (by simpa using he)⟩ (by dsimp only;omega))
theorem zpw (s:Str):T (fun r=>TabOk r.1) (zb4 s):=by
  unfold zb4
  refine T.br (fun _=>T.some (TabOk.empty _)) fun _=>T.cal (zqg s) fun r _ hr=>T.br (fun _=>T.some (TabOk.empty _)) fun _=>T.cal (zqz hr) fun t _ ht=>T.jp (fun _=>True) (fun J kk=>T.br (fun _=>kk _ trivial) fun _=>kk _ trivial) fun b _=>T.some ht.1
end Go.Proofs.Q


namespace Go.Proofs.Q
open Go.Sy
set_option maxRecDepth 4000
def zfd (a_b:(List UInt8)):Option (UInt64 × Int × Int) :=
  lp (ι:=UInt64 × Int) (fun L2 q1=>br (decide (q1.2 < (a_b.length:Int))) (cal (getI a_b q1.2) fun y13=>jp (ι:=Bool) (fun J15=>br (decide (q1.2=(0:Int))) (J15 ((decide (y13=(128:UInt8))))) (J15 (false))) (fun q14=>jp (ι:=Bool) (fun J18=>br q14 (J18 (true)) (J18 ((!decide ((q1.1 >>> (57:UInt64))=(0:UInt64)))))) (fun q17=>br q17 (some ((0:UInt64),(0:Int),(4:Int))) (asr (Nat.ble (7:UInt64).toNat 64) <| br (decide (y13 < (128:UInt8))) (ck ((q1.2 + (1:Int))) <| some (((shl64 q1.1 (7:UInt64).toNat) ||| (y13 &&& (127:UInt8)).toUInt64),(q1.2 + (1:Int)),(0:Int))) (ck ((q1.2 + (1:Int))) <| L2 (((shl64 q1.1 (7:UInt64).toNat) ||| (y13 &&& (127:UInt8)).toUInt64),(q1.2 + (1:Int)))))))) (some ((0:UInt64),(0:Int),(3:Int)))) (((0:UInt64),(0:Int)))

def zjy (a_b:(List UInt8)):Option (Int × Int × Int) :=
  cal (getI a_b (0:Int)) fun y1=>br (decide (((y1 &&& (31:UInt8)).toNat:Int) < (31:Int))) (some (((y1 &&& (31:UInt8)).toNat:Int),(0:Int),(0:Int))) (asr (decide (0 ≤ (1:Int)∧(1:Int) ≤ (a_b.length:Int)∧(a_b.length:Int) ≤ (a_b.length:Int))) <| cal (zfd ((a_b.take ((a_b.length:Int)).toNat).drop ((1:Int)).toNat)) fun y3=>br (!decide (y3.2.2=(0:Int))) (some ((0:Int),(0:Int),y3.2.2)) (jp (ι:=Bool) (fun J5=>br (decide (y3.1 < (31:UInt64))) (J5 (true)) (J5 ((decide ((268435456:UInt64) < y3.1))))) (fun q4=>br q4 (some ((0:Int),(0:Int),(4:Int))) (ck ((y3.1.toNat:Int)) <| some ((y3.1.toNat:Int),y3.2.1,(0:Int))))))

def zhQ (a_b:(List UInt8)):Option (UInt64) :=
  lp (ι:=UInt64 × Int) (fun L2 q1=>br (decide (q1.2 < (a_b.length:Int))) (cal (getI a_b q1.2) fun y6=>asr (Nat.ble (8:UInt64).toNat 64) <| ck ((q1.2 + (1:Int))) <| L2 (((shl64 q1.1 (8:UInt64).toNat) ||| y6.toUInt64),(q1.2 + (1:Int)))) (some (q1.1))) (((0:UInt64),(0:Int)))

def zeb (a_b:(List UInt8)):Option (UInt64 × Int) :=
  br (decide ((a_b.length:Int)=(0:Int))) (some ((0:UInt64),(3:Int))) (jp (ι:=Bool) (fun J2=>br (decide ((8:Int) < (a_b.length:Int))) (J2 (true)) (jp (ι:=Bool) (fun J5=>br (decide ((1:Int) < (a_b.length:Int))) (cal (getI a_b (0:Int)) fun y7=>J5 ((decide (y7=(0:UInt8))))) (J5 (false))) (fun q4=>J2 (q4)))) (fun q1=>br q1 (some ((0:UInt64),(4:Int))) (cal (zhQ a_b) fun y8=>some (y8,(0:Int)))))

def zjL (a_b:(List UInt8)):Option (Int × Int × Int) :=
  br (decide ((a_b.length:Int)=(0:Int))) (some ((0:Int),(0:Int),(3:Int))) (cal (getI a_b (0:Int)) fun y1=>br (decide (y1 < (128:UInt8))) (cal (getI a_b (0:Int)) fun y2=>some ((y2.toNat:Int),(1:Int),(0:Int))) (cal (getI a_b (0:Int)) fun y3=>jp (ι:=Bool) (fun J5=>br (decide (((y3 &&& ~~~(128:UInt8)).toNat:Int)=(0:Int))) (J5 (true)) (J5 ((decide ((8:Int) < ((y3 &&& ~~~(128:UInt8)).toNat:Int)))))) (fun q4=>br q4 (some ((0:Int),(0:Int),(4:Int))) (br (decide ((a_b.length:Int) ≤ ((y3 &&& ~~~(128:UInt8)).toNat:Int))) (some ((0:Int),(0:Int),(3:Int))) (ck (((1:Int) + ((y3 &&& ~~~(128:UInt8)).toNat:Int))) <| asr (decide (0 ≤ (1:Int)∧(1:Int) ≤ ((1:Int) + ((y3 &&& ~~~(128:UInt8)).toNat:Int))∧((1:Int) + ((y3 &&& ~~~(128:UInt8)).toNat:Int)) ≤ (a_b.length:Int))) <| cal (zeb ((a_b.take (((1:Int) + ((y3 &&& ~~~(128:UInt8)).toNat:Int))).toNat).drop ((1:Int)).toNat)) fun y9=>jp (ι:=Bool) (fun J11=>br (!decide (y9.2=(0:Int))) (J11 (true)) (J11 ((decide (y9.1 < (128:UInt64)))))) (fun q10=>jp (ι:=Bool) (fun J14=>br q10 (J14 (true)) (J14 ((decide ((2147483647:UInt64) < y9.1))))) (fun q13=>br q13 (some ((0:Int),(0:Int),(4:Int))) (ck ((y9.1.toNat:Int)) <| ck (((1:Int) + ((y3 &&& ~~~(128:UInt8)).toNat:Int))) <| some ((y9.1.toNat:Int),((1:Int) + ((y3 &&& ~~~(128:UInt8)).toNat:Int)),(0:Int))))))))))

def zhE (a_b:(List UInt8)):Option (Tag × Bool × Int × Int × Int) :=
  br (decide ((a_b.length:Int)=(0:Int))) (some ((Tag.mk (0:Int) (0:Int)),false,(0:Int),(0:Int),(3:Int))) (cal (zjy a_b) fun y2=>br (!decide (y2.2.2=(0:Int))) (some ((Tag.mk (0:Int) (0:Int)),false,(0:Int),(0:Int),y2.2.2)) (ck (((1:Int) + y2.2.1)) <| asr (decide (0 ≤ ((1:Int) + y2.2.1)∧((1:Int) + y2.2.1) ≤ (a_b.length:Int)∧(a_b.length:Int) ≤ (a_b.length:Int))) <| cal (zjL ((a_b.take ((a_b.length:Int)).toNat).drop (((1:Int) + y2.2.1)).toNat)) fun y5=>br (!decide (y5.2.2=(0:Int))) (some ((Tag.mk (0:Int) (0:Int)),false,(0:Int),(0:Int),y5.2.2)) (cal (getI a_b (0:Int)) fun y6=>asr (Nat.ble (6:UInt64).toNat 8) <| cal (getI a_b (0:Int)) fun y8=>ck (((1:Int) + y2.2.1)) <| ck ((((1:Int) + y2.2.1) + y5.2.1)) <| some ((Tag.mk ((shr8 y6 (6:UInt64).toNat).toNat:Int) y2.1),(!decide ((y8 &&& (32:UInt8))=(0:UInt8))),y5.1,(((1:Int) + y2.2.1) + y5.2.1),(0:Int)))))

def zlv (a_b:(List UInt8)):Option (Tag × Bool × (List UInt8) × Int × Int) :=
  cal (zhE a_b) fun y2=>jp (ι:=Bool) (fun J5=>br (decide (y2.2.2.2.2=(0:Int))) (ck (((a_b.length:Int) - y2.2.2.2.1)) <| J5 ((decide (((a_b.length:Int) - y2.2.2.2.1) < y2.2.2.1)))) (J5 (false))) (fun q4=>jp (ι:=Int) (fun J9=>br q4 (J9 ((3:Int))) (J9 (y2.2.2.2.2))) (fun q8=>br (!decide (q8=(0:Int))) (some ((Tag.mk (0:Int) (0:Int)),false,([]:(List UInt8)),(0:Int),q8)) (ck ((y2.2.2.2.1 + y2.2.2.1)) <| asr (decide (0 ≤ y2.2.2.2.1∧y2.2.2.2.1 ≤ (y2.2.2.2.1 + y2.2.2.1)∧(y2.2.2.2.1 + y2.2.2.1) ≤ (a_b.length:Int))) <| ck ((y2.2.2.2.1 + y2.2.2.1)) <| asr (Nat.ble (([]:(List UInt8)).length + ((a_b.take ((y2.2.2.2.1 + y2.2.2.1)).toNat).drop (y2.2.2.2.1).toNat).length) 68719476736) <| some (y2.1,y2.2.1,(([]:(List UInt8)) ++ ((a_b.take ((y2.2.2.2.1 + y2.2.2.1)).toNat).drop (y2.2.2.2.1).toNat)),(y2.2.2.2.1 + y2.2.2.1),(0:Int)))))

def zeK (a_t:GTyp) (a_k:Int):Option (Bool) :=
  cal (getI a_t.fields a_k) fun y1=>jp (ι:=Bool) (fun J3=>br y1.optional (J3 (true)) (cal (getI a_t.fields a_k) fun y5=>J3 (y5.has))) (fun q2=>jp (ι:=Bool) (fun J7=>br q2 (J7 (true)) (J7 ((decide (a_t.root ≤ a_k))))) (fun q6=>some (q6)))

def zjs (a_t:GTyp):Option (Int) :=
  lp (ι:=Int) (fun L2 q1=>jp (ι:=Bool) (fun J10=>br (decide ((0:Int) < q1)) (ck ((q1 - (1:Int))) <| cal (zeK a_t (q1 - (1:Int))) fun y13=>J10 (y13)) (J10 (false))) (fun q9=>br q9 (ck ((q1 - (1:Int))) <| L2 ((q1 - (1:Int)))) (some (q1)))) (((min (max a_t.root (0:Int)) (a_t.fields.length:Int))))

def zdw (a_x:GTyp) (a_a1:(List Tag)):Option ((List Tag)) :=
  br (decide ((0:Int) < (a_x.tags.length:Int))) (cal (getI a_x.tags (0:Int)) fun y2=>asr (Nat.ble (a_a1.length + ([y2]:(List Tag)).length) 68719476736) <| some ((a_a1 ++ ([y2]:(List Tag))))) (some (a_a1))

def zd9 (zdn:GTys→Int→Int→(List Tag)→Option (GTys × Int × (List Tag))) (a_t:GTys) (zfX:Int) (zbW:Int) (zf2:(List Tag)):Option (GTys × Int × (List Tag)) :=
  jp (ι:=Bool) (fun J3=>br (decide (zfX < (0:Int))) (J3 (true)) (J3 ((decide ((a_t.l.length:Int) ≤ zfX))))) (fun q2=>jp (ι:=Bool) (fun J6=>br q2 (J6 (true)) (J6 ((decide (zbW=(0:Int)))))) (fun q5=>br q5 (some (a_t,zbW,zf2)) (ck ((zbW - (1:Int))) <| cal (getI a_t.l zfX) fun y9=>cal (zdw y9 zf2) fun y11=>br (decide ((0:Int) < (y9.tags.length:Int))) (some (a_t,(zbW - (1:Int)),y11)) (lp (ι:=Int × (List Tag) × Int × GTys) (fun L14 q13=>br (decide (q13.1 < (y9.fields.length:Int))) (cal (getI y9.fields q13.1) fun y20=>cal (zdn q13.2.2.2 y20.ty q13.2.2.1 q13.2.1) fun y22=>ck ((q13.1 + (1:Int))) <| L14 ((q13.1 + (1:Int)),y22.2.2,y22.2.1,y22.1)) (some (q13.2.2.2,q13.2.2.1,q13.2.1))) (((0:Int),y11,(zbW - (1:Int)),a_t))))))
def zfg:Nat→(GTys→Int→Int→(List Tag)→Option (GTys × Int × (List Tag)))
  | 0=>(fun _ _ _ _=>none)
  | n + 1=>let p:=zfg n;(zd9 p)
def ze0 (n:Nat):GTys→Int→Int→(List Tag)→Option (GTys × Int × (List Tag)):=(zfg n)

def zeA (a_t:GTys) (zfX:Int):Option ((List Tag) × GTys) :=
  cal (ze0 fuel a_t zfX (300:Int) ([]:(List Tag))) fun y4=>some (y4.2.2,y4.1)

def zhY (a_t:GTab) (a_i:Int):Option ((List Tag)) :=
  cal (zeA (GTys.mk a_t.types) a_i) fun y2=>some (y2.1)

def zch (a_s:(List Tag)) (a_v:Tag):Option (Int) :=
  lp (ι:=Int) (fun L2 q1=>br (decide (q1 < (a_s.length:Int))) (cal (getI a_s q1) fun y5=>br (decide (a_v=y5)) (some (q1)) (ck ((q1 + (1:Int))) <| L2 ((q1 + (1:Int))))) (some ((-1:Int)))) (((0:Int)))

def zbZ (a_s:(List Tag)) (a_v:Tag):Option (Bool) :=
  cal (zch a_s a_v) fun y1=>some ((decide ((0:Int) ≤ y1)))

def zcS (a_f:GFld) (a_a1:GChk) (a_a2:Tag):Option (Bool × GChk) :=
  cal (zhY a_a1.tabled.t a_f.ty) fun y1=>cal (zbZ y1 a_a2) fun y2=>some (y2,a_a1)

def zbC (a_s:(List GFld)) (zce:GChk) (zcL:Tag):Option (Int × GChk) :=
  lp (ι:=Int × GChk) (fun L2 q1=>br (decide (q1.1 < (a_s.length:Int))) (cal (getI a_s q1.1) fun y6=>cal (zcS y6 q1.2 zcL) fun y7=>br y7.1 (some (q1.1,y7.2)) (ck ((q1.1 + (1:Int))) <| L2 ((q1.1 + (1:Int)),y7.2))) (some ((-1:Int),q1.2))) (((0:Int),zce))

def zbq (a_s:(List GFld)) (zce:GChk) (zcL:Tag):Option (Bool × GChk) :=
  cal (zbC a_s zce zcL) fun y1=>some ((decide ((0:Int) ≤ y1.1)),y1.2)

def zcG (a_c:GChk) (a_i:Int) (a_b:(List UInt8)):Option (Tag × Bool × GChk) :=
  cal (zlv a_b) fun y2=>jp (ι:=Bool) (fun J5=>br (!decide (y2.2.2.2.2=(0:Int))) (J5 (true)) (J5 ((!decide (y2.2.2.2.1=(a_b.length:Int)))))) (fun q4=>br q4 (some ((Tag.mk (0:Int) (0:Int)),false,a_c)) (cal (getI a_c.tabled.t.types a_i) fun y7=>jp (ι:=Int) (fun J10=>br (decide (y7.kind=(7:Int))) (cal (zjs y7) fun y11=>J10 (y11)) (J10 ((0:Int)))) (fun q9=>asr (decide (0 ≤ q9∧q9 ≤ (y7.fields.length:Int)∧(y7.fields.length:Int) ≤ (y7.fields.length:Int))) <| cal (zbq ((y7.fields.take ((y7.fields.length:Int)).toNat).drop (q9).toNat) a_c y2.1) fun y13=>some (y2.1,(!y13.1),y13.2))))

def zgX (a_y:GItem) (a_a1:Int):Option (Bool) :=
  some ((decide (a_y.number=a_a1)))

def zba (a_s:(List GItem)) (zce:Int):Option (Int) :=
  lp (ι:=Int) (fun L2 q1=>br (decide (q1 < (a_s.length:Int))) (cal (getI a_s q1) fun y6=>cal (zgX y6 zce) fun y7=>br y7 (some (q1)) (ck ((q1 + (1:Int))) <| L2 ((q1 + (1:Int))))) (some ((-1:Int)))) (((0:Int)))

def zfi (a_x:GTyp) (a_n_:Int):Option (Int) :=
  cal (zba a_x.items a_n_) fun y1=>some (y1)

def zhW (a_b:(List UInt8)):Option (Bool) :=
  jp (ι:=Bool) (fun J2=>br (decide ((0:Int) < (a_b.length:Int))) (J2 ((decide ((a_b.length:Int) ≤ (70000:Int))))) (J2 (false))) (fun q1=>some (q1))

def zdx (a_c:GChk) (a_i:Int) (a_v:Val):Option (Bool × GChk) :=
  cal (getI a_c.tabled.t.types a_i) fun y1=>jp (ι:=Bool) (fun J4=>br (!y1.more) (J4 (true)) (jp (ι:=Bool) (fun J7=>br (!(decide (y1.kind=(9:Int)))) (J7 ((!decide (y1.kind=(3:Int))))) (J7 (false))) (fun q6=>J4 (q6)))) (fun q3=>jp (ι:=Bool) (fun J10=>br q3 (J10 (true)) (ck (((a_v.l.length:Int) + (a_v.more.length:Int))) <| J10 ((decide ((0:Int) < ((a_v.l.length:Int) + (a_v.more.length:Int))))))) (fun q9=>br q9 (some (false,a_c)) (br a_c.bare (jp (ι:=Bool) (fun J14=>br (decide (a_v.n=(0:Int))) (J14 ((decide ((a_v.b.length:Int)=(0:Int))))) (J14 (false))) (fun q13=>jp (ι:=Bool) (fun J17=>br q13 (J17 ((decide (a_v.rule=(0:Int))))) (J17 (false))) (fun q16=>some (q16,a_c)))) (ck (((y1.items.length:Int) + (y1.fields.length:Int))) <| ck ((((y1.items.length:Int) + (y1.fields.length:Int)) - y1.root)) <| jp (ι:=Bool) (fun J22=>br (decide (a_v.rule=(1:Int))) (J22 ((decide (y1.kind=(9:Int))))) (J22 (false))) (fun q21=>br q21 (cal (zcG a_c a_i a_v.b) fun y24=>jp (ι:=Bool) (fun J27=>br y24.2.1 (J27 ((decide (a_v.n=(0:Int))))) (J27 (false))) (fun q26=>some (q26,y24.2.2))) (br (decide (a_v.rule=(1:Int))) (jp (ι:=Bool) (fun J30=>br (decide ((a_v.b.length:Int)=(0:Int))) (cal (zfi y1 a_v.n) fun y32=>J30 ((decide (y32 < (0:Int))))) (J30 (false))) (fun q29=>some (q29,a_c))) (jp (ι:=Bool) (fun J34=>br (!decide (a_v.rule=(2:Int))) (J34 (true)) (J34 ((decide (a_v.n < (((y1.items.length:Int) + (y1.fields.length:Int)) - y1.root)))))) (fun q33=>jp (ι:=Bool) (fun J37=>br q33 (J37 (true)) (J37 ((decide ((1000:Int) ≤ a_v.n))))) (fun q36=>br q36 (some (false,a_c)) (br (decide (y1.kind=(9:Int))) (cal (zhW a_v.b) fun y39=>some (y39,a_c)) (some ((decide ((a_v.b.length:Int)=(0:Int))),a_c))))))))))))

def zbN (a_v:Val) (zfT:Int):Option (Bool) :=
  asr (decide (0 ≤ zfT∧0 ≤ (1:Int))) <| jp (ι:=Bool) (fun J3=>br (!decide ((andI zfT (1:Int))=(0:Int))) (J3 (true)) (J3 ((decide (a_v.n=(0:Int)))))) (fun q2=>jp (ι:=Bool) (fun J6=>br q2 (asr (decide (0 ≤ zfT∧0 ≤ (2:Int))) <| jp (ι:=Bool) (fun J10=>br (!decide ((andI zfT (2:Int))=(0:Int))) (J10 (true)) (J10 ((decide ((a_v.b.length:Int)=(0:Int)))))) (fun q9=>J6 (q9))) (J6 (false))) (fun q5=>jp (ι:=Bool) (fun J13=>br q5 (asr (decide (0 ≤ zfT∧0 ≤ (4:Int))) <| jp (ι:=Bool) (fun J17=>br (!decide ((andI zfT (4:Int))=(0:Int))) (J17 (true)) (J17 ((decide ((a_v.l.length:Int)=(0:Int)))))) (fun q16=>J13 (q16))) (J13 (false))) (fun q12=>jp (ι:=Bool) (fun J20=>br q12 (asr (decide (0 ≤ zfT∧0 ≤ (8:Int))) <| jp (ι:=Bool) (fun J24=>br (!decide ((andI zfT (8:Int))=(0:Int))) (J24 (true)) (jp (ι:=Bool) (fun J27=>br (decide (a_v.rule=(0:Int))) (J27 ((decide ((a_v.more.length:Int)=(0:Int))))) (J27 (false))) (fun q26=>J24 (q26)))) (fun q23=>J20 (q23))) (J20 (false))) (fun q19=>some (q19)))))

def zcV (a_c:GCon) (a_v:Int):Option (Bool) :=
  jp (ι:=Bool) (fun J2=>br (!a_c.has) (J2 (true)) (jp (ι:=Bool) (fun J5=>br (!a_c.hasLow) (J5 (true)) (J5 ((decide (a_c.low ≤ a_v))))) (fun q4=>jp (ι:=Bool) (fun J8=>br q4 (jp (ι:=Bool) (fun J11=>br (!a_c.hasHigh) (J11 (true)) (J11 ((decide (a_v ≤ a_c.high))))) (fun q10=>J8 (q10))) (J8 (false))) (fun q7=>J2 (q7))))) (fun q1=>some (q1))

def zcR (a_c:GChk) (a_x:GTyp) (a_v:Val):Option (Bool × GChk) :=
  cal (zbN a_v (2:Int)) fun y1=>jp (ι:=Bool) (fun J3=>br y1 (J3 ((decide ((a_v.b.length:Int) ≤ (70000:Int))))) (J3 (false))) (fun q2=>jp (ι:=Bool) (fun J6=>br q2 (jp (ι:=Bool) (fun J9=>br a_x.con.more (J9 (true)) (cal (zcV a_x.con (a_v.b.length:Int)) fun y11=>J9 (y11))) (fun q8=>J6 (q8))) (J6 (false))) (fun q5=>jp (ι:=Bool) (fun J13=>br q5 (jp (ι:=Bool) (fun J16=>br (decide (a_x.kind=(5:Int))) (J16 (true)) (cal (zcU a_v.b) fun y18=>J16 (y18))) (fun q15=>J13 (q15))) (J13 (false))) (fun q12=>some (q12,a_c))))

def zfO (a_t:GTab) (a_i:Int):Option (GTyp) :=
  jp (ι:=Bool) (fun J3=>br (decide (a_i < (0:Int))) (J3 (true)) (J3 ((decide ((a_t.types.length:Int) ≤ a_i))))) (fun q2=>br q2 (some ((GTyp.mk (0:Int) ([]:(List Tag)) (GCon.mk false false false false (0:Int) (0:Int)) ([]:(List GItem)) ([]:(List GFld)) (0:Int) false (0:Int)))) (cal (getI a_t.types a_i) fun y5=>some (y5)))

def zfe (zeQ:Int) (a_to:Int):Option ((List Int)) :=
  lp (ι:=(List Int) × Int) (fun L4 q3=>br (decide (q3.2 < a_to)) (asr (Nat.ble (q3.1.length + ([q3.2]:(List Int)).length) 68719476736) <| ck ((q3.2 + (1:Int))) <| L4 ((q3.1 ++ ([q3.2]:(List Int))),(q3.2 + (1:Int)))) (some (q3.1))) ((([]:(List Int)),zeQ))

def zeG (a_t:GTab) (a_i:Int):Option ((List (List Int))) :=
  cal (zfO a_t a_i) fun y3=>jp (ι:=Bool) (fun J6=>br (!decide (y3.kind=(7:Int))) (J6 ((!decide (y3.kind=(8:Int))))) (J6 (false))) (fun q5=>jp (ι:=Bool) (fun J9=>br q5 (J9 ((!decide (y3.kind=(9:Int))))) (J9 (false))) (fun q8=>br q8 (some (([]:(List (List Int))))) (cal (zfe (max y3.root (0:Int)) (y3.fields.length:Int)) fun y15=>lp (ι:=(List (List Int)) × Int) (fun L18 q17=>br (decide (q17.2 < ((y15.length:Nat):Int))) (jp (ι:=(List (List Int))) (fun J50=>asr (decide (0 ≤ q17.2∧q17.2 < ((y15.length:Nat):Int))) <| cal (y15[q17.2.toNat]?) fun y52=>ck ((((q17.1.length:Nat):Int) - (1:Int))) <| cal (getI y3.fields y52) fun y54=>jp (ι:=Bool) (fun J56=>br (!decide (y3.kind=(9:Int))) (J56 ((decide ((0:Int) < y54.group)))) (J56 (false))) (fun q55=>jp (ι:=Bool) (fun J59=>br q55 (J59 ((decide ((0:Int) ≤ (((q17.1.length:Nat):Int) - (1:Int)))))) (J59 (false))) (fun q58=>jp (ι:=Bool) (fun J62=>br q58 (ck ((y52 - (1:Int))) <| cal (getI y3.fields (y52 - (1:Int))) fun y65=>J62 ((decide (y65.group=y54.group)))) (J62 (false))) (fun q61=>br q61 (asr (decide (0 ≤ (((q17.1.length:Nat):Int) - (1:Int))∧(((q17.1.length:Nat):Int) - (1:Int)) < ((q17.1.length:Nat):Int))) <| asr (decide ((((q17.1.length:Nat):Int) - (1:Int)).toNat + 1=q17.1.length)) <| cal (q17.1[(((q17.1.length:Nat):Int) - (1:Int)).toNat]?) fun y68=>asr (Nat.ble (y68.length + ([y52]:(List Int)).length) 68719476736) <| asr (decide (0 ≤ (((q17.1.length:Nat):Int) - (1:Int))∧(((q17.1.length:Nat):Int) - (1:Int)) < ((q17.1.length:Nat):Int))) <| asr (decide ((((q17.1.length:Nat):Int) - (1:Int)).toNat + 1=q17.1.length)) <| cal (q17.1[(((q17.1.length:Nat):Int) - (1:Int)).toNat]?) fun y74=>J50 ((q17.1.set ((((q17.1.length:Nat):Int) - (1:Int)).toNat) (y68 ++ ([y52]:(List Int)))))) (asr (Nat.ble (q17.1.length + ([([y52]:(List Int))]:(List (List Int))).length) 68719476736) <| J50 ((q17.1 ++ [([y52]:(List Int))]))))))) (fun q49=>ck ((q17.2 + (1:Int))) <| L18 (q49,(q17.2 + (1:Int))))) (some (q17.1))) ((([]:(List (List Int))),(0:Int))))))

def zkw (a_a:Tag) (a_b:Tag):Option (Bool) :=
  br (!decide (a_a.cls=a_b.cls)) (some ((decide (a_a.cls < a_b.cls)))) (some ((decide (a_a.num < a_b.num))))

def zdj (a_c:GChk) (a_i:Int) (a_v:Val):Option (Bool × GChk) :=
  cal (getI a_c.tabled.t.types a_i) fun y1=>br (decide ((a_v.more.length:Int)=(0:Int))) (some ((decide (a_v.rule=(0:Int))),a_c)) (jp (ι:=Bool) (fun J4=>br (!y1.more) (J4 (true)) (jp (ι:=Bool) (fun J7=>br (!decide (a_v.rule=(1:Int))) (J7 ((!decide (a_v.rule=(2:Int))))) (J7 (false))) (fun q6=>J4 (q6)))) (fun q3=>br q3 (some (false,a_c)) (cal (zeG a_c.tabled.t a_i) fun y9=>lp (ι:=Int × Int × Tag × GChk) (fun L12 q11=>br (decide (q11.2.1 < (a_v.more.length:Int))) (jp (ι:=Int × Tag × GChk) (fun J42=>cal (getI a_v.more q11.2.1) fun y43=>br (decide (a_v.rule=(2:Int))) (jp (ι:=Bool) (fun J46=>br (decide (y43.n < q11.1)) (J46 (true)) (J46 ((decide ((1000:Int) ≤ y43.n))))) (fun q45=>jp (ι:=Bool) (fun J49=>br q45 (J49 (true)) (cal (zhW y43.b) fun y51=>J49 ((!y51)))) (fun q48=>br q48 (some (false,q11.2.2.2)) (ck ((y43.n + (1:Int))) <| J42 ((y43.n + (1:Int)),q11.2.2.1,q11.2.2.2))))) (cal (zcG q11.2.2.2 a_i y43.b) fun y53=>jp (ι:=Bool) (fun J56=>br (!y53.2.1) (J56 (true)) (J56 ((!decide (y43.n=(0:Int)))))) (fun q55=>jp (ι:=Bool) (fun J59=>br q55 (J59 (true)) (jp (ι:=Bool) (fun J62=>br (decide (y1.kind=(8:Int))) (J62 ((decide ((0:Int) < q11.2.1)))) (J62 (false))) (fun q61=>jp (ι:=Bool) (fun J65=>br q61 (cal (zkw q11.2.2.1 y53.1) fun y67=>J65 ((!y67))) (J65 (false))) (fun q64=>J59 (q64))))) (fun q58=>br q58 (some (false,y53.2.2)) (J42 (q11.1,y53.1,y53.2.2)))))) (fun q41=>ck ((q11.2.1 + (1:Int))) <| L12 (q41.1,(q11.2.1 + (1:Int)),q41.2.1,q41.2.2))) (some (true,q11.2.2.2))) (((y9.length:Int),(0:Int),Tag.zero,a_c)))))

def zd4 (a_v:Val):Option (Bool) :=
  jp (ι:=Bool) (fun J2=>br (decide (a_v.kind=(0:Int))) (cal (zbN a_v (0:Int)) fun y4=>J2 (y4)) (J2 (false))) (fun q1=>some (q1))

def zgJ (a_a:(List UInt8)) (a_b:(List UInt8)):Option (Bool) :=
  some ((decide ((Str.mk a_a)=(Str.mk a_b))))

def zef (a_a:Raw) (a_b:Raw):Option (Bool) :=
  jp (ι:=Bool) (fun J2=>br (decide (a_a.n=a_b.n)) (cal (zgJ a_a.b a_b.b) fun y4=>J2 (y4)) (J2 (false))) (fun q1=>some (q1))

def zaH (a_s1:(List Raw)) (a_s2:(List Raw)):Option (Bool) :=
  br (!decide ((a_s1.length:Int)=(a_s2.length:Int))) (some (false)) (lp (ι:=Int) (fun L2 q1=>br (decide (q1 < (a_s1.length:Int))) (cal (getI a_s1 q1) fun y9=>cal (getI a_s2 q1) fun y11=>cal (zef y9 y11) fun y13=>br (!y13) (some (false)) (ck ((q1 + (1:Int))) <| L2 ((q1 + (1:Int))))) (some (true))) (((0:Int))))

def ze6 (zdg:Val→Val→Option (Bool)) (zT:(List Val)→(List Val)→Option (Bool)) (a_a:Val) (a_b:Val):Option (Bool) :=
  jp (ι:=Bool) (fun J2=>br (decide (a_a.kind=a_b.kind)) (J2 ((decide (a_a.n=a_b.n)))) (J2 (false))) (fun q1=>jp (ι:=Bool) (fun J5=>br q1 (cal (zgJ a_a.b a_b.b) fun y7=>J5 (y7)) (J5 (false))) (fun q4=>jp (ι:=Bool) (fun J9=>br q4 (cal (zT a_a.l a_b.l) fun y11=>J9 (y11)) (J9 (false))) (fun q8=>jp (ι:=Bool) (fun J13=>br q8 (J13 ((decide (a_a.rule=a_b.rule)))) (J13 (false))) (fun q12=>jp (ι:=Bool) (fun J16=>br q12 (cal (zaH a_a.more a_b.more) fun y18=>J16 (y18)) (J16 (false))) (fun q15=>some (q15))))))
def zan (zdg:Val→Val→Option (Bool)) (zT:(List Val)→(List Val)→Option (Bool)) (a_s1:(List Val)) (a_s2:(List Val)):Option (Bool) :=
  br (!decide ((a_s1.length:Int)=(a_s2.length:Int))) (some (false)) (lp (ι:=Int) (fun L2 q1=>br (decide (q1 < (a_s1.length:Int))) (cal (getI a_s1 q1) fun y9=>cal (getI a_s2 q1) fun y11=>cal (zdg y9 y11) fun y13=>br (!y13) (some (false)) (ck ((q1 + (1:Int))) <| L2 ((q1 + (1:Int))))) (some (true))) (((0:Int))))
def zgC:Nat→(Val→Val→Option (Bool)) × ((List Val)→(List Val)→Option (Bool))
  | 0=>(fun _ _=>none,fun _ _=>none)
  | n + 1=>let p:=zgC n;(ze6 p.1 p.2,zan p.1 p.2)
def zfn (n:Nat):Val→Val→Option (Bool):=(zgC n).1
def zaO (n:Nat):(List Val)→(List Val)→Option (Bool):=(zgC n).2

def zcj (a_c:GChk) (a_i:Int) (a_v:Val):Option (Bool × GChk) :=
  cal (getI a_c.tabled.t.types a_i) fun y1=>cal (zeG a_c.tabled.t a_i) fun y3=>lp (ι:=Int) (fun L5 q4=>br (decide (q4 < (y3.length:Int))) (jp (ι:=Unit) (fun J49=>cal (getI y3 q4) fun y50=>cal (getI y50 (0:Int)) fun y51=>cal (getI y1.fields y51) fun y52=>br (decide (y52.group=(0:Int))) (J49 ()) (lp (ι:=Bool × Bool × Int) (fun L54 q53=>br (decide (q53.2.2 < (y50.length:Int))) (cal (getI y50 q53.2.2) fun y67=>cal (getI a_v.l y67) fun y68=>cal (zd4 y68) fun y69=>jp (ι:=Bool) (fun J71=>br q53.1 (J71 (true)) (J71 ((!y69)))) (fun q70=>jp (ι:=Bool) (fun J74=>br q53.2.1 (J74 (true)) (jp (ι:=Bool) (fun J77=>br (!(!y69)) (cal (getI y1.fields y67) fun y79=>J77 ((!y79.optional))) (J77 (false))) (fun q76=>jp (ι:=Bool) (fun J81=>br q76 (cal (getI y1.fields y67) fun y83=>J81 ((!y83.has))) (J81 (false))) (fun q80=>J74 (q80))))) (fun q73=>ck ((q53.2.2 + (1:Int))) <| L54 (q70,q73,(q53.2.2 + (1:Int)))))) (jp (ι:=Bool) (fun J86=>br q53.1 (J86 (q53.2.1)) (J86 (false))) (fun q85=>br q85 (some (false,a_c)) (J49 ())))) ((false,false,(0:Int))))) (fun q48=>ck ((q4 + (1:Int))) <| L5 ((q4 + (1:Int))))) (some (true,a_c))) (((0:Int)))

def zbR (zV:Val→GChk→GTyp→Int→Option (Bool × GChk)) (zaa:GChk→Int→Val→Int→Option (Bool × GChk)) (zaf:GChk→GTyp→Val→Int→Option (Bool × GChk)) (zC:(List Val)→GChk→GTyp→Int→Option (Bool × GChk)) (zF:(List Val)→GChk→GTyp→Int→Option (Int × GChk)) (z6:GChk→Int→Val→Int→Option (Bool × GChk)) (a_w_:Val) (a_a1:GChk) (a_a2:GTyp) (a_a3:Int):Option (Bool × GChk) :=
  ck ((a_a3 + (1:Int))) <| cal (zaa a_a1 a_a2.of a_w_ (a_a3 + (1:Int))) fun y2=>some ((!y2.1),y2.2)
def zcf (zV:Val→GChk→GTyp→Int→Option (Bool × GChk)) (zaa:GChk→Int→Val→Int→Option (Bool × GChk)) (zaf:GChk→GTyp→Val→Int→Option (Bool × GChk)) (zC:(List Val)→GChk→GTyp→Int→Option (Bool × GChk)) (zF:(List Val)→GChk→GTyp→Int→Option (Int × GChk)) (z6:GChk→Int→Val→Int→Option (Bool × GChk)) (a_c:GChk) (a_i:Int) (a_v:Val) (zH:Int):Option (Bool × GChk) :=
  jp (ι:=Bool) (fun J2=>br (decide (a_i < (0:Int))) (J2 (true)) (J2 ((decide ((a_c.tabled.t.types.length:Int) ≤ a_i))))) (fun q1=>jp (ι:=Bool) (fun J5=>br q1 (J5 (true)) (J5 ((decide ((17:Int) < zH))))) (fun q4=>br q4 (some (false,a_c)) (cal (getI a_c.tabled.t.types a_i) fun y7=>br (decide (a_v.kind=(12:Int))) (cal (zdx a_c a_i a_v) fun y9=>some (y9.1,y9.2)) (br (!decide (a_v.kind=y7.kind)) (some (false,a_c)) (br (decide (y7.kind=(1:Int))) (cal (zbN a_v (1:Int)) fun y10=>jp (ι:=Bool) (fun J12=>br y10 (jp (ι:=Bool) (fun J15=>br (decide (a_v.n=(0:Int))) (J15 (true)) (J15 ((decide (a_v.n=(1:Int)))))) (fun q14=>J12 (q14))) (J12 (false))) (fun q11=>some (q11,a_c))) (br (decide (y7.kind=(2:Int))) (cal (zbN a_v (1:Int)) fun y17=>jp (ι:=Bool) (fun J19=>br y17 (jp (ι:=Bool) (fun J22=>br y7.con.more (J22 (true)) (cal (zcV y7.con a_v.n) fun y24=>J22 (y24))) (fun q21=>J19 (q21))) (J19 (false))) (fun q18=>some (q18,a_c))) (br (decide (y7.kind=(3:Int))) (cal (zbN a_v (1:Int)) fun y25=>jp (ι:=Bool) (fun J27=>br y25 (cal (zfi y7 a_v.n) fun y29=>J27 ((decide ((0:Int) ≤ y29)))) (J27 (false))) (fun q26=>some (q26,a_c))) (br (decide (y7.kind=(4:Int))) (cal (zbN a_v (0:Int)) fun y30=>some (y30,a_c)) (jp (ι:=Bool) (fun J32=>br (decide (y7.kind=(5:Int))) (J32 ((decide (y7.kind=(5:Int))))) (J32 ((decide (y7.kind=(6:Int)))))) (fun q31=>br q31 (cal (zcR a_c y7 a_v) fun y33=>some (y33.1,y33.2)) (br (decide (y7.kind=(10:Int))) (cal (zaf a_c y7 a_v zH) fun y34=>some (y34.1,y34.2)) (br (decide (y7.kind=(9:Int))) (cal (zbN a_v (5:Int)) fun y35=>jp (ι:=Bool) (fun J37=>br y35 (J37 ((decide ((0:Int) ≤ a_v.n)))) (J37 (false))) (fun q36=>jp (ι:=Bool) (fun J40=>br q36 (J40 ((decide (a_v.n < (y7.fields.length:Int))))) (J40 (false))) (fun q39=>jp (ι:=Bool) (fun J43=>br q39 (J43 ((decide ((a_v.l.length:Int)=(1:Int))))) (J43 (false))) (fun q42=>jp (ι:=Bool × GChk) (fun J46=>br q42 (cal (getI y7.fields a_v.n) fun y48=>cal (getI a_v.l (0:Int)) fun y49=>ck ((zH + (1:Int))) <| cal (zaa a_c y48.ty y49 (zH + (1:Int))) fun y51=>J46 (y51.1,y51.2)) (J46 (false,a_c))) (fun q45=>some (q45.1,q45.2)))))) (jp (ι:=Bool) (fun J53=>br (decide (y7.kind=(7:Int))) (J53 ((decide (y7.kind=(7:Int))))) (J53 ((decide (y7.kind=(8:Int)))))) (fun q52=>br q52 (cal (z6 a_c a_i a_v zH) fun y54=>some (y54.1,y54.2)) (some (false,a_c))))))))))))))))
def zcc (zV:Val→GChk→GTyp→Int→Option (Bool × GChk)) (zaa:GChk→Int→Val→Int→Option (Bool × GChk)) (zaf:GChk→GTyp→Val→Int→Option (Bool × GChk)) (zC:(List Val)→GChk→GTyp→Int→Option (Bool × GChk)) (zF:(List Val)→GChk→GTyp→Int→Option (Int × GChk)) (z6:GChk→Int→Val→Int→Option (Bool × GChk)) (a_c:GChk) (a_x:GTyp) (a_v:Val) (zH:Int):Option (Bool × GChk) :=
  cal (zbN a_v (4:Int)) fun y1=>jp (ι:=Bool) (fun J3=>br y1 (jp (ι:=Bool) (fun J6=>br a_x.con.more (J6 (true)) (cal (zcV a_x.con (a_v.l.length:Int)) fun y8=>J6 (y8))) (fun q5=>J3 (q5))) (J3 (false))) (fun q2=>jp (ι:=Bool × GChk) (fun J10=>br q2 (cal (zC a_v.l a_c a_x zH) fun y12=>J10 ((!y12.1),y12.2)) (J10 (false,a_c))) (fun q9=>some (q9.1,q9.2)))
def zaK (zV:Val→GChk→GTyp→Int→Option (Bool × GChk)) (zaa:GChk→Int→Val→Int→Option (Bool × GChk)) (zaf:GChk→GTyp→Val→Int→Option (Bool × GChk)) (zC:(List Val)→GChk→GTyp→Int→Option (Bool × GChk)) (zF:(List Val)→GChk→GTyp→Int→Option (Int × GChk)) (z6:GChk→Int→Val→Int→Option (Bool × GChk)) (a_s:(List Val)) (zce:GChk) (zcL:GTyp) (zfJ:Int):Option (Bool × GChk) :=
  cal (zF a_s zce zcL zfJ) fun y1=>some ((decide ((0:Int) ≤ y1.1)),y1.2)
def zaP (zV:Val→GChk→GTyp→Int→Option (Bool × GChk)) (zaa:GChk→Int→Val→Int→Option (Bool × GChk)) (zaf:GChk→GTyp→Val→Int→Option (Bool × GChk)) (zC:(List Val)→GChk→GTyp→Int→Option (Bool × GChk)) (zF:(List Val)→GChk→GTyp→Int→Option (Int × GChk)) (z6:GChk→Int→Val→Int→Option (Bool × GChk)) (a_s:(List Val)) (zce:GChk) (zcL:GTyp) (zfJ:Int):Option (Int × GChk) :=
  lp (ι:=Int × GChk) (fun L2 q1=>br (decide (q1.1 < (a_s.length:Int))) (cal (getI a_s q1.1) fun y6=>cal (zV y6 q1.2 zcL zfJ) fun y7=>br y7.1 (some (q1.1,y7.2)) (ck ((q1.1 + (1:Int))) <| L2 ((q1.1 + (1:Int)),y7.2))) (some ((-1:Int),q1.2))) (((0:Int),zce))
def zbV (zV:Val→GChk→GTyp→Int→Option (Bool × GChk)) (zaa:GChk→Int→Val→Int→Option (Bool × GChk)) (zaf:GChk→GTyp→Val→Int→Option (Bool × GChk)) (zC:(List Val)→GChk→GTyp→Int→Option (Bool × GChk)) (zF:(List Val)→GChk→GTyp→Int→Option (Int × GChk)) (z6:GChk→Int→Val→Int→Option (Bool × GChk)) (a_c:GChk) (a_i:Int) (a_v:Val) (zH:Int):Option (Bool × GChk) :=
  cal (getI a_c.tabled.t.types a_i) fun y1=>cal (zbN a_v (12:Int)) fun y3=>jp (ι:=Bool) (fun J5=>br (!y3) (J5 (true)) (J5 ((!decide ((a_v.l.length:Int)=(y1.fields.length:Int)))))) (fun q4=>jp (ι:=Bool × GChk) (fun J8=>br q4 (J8 (true,a_c)) (cal (zdj a_c a_i a_v) fun y10=>J8 ((!y10.1),y10.2))) (fun q7=>br q7.1 (some (false,q7.2)) (lp (ι:=Int × GChk) (fun L12 q11=>br (decide (q11.1 < (y1.fields.length:Int))) (jp (ι:=GChk) (fun J36=>cal (getI y1.fields q11.1) fun y37=>cal (getI a_v.l q11.1) fun y39=>br (decide (y39.kind=(0:Int))) (cal (zd4 y39) fun y41=>jp (ι:=Bool) (fun J43=>br (!y41) (J43 (true)) (cal (zeK y1 q11.1) fun y45=>J43 ((!y45)))) (fun q42=>br q42 (some (false,q11.2)) (J36 (q11.2)))) (ck ((zH + (1:Int))) <| cal (zaa q11.2 y37.ty y39 (zH + (1:Int))) fun y47=>jp (ι:=Bool) (fun J49=>br (!y47.1) (J49 (true)) (jp (ι:=Bool) (fun J52=>br y37.has (cal (zfn fuel y39 y37.dflt) fun y54=>J52 (y54)) (J52 (false))) (fun q51=>J49 (q51)))) (fun q48=>br q48 (some (false,y47.2)) (J36 (y47.2))))) (fun q35=>ck ((q11.1 + (1:Int))) <| L12 ((q11.1 + (1:Int)),q35))) (cal (zcj q11.2 a_i a_v) fun y56=>some (y56.1,y56.2))) (((0:Int),q7.2)))))
def zaY:Nat→(Val→GChk→GTyp→Int→Option (Bool × GChk)) × (GChk→Int→Val→Int→Option (Bool × GChk)) × (GChk→GTyp→Val→Int→Option (Bool × GChk)) × ((List Val)→GChk→GTyp→Int→Option (Bool × GChk)) × ((List Val)→GChk→GTyp→Int→Option (Int × GChk)) × (GChk→Int→Val→Int→Option (Bool × GChk))
  | 0=>(fun _ _ _ _=>none,fun _ _ _ _=>none,fun _ _ _ _=>none,fun _ _ _ _=>none,fun _ _ _ _=>none,fun _ _ _ _=>none)
  | n + 1=>let p:=zaY n;(zbR p.1 p.2.1 p.2.2.1 p.2.2.2.1 p.2.2.2.2.1 p.2.2.2.2.2,zcf p.1 p.2.1 p.2.2.1 p.2.2.2.1 p.2.2.2.2.1 p.2.2.2.2.2,zcc p.1 p.2.1 p.2.2.1 p.2.2.2.1 p.2.2.2.2.1 p.2.2.2.2.2,zaK p.1 p.2.1 p.2.2.1 p.2.2.2.1 p.2.2.2.2.1 p.2.2.2.2.2,zaP p.1 p.2.1 p.2.2.1 p.2.2.2.1 p.2.2.2.2.1 p.2.2.2.2.2,zbV p.1 p.2.1 p.2.2.1 p.2.2.2.1 p.2.2.2.2.1 p.2.2.2.2.2)
def zbo (n:Nat):Val→GChk→GTyp→Int→Option (Bool × GChk):=(zaY n).1
def za5 (n:Nat):GChk→Int→Val→Int→Option (Bool × GChk):=(zaY n).2.1
def zbL (n:Nat):GChk→GTyp→Val→Int→Option (Bool × GChk):=(zaY n).2.2.1
def zaw (n:Nat):(List Val)→GChk→GTyp→Int→Option (Bool × GChk):=(zaY n).2.2.2.1
def zaA (n:Nat):(List Val)→GChk→GTyp→Int→Option (Int × GChk):=(zaY n).2.2.2.2.1
def zby (n:Nat):GChk→Int→Val→Int→Option (Bool × GChk):=(zaY n).2.2.2.2.2

def zed (zf0:Val→Option (Int)) (a_v:Val):Option (Int) :=
  lp (ι:=Int × Int) (fun L2 q1=>br (decide (q1.2 < (a_v.l.length:Int))) (cal (getI a_v.l q1.2) fun y8=>cal (zf0 y8) fun y10=>ck ((q1.1 + y10)) <| ck ((q1.2 + (1:Int))) <| L2 ((q1.1 + y10),(q1.2 + (1:Int)))) (some (q1.1))) (((1:Int),(0:Int)))
def zh6:Nat→(Val→Option (Int))
  | 0=>(fun _=>none)
  | n + 1=>let p:=zh6 n;(zed p)
def zdP (n:Nat):Val→Option (Int):=(zh6 n)

def zdk (a_t:GTab) (a_i:Int) (a_v:Val):Option (Bool) :=
  cal (za5 fuel (GChk.mk (GTbd.mk a_t) false) a_i a_v (1:Int)) fun y2=>jp (ι:=Bool) (fun J4=>br y2.1 (cal (zdP fuel a_v) fun y6=>J4 ((decide (y6 ≤ (5000:Int))))) (J4 (false))) (fun q3=>some (q3))

def zdG :Option (Bool) :=
  cal (zb4 (Str.mk [77,32,68,69,70,73,78,73,84,73,79,78,83,32,58,58,61,32,66,69,71,73,78,32,65,32,58,58,61,32,73,78,84,69,71,69,82,32,40,48,46,46,55,41,32,69,78,68])) fun y1=>jp (ι:=Bool) (fun J4=>br y1.2 (cal (zdk y1.1 (0:Int) (Val.mk (2:Int) (7:Int) ([]:(List UInt8)) ([]:(List Val)) (0:Int) ([]:(List Raw)))) fun y6=>J4 (y6)) (J4 (false))) (fun q3=>jp (ι:=Bool) (fun J8=>br q3 (cal (zdk y1.1 (0:Int) (Val.mk (2:Int) (8:Int) ([]:(List UInt8)) ([]:(List Val)) (0:Int) ([]:(List Raw)))) fun y10=>J8 ((!y10))) (J8 (false))) (fun q7=>jp (ι:=Bool) (fun J12=>br q7 (cal (zdP fuel (Val.mk (4:Int) (0:Int) ([]:(List UInt8)) ([]:(List Val)) (0:Int) ([]:(List Raw)))) fun y14=>J12 ((decide (y14=(1:Int))))) (J12 (false))) (fun q11=>some (q11))))
end Go.Proofs.Q


namespace Go.Proofs.Q
open Go.Sy
set_option maxRecDepth 4000
end Go.Proofs.Q


namespace Go.Proofs.Q
open Go.Sy
set_option maxRecDepth 4000
def zdQ (a_t:GTab) (zeo:Int):Option (Int × Bool) :=
  br (decide ((a_t.roots.length:Int)=(0:Int))) (some ((0:Int),false)) (asr (!decide ((UInt64.ofNat ((a_t.roots.length:Int) % 18446744073709551616).toNat)=0)) <| ck ((((UInt64.ofNat (zeo % 18446744073709551616).toNat) % (UInt64.ofNat ((a_t.roots.length:Int) % 18446744073709551616).toNat)).toNat:Int)) <| cal (getI a_t.roots (((UInt64.ofNat (zeo % 18446744073709551616).toNat) % (UInt64.ofNat ((a_t.roots.length:Int) % 18446744073709551616).toNat)).toNat:Int)) fun y3=>some (y3,true))

def zhg (zj4:Val→Int→Option (Bool × Int)) (a_v:Val) (zbW:Int):Option (Bool × Int) :=
  asr (!decide ((50:Int)=0)) <| ck (((a_v.b.length:Int).tdiv (50:Int))) <| ck ((zbW - (1:Int))) <| ck (((zbW - (1:Int)) - ((a_v.b.length:Int).tdiv (50:Int)))) <| ck ((((zbW - (1:Int)) - ((a_v.b.length:Int).tdiv (50:Int))) - (a_v.more.length:Int))) <| lp (ι:=Int × Int) (fun L7 q6=>jp (ι:=Bool) (fun J26=>br (decide (q6.1 < (a_v.more.length:Int))) (J26 ((decide ((0:Int) ≤ q6.2)))) (J26 (false))) (fun q25=>br q25 (cal (getI a_v.more q6.1) fun y28=>asr (!decide ((50:Int)=0)) <| ck (((y28.b.length:Int).tdiv (50:Int))) <| ck ((q6.2 - ((y28.b.length:Int).tdiv (50:Int)))) <| ck ((q6.1 + (1:Int))) <| L7 ((q6.1 + (1:Int)),(q6.2 - ((y28.b.length:Int).tdiv (50:Int))))) (br (decide (q6.2 < (0:Int))) (some (false,q6.2)) (lp (ι:=Int × Int) (fun L34 q33=>br (decide (q33.1 < (a_v.l.length:Int))) (cal (getI a_v.l q33.1) fun y38=>cal (zj4 y38 q33.2) fun y39=>br (!y39.1) (some (false,y39.2)) (ck ((q33.1 + (1:Int))) <| L34 ((q33.1 + (1:Int)),y39.2))) (some (true,q33.2))) (((0:Int),q6.2)))))) (((0:Int),(((zbW - (1:Int)) - ((a_v.b.length:Int).tdiv (50:Int))) - (a_v.more.length:Int))))
def zkV:Nat→(Val→Int→Option (Bool × Int))
  | 0=>(fun _ _=>none)
  | n + 1=>let p:=zkV n;(zhg p)
def zki (n:Nat):Val→Int→Option (Bool × Int):=(zkV n)

def zjU (a_v:Val) (zkq:Int):Option (Bool) :=
  cal (zki fuel a_v zkq) fun y2=>some (y2.1)

def zbM (a_s:(List UInt8)):Option ((List UInt8)) :=
  br a_s.isEmpty (some (([]:(List UInt8)))) (asr (Nat.ble (([]:(List UInt8)).length + a_s.length) 68719476736) <| some ((([]:(List UInt8)) ++ a_s)))

def zej (zf3:Val→Option (Val)) (a_v:Val):Option (Val) :=
  br (decide (a_v.kind=(12:Int))) (some ((Val.mk (12:Int) (0:Int) ([]:(List UInt8)) ([]:(List Val)) (0:Int) ([]:(List Raw))))) (jp (ι:=Val) (fun J3=>cal (zbM a_v.b) fun y4=>J3 ((Val.mk a_v.kind a_v.n y4 ([]:(List Val)) (0:Int) ([]:(List Raw))))) (fun q2=>lp (ι:=Int × Val) (fun L12 q11=>br (decide (q11.1 < (a_v.l.length:Int))) (cal (getI a_v.l q11.1) fun y24=>cal (zf3 y24) fun y26=>asr (Nat.ble (q11.2.l.length + ([y26]:(List Val)).length) 68719476736) <| ck ((q11.1 + (1:Int))) <| L12 ((q11.1 + (1:Int)),(Val.mk q11.2.kind q11.2.n q11.2.b (q11.2.l ++ ([y26]:(List Val))) q11.2.rule q11.2.more))) (some (q11.2))) (((0:Int),q2))))
def zia:Nat→(Val→Option (Val))
  | 0=>(fun _=>none)
  | n + 1=>let p:=zia n;(zej p)
def zeI (n:Nat):Val→Option (Val):=(zia n)

def zj2 (a_a:(List UInt8)) (a_b:(List UInt8)):Option (Bool) :=
  some ((decide ((Str.mk a_a)=(Str.mk a_b))))

def znC (a_a:Raw) (a_b:Raw):Option (Bool) :=
  jp (ι:=Bool) (fun J2=>br (decide (a_a.n=a_b.n)) (cal (zj2 a_a.b a_b.b) fun y4=>J2 (y4)) (J2 (false))) (fun q1=>some (q1))

def ze5 (a_a:(List Raw)) (a_b:(List Raw)):Option (Bool) :=
  br (!decide ((a_a.length:Int)=(a_b.length:Int))) (some (false)) (lp (ι:=Int) (fun L2 q1=>br (decide (q1 < (a_a.length:Int))) (cal (getI a_a q1) fun y7=>cal (getI a_b q1) fun y8=>cal (znC y7 y8) fun y9=>br (!y9) (some (false)) (ck ((q1 + (1:Int))) <| L2 ((q1 + (1:Int))))) (some (true))) (((0:Int))))

def zcz (zbE:(List Val)→(List Val)→Option (Bool)) (zfB:Val→Val→Option (Bool)) (a_a:(List Val)) (a_b:(List Val)):Option (Bool) :=
  br (!decide ((a_a.length:Int)=(a_b.length:Int))) (some (false)) (lp (ι:=Int) (fun L2 q1=>br (decide (q1 < (a_a.length:Int))) (cal (getI a_a q1) fun y7=>cal (getI a_b q1) fun y8=>cal (zfB y7 y8) fun y9=>br (!y9) (some (false)) (ck ((q1 + (1:Int))) <| L2 ((q1 + (1:Int))))) (some (true))) (((0:Int))))
def zhu (zbE:(List Val)→(List Val)→Option (Bool)) (zfB:Val→Val→Option (Bool)) (a_a:Val) (a_b:Val):Option (Bool) :=
  jp (ι:=Bool) (fun J2=>br (decide (a_a.kind=a_b.kind)) (J2 ((decide (a_a.n=a_b.n)))) (J2 (false))) (fun q1=>jp (ι:=Bool) (fun J5=>br q1 (cal (zj2 a_a.b a_b.b) fun y7=>J5 (y7)) (J5 (false))) (fun q4=>jp (ι:=Bool) (fun J9=>br q4 (cal (zbE a_a.l a_b.l) fun y11=>J9 (y11)) (J9 (false))) (fun q8=>jp (ι:=Bool) (fun J13=>br q8 (J13 ((decide (a_a.rule=a_b.rule)))) (J13 (false))) (fun q12=>jp (ι:=Bool) (fun J16=>br q12 (cal (ze5 a_a.more a_b.more) fun y18=>J16 (y18)) (J16 (false))) (fun q15=>some (q15))))))
def zdL:Nat→((List Val)→(List Val)→Option (Bool)) × (Val→Val→Option (Bool))
  | 0=>(fun _ _=>none,fun _ _=>none)
  | n + 1=>let p:=zdL n;(zcz p.1 p.2,zhu p.1 p.2)
def zfl (n:Nat):(List Val)→(List Val)→Option (Bool):=(zdL n).1
def zf4 (n:Nat):Val→Val→Option (Bool):=(zdL n).2

def zfL (zhT:Val→Option (Int)) (a_v:Val):Option (Int) :=
  lp (ι:=Int × Int) (fun L2 q1=>br (decide (q1.2 < (a_v.l.length:Int))) (cal (getI a_v.l q1.2) fun y7=>cal (zhT y7) fun y8=>ck ((q1.1 + y8)) <| ck ((q1.2 + (1:Int))) <| L2 ((q1.1 + y8),(q1.2 + (1:Int)))) (some (q1.1))) (((1:Int),(0:Int)))
def zjj:Nat→(Val→Option (Int))
  | 0=>(fun _=>none)
  | n + 1=>let p:=zjj n;(zfL p)
def zhk (n:Nat):Val→Option (Int):=(zjj n)

def zi3 (a_t:GTab) (a_i:Int):Option (Bool) :=
  jp (ι:=Bool) (fun J2=>br (decide ((0:Int) ≤ a_i)) (J2 ((decide (a_i < (a_t.types.length:Int))))) (J2 (false))) (fun q1=>some (q1))

def zfh (a_t:GTab) (a_i:Int):Option ((List (List Int))) :=
  cal (zi3 a_t a_i) fun y3=>br (!y3) (some (([]:(List (List Int))))) (cal (getI a_t.types a_i) fun y6=>jp (ι:=Bool) (fun J9=>br (!decide (y6.kind=(7:Int))) (J9 ((!decide (y6.kind=(8:Int))))) (J9 (false))) (fun q8=>jp (ι:=Bool) (fun J12=>br q8 (J12 ((!decide (y6.kind=(9:Int))))) (J12 (false))) (fun q11=>br q11 (some (([]:(List (List Int))))) (lp (ι:=(List (List Int)) × Int) (fun L19 q18=>br (decide (q18.2 < (y6.fields.length:Int))) (jp (ι:=(List (List Int))) (fun J50=>cal (getI y6.fields q18.2) fun y51=>jp (ι:=Bool) (fun J53=>br (!decide (y6.kind=(9:Int))) (J53 ((decide ((0:Int) < y51.group)))) (J53 (false))) (fun q52=>jp (ι:=Bool) (fun J56=>br q52 (J56 ((decide (y6.root < q18.2)))) (J56 (false))) (fun q55=>jp (ι:=Bool) (fun J59=>br q55 (ck ((q18.2 - (1:Int))) <| cal (getI y6.fields (q18.2 - (1:Int))) fun y62=>J59 ((decide (y62.group=y51.group)))) (J59 (false))) (fun q58=>br q58 (ck ((((q18.1.length:Nat):Int) - (1:Int))) <| ck ((((q18.1.length:Nat):Int) - (1:Int))) <| asr (decide (0 ≤ (((q18.1.length:Nat):Int) - (1:Int))∧(((q18.1.length:Nat):Int) - (1:Int)) < ((q18.1.length:Nat):Int))) <| asr (decide ((((q18.1.length:Nat):Int) - (1:Int)).toNat + 1=q18.1.length)) <| cal (q18.1[(((q18.1.length:Nat):Int) - (1:Int)).toNat]?) fun y67=>asr (Nat.ble (y67.length + ([q18.2]:(List Int)).length) 68719476736) <| asr (decide (0 ≤ (((q18.1.length:Nat):Int) - (1:Int))∧(((q18.1.length:Nat):Int) - (1:Int)) < ((q18.1.length:Nat):Int))) <| asr (decide ((((q18.1.length:Nat):Int) - (1:Int)).toNat + 1=q18.1.length)) <| cal (q18.1[(((q18.1.length:Nat):Int) - (1:Int)).toNat]?) fun y73=>J50 ((q18.1.set ((((q18.1.length:Nat):Int) - (1:Int)).toNat) (y67 ++ ([q18.2]:(List Int)))))) (asr (Nat.ble (q18.1.length + ([([q18.2]:(List Int))]:(List (List Int))).length) 68719476736) <| J50 ((q18.1 ++ [([q18.2]:(List Int))]))))))) (fun q49=>ck ((q18.2 + (1:Int))) <| L19 (q49,(q18.2 + (1:Int))))) (some (q18.1))) ((([]:(List (List Int))),y6.root))))))

def zdR (a_b:(List UInt8)):Option (UInt64 × Int × Int) :=
  lp (ι:=UInt64 × Int) (fun L2 q1=>br (decide (q1.2 < (a_b.length:Int))) (jp (ι:=Bool) (fun J16=>br (decide (q1.2=(0:Int))) (cal (getI a_b (0:Int)) fun y18=>J16 ((decide (y18=(128:UInt8))))) (J16 (false))) (fun q15=>jp (ι:=Bool) (fun J20=>br q15 (J20 (true)) (J20 ((decide ((144115188075855872:UInt64) ≤ q1.1))))) (fun q19=>br q19 (some ((0:UInt64),(0:Int),(4:Int))) (asr (Nat.ble (7:UInt64).toNat 64) <| cal (getI a_b q1.2) fun y23=>cal (getI a_b q1.2) fun y24=>br (decide (y24 < (128:UInt8))) (ck ((q1.2 + (1:Int))) <| some (((shl64 q1.1 (7:UInt64).toNat) ||| (y23 &&& (127:UInt8)).toUInt64),(q1.2 + (1:Int)),(0:Int))) (ck ((q1.2 + (1:Int))) <| L2 (((shl64 q1.1 (7:UInt64).toNat) ||| (y23 &&& (127:UInt8)).toUInt64),(q1.2 + (1:Int)))))))) (some ((0:UInt64),(0:Int),(3:Int)))) (((0:UInt64),(0:Int)))

def zeY (a_v:UInt64):Option ((List UInt8)) :=
  lp (ι:=UInt64 × (List UInt8)) (fun L3 q2=>br (decide ((255:UInt64) < q2.1)) (asr (Nat.ble (([(q2.1 >>> (8:UInt64)).toUInt8]:(List UInt8)).length + q2.2.length) 68719476736) <| L3 ((q2.1 >>> (8:UInt64)),(([(q2.1 >>> (8:UInt64)).toUInt8]:(List UInt8)) ++ q2.2))) (some (q2.2))) ((a_v,([a_v.toUInt8]:(List UInt8))))

def zc8 (a_b:(List UInt8)):Option (UInt64 × Int) :=
  br (decide ((a_b.length:Int)=(0:Int))) (some ((0:UInt64),(3:Int))) (br (decide ((8:Int) < (a_b.length:Int))) (some ((0:UInt64),(4:Int))) (lp (ι:=UInt64 × Int) (fun L2 q1=>br (decide (q1.2 < (a_b.length:Int))) (asr (Nat.ble (8:UInt64).toNat 64) <| cal (getI a_b q1.2) fun y9=>ck ((q1.2 + (1:Int))) <| L2 (((shl64 q1.1 (8:UInt64).toNat) ||| y9.toUInt64),(q1.2 + (1:Int)))) (cal (zeY q1.1) fun y11=>cal (zj2 y11 a_b) fun y12=>br (!y12) (some ((0:UInt64),(4:Int))) (some (q1.1,(0:Int))))) (((0:UInt64),(0:Int)))))

def zeN (a_b:(List UInt8)):Option (Tag × Bool × Int × Int × Int) :=
  br (decide ((a_b.length:Int)=(0:Int))) (some ((Tag.mk (0:Int) (0:Int)),false,(0:Int),(0:Int),(3:Int))) (cal (getI a_b (0:Int)) fun y2=>asr (Nat.ble (6:UInt64).toNat 8) <| cal (getI a_b (0:Int)) fun y4=>cal (getI a_b (0:Int)) fun y6=>jp (ι:=Int × Tag) (fun J8=>br (decide (((y4 &&& (31:UInt8)).toNat:Int)=(31:Int))) (asr (decide (0 ≤ (1:Int)∧(1:Int) ≤ (a_b.length:Int)∧(a_b.length:Int) ≤ (a_b.length:Int))) <| cal (zdR ((a_b.take ((a_b.length:Int)).toNat).drop ((1:Int)).toNat)) fun y10=>br (!decide (y10.2.2=(0:Int))) (some ((Tag.mk (0:Int) (0:Int)),false,(0:Int),(0:Int),y10.2.2)) (jp (ι:=Bool) (fun J12=>br (decide (y10.1 < (31:UInt64))) (J12 (true)) (J12 ((decide ((268435456:UInt64) < y10.1))))) (fun q11=>br q11 (some ((Tag.mk (0:Int) (0:Int)),false,(0:Int),(0:Int),(4:Int))) (ck ((y10.1.toNat:Int)) <| ck (((1:Int) + y10.2.1)) <| J8 (((1:Int) + y10.2.1),(Tag.mk ((shr8 y2 (6:UInt64).toNat).toNat:Int) (y10.1.toNat:Int))))))) (J8 ((1:Int),(Tag.mk ((shr8 y2 (6:UInt64).toNat).toNat:Int) ((y4 &&& (31:UInt8)).toNat:Int))))) (fun q7=>br (decide ((a_b.length:Int) ≤ q7.1)) (some ((Tag.mk (0:Int) (0:Int)),false,(0:Int),(0:Int),(3:Int))) (cal (getI a_b q7.1) fun y16=>ck ((q7.1 + (1:Int))) <| jp (ι:=Int × Int) (fun J19=>br (decide ((128:Int) ≤ (y16.toNat:Int))) (ck (((y16.toNat:Int) - (128:Int))) <| jp (ι:=Bool) (fun J22=>br (decide (((y16.toNat:Int) - (128:Int))=(0:Int))) (J22 (true)) (J22 ((decide ((8:Int) < ((y16.toNat:Int) - (128:Int))))))) (fun q21=>br q21 (some ((Tag.mk (0:Int) (0:Int)),false,(0:Int),(0:Int),(4:Int))) (ck (((a_b.length:Int) - (q7.1 + (1:Int)))) <| br (decide (((a_b.length:Int) - (q7.1 + (1:Int))) < ((y16.toNat:Int) - (128:Int)))) (some ((Tag.mk (0:Int) (0:Int)),false,(0:Int),(0:Int),(3:Int))) (ck (((q7.1 + (1:Int)) + ((y16.toNat:Int) - (128:Int)))) <| asr (decide (0 ≤ (q7.1 + (1:Int))∧(q7.1 + (1:Int)) ≤ ((q7.1 + (1:Int)) + ((y16.toNat:Int) - (128:Int)))∧((q7.1 + (1:Int)) + ((y16.toNat:Int) - (128:Int))) ≤ (a_b.length:Int))) <| cal (zc8 ((a_b.take (((q7.1 + (1:Int)) + ((y16.toNat:Int) - (128:Int)))).toNat).drop ((q7.1 + (1:Int))).toNat)) fun y27=>jp (ι:=Bool) (fun J29=>br (!decide (y27.2=(0:Int))) (J29 (true)) (J29 ((decide (y27.1 < (128:UInt64)))))) (fun q28=>jp (ι:=Bool) (fun J32=>br q28 (J32 (true)) (J32 ((decide ((2147483647:UInt64) < y27.1))))) (fun q31=>br q31 (some ((Tag.mk (0:Int) (0:Int)),false,(0:Int),(0:Int),(4:Int))) (ck ((y27.1.toNat:Int)) <| ck (((q7.1 + (1:Int)) + ((y16.toNat:Int) - (128:Int)))) <| J19 (((q7.1 + (1:Int)) + ((y16.toNat:Int) - (128:Int))),(y27.1.toNat:Int))))))))) (J19 ((q7.1 + (1:Int)),(y16.toNat:Int)))) (fun q18=>some (q7.2,(!decide ((y6 &&& (32:UInt8))=(0:UInt8))),q18.2,q18.1,(0:Int))))))

def zgH (a_b:(List UInt8)):Option ((List UInt8)) :=
  asr (Nat.ble (([]:(List UInt8)).length + a_b.length) 68719476736) <| some ((([]:(List UInt8)) ++ a_b))

def ziL (a_b:(List UInt8)):Option (Tag × Bool × (List UInt8) × Int × Int) :=
  cal (zeN a_b) fun y2=>br (!decide (y2.2.2.2.2=(0:Int))) (some ((Tag.mk (0:Int) (0:Int)),false,([]:(List UInt8)),(0:Int),y2.2.2.2.2)) (ck (((a_b.length:Int) - y2.2.2.2.1)) <| br (decide (((a_b.length:Int) - y2.2.2.2.1) < y2.2.2.1)) (some ((Tag.mk (0:Int) (0:Int)),false,([]:(List UInt8)),(0:Int),(3:Int))) (ck ((y2.2.2.2.1 + y2.2.2.1)) <| asr (decide (0 ≤ y2.2.2.2.1∧y2.2.2.2.1 ≤ (y2.2.2.2.1 + y2.2.2.1)∧(y2.2.2.2.1 + y2.2.2.1) ≤ (a_b.length:Int))) <| ck ((y2.2.2.2.1 + y2.2.2.1)) <| cal (zgH ((a_b.take ((y2.2.2.2.1 + y2.2.2.1)).toNat).drop (y2.2.2.2.1).toNat)) fun y8=>some (y2.1,y2.2.1,y8,(y2.2.2.2.1 + y2.2.2.1),(0:Int))))

def zdO (zfx:(List GTyp)→Int→Option ((List Tag))) (a_l:(List GTyp)) (a_i:Int):Option ((List Tag)) :=
  cal (getI a_l a_i) fun y1=>br (decide ((0:Int) < (y1.tags.length:Int))) (cal (getI a_l a_i) fun y2=>asr (decide (0 ≤ (0:Int)∧(0:Int) ≤ (1:Int)∧(1:Int) ≤ (y2.tags.length:Int))) <| some (((y2.tags.take ((1:Int)).toNat).drop (0:Int).toNat))) (lp (ι:=(List Tag) × Int) (fun L5 q4=>cal (getI a_l a_i) fun y13=>br (decide (q4.2 < (y13.fields.length:Int))) (cal (getI a_l a_i) fun y14=>cal (getI y14.fields q4.2) fun y15=>cal (zfx a_l y15.ty) fun y16=>asr (Nat.ble (q4.1.length + y16.length) 68719476736) <| ck ((q4.2 + (1:Int))) <| L5 ((q4.1 ++ y16),(q4.2 + (1:Int)))) (some (q4.1))) ((([]:(List Tag)),(0:Int))))
def zhe:Nat→((List GTyp)→Int→Option ((List Tag)))
  | 0=>(fun _ _=>none)
  | n + 1=>let p:=zhe n;(zdO p)
def zeU (n:Nat):(List GTyp)→Int→Option ((List Tag)):=(zhe n)

def zgn (a_t:GTab) (a_i:Int):Option ((List Tag)) :=
  jp (ι:=Bool) (fun J2=>br (decide (a_i < (0:Int))) (J2 (true)) (J2 ((decide ((a_t.types.length:Int) ≤ a_i))))) (fun q1=>br q1 (some (([]:(List Tag)))) (cal (zeU fuel a_t.types a_i) fun y4=>asr (Nat.ble (([]:(List Tag)).length + y4.length) 68719476736) <| some ((([]:(List Tag)) ++ y4))))

def zfu (a_t:GTab) (a_i:Int) (a_b:(List UInt8)):Option (Tag × Bool) :=
  cal (ziL a_b) fun y2=>jp (ι:=Bool) (fun J5=>br (!decide (y2.2.2.2.2=(0:Int))) (J5 (true)) (J5 ((!decide (y2.2.2.2.1=(a_b.length:Int)))))) (fun q4=>br q4 (some (y2.1,false)) (cal (getI a_t.types a_i) fun y7=>jp (ι:=Int) (fun J9=>br (decide (y7.kind=(7:Int))) (cal (getI a_t.types a_i) fun y10=>cal (zhn y10) fun y11=>J9 (y11)) (J9 ((0:Int)))) (fun q8=>lp (ι:=Int) (fun L13 q12=>cal (getI a_t.types a_i) fun y20=>br (decide (q12 < (y20.fields.length:Int))) (cal (getI a_t.types a_i) fun y21=>cal (getI y21.fields q12) fun y22=>cal (zgn a_t y22.ty) fun y23=>cal (zdV y23 y2.1) fun y24=>br y24 (some (y2.1,false)) (ck ((q12 + (1:Int))) <| L13 ((q12 + (1:Int))))) (some (y2.1,true))) ((q8)))))

def zfF (a_x:GTyp) (a_n_:Int):Option (Int) :=
  lp (ι:=Int) (fun L2 q1=>br (decide (q1 < (a_x.items.length:Int))) (cal (getI a_x.items q1) fun y5=>br (decide (y5.number=a_n_)) (some (q1)) (ck ((q1 + (1:Int))) <| L2 ((q1 + (1:Int))))) (some ((-1:Int)))) (((0:Int)))

def zg5 (a_b:(List UInt8)):Option (Bool) :=
  jp (ι:=Bool) (fun J2=>br (decide ((1:Int) ≤ (a_b.length:Int))) (J2 ((decide ((a_b.length:Int) ≤ (70000:Int))))) (J2 (false))) (fun q1=>some (q1))

def zfN (a_t:GTab) (a_i:Int) (a_v:Val):Option (Bool) :=
  cal (getI a_t.types a_i) fun y1=>jp (ι:=Bool) (fun J4=>br (!y1.more) (J4 (true)) (jp (ι:=Bool) (fun J7=>br (!decide (y1.kind=(9:Int))) (J7 ((!decide (y1.kind=(3:Int))))) (J7 (false))) (fun q6=>J4 (q6)))) (fun q3=>jp (ι:=Bool) (fun J10=>br q3 (J10 (true)) (J10 ((decide ((0:Int) < (a_v.l.length:Int)))))) (fun q9=>jp (ι:=Bool) (fun J13=>br q9 (J13 (true)) (J13 ((decide ((0:Int) < (a_v.more.length:Int)))))) (fun q12=>br q12 (some (false)) (ck (((y1.items.length:Int) - y1.root)) <| jp (ι:=Int) (fun J17=>br (decide (y1.kind=(9:Int))) (cal (zfh a_t a_i) fun y18=>J17 ((y18.length:Int))) (J17 (((y1.items.length:Int) - y1.root)))) (fun q16=>jp (ι:=Bool) (fun J20=>br (decide (a_v.rule=(1:Int))) (J20 ((decide (y1.kind=(9:Int))))) (J20 (false))) (fun q19=>br q19 (cal (zfu a_t a_i a_v.b) fun y22=>jp (ι:=Bool) (fun J25=>br y22.2 (J25 ((decide (a_v.n=(0:Int))))) (J25 (false))) (fun q24=>some (q24))) (br (decide (a_v.rule=(1:Int))) (jp (ι:=Bool) (fun J28=>br (decide ((a_v.b.length:Int)=(0:Int))) (cal (zfF y1 a_v.n) fun y30=>J28 ((decide (y30 < (0:Int))))) (J28 (false))) (fun q27=>some (q27))) (br (decide (a_v.rule=(2:Int))) (jp (ι:=Bool) (fun J32=>br (decide (q16 ≤ a_v.n)) (J32 ((decide (a_v.n < (1000:Int))))) (J32 (false))) (fun q31=>jp (ι:=Bool) (fun J35=>br q31 (jp (ι:=Bool) (fun J38=>br (decide (y1.kind=(9:Int))) (cal (zg5 a_v.b) fun y40=>J38 (y40)) (J38 (false))) (fun q37=>jp (ι:=Bool) (fun J42=>br q37 (J42 (true)) (jp (ι:=Bool) (fun J45=>br (decide (y1.kind=(3:Int))) (J45 ((decide ((a_v.b.length:Int)=(0:Int))))) (J45 (false))) (fun q44=>J42 (q44)))) (fun q41=>J35 (q41)))) (J35 (false))) (fun q34=>some (q34)))) (some (false))))))))))

def zcI (a_v:Val) (a_n_:Bool) (a_b:Bool) (a_l:Bool) (zlW:Bool):Option (Bool) :=
  jp (ι:=Bool) (fun J2=>br a_n_ (J2 (true)) (J2 ((decide (a_v.n=(0:Int)))))) (fun q1=>jp (ι:=Bool) (fun J5=>br q1 (jp (ι:=Bool) (fun J8=>br a_b (J8 (true)) (J8 ((decide ((a_v.b.length:Int)=(0:Int)))))) (fun q7=>J5 (q7))) (J5 (false))) (fun q4=>jp (ι:=Bool) (fun J11=>br q4 (jp (ι:=Bool) (fun J14=>br a_l (J14 (true)) (J14 ((decide ((a_v.l.length:Int)=(0:Int)))))) (fun q13=>J11 (q13))) (J11 (false))) (fun q10=>jp (ι:=Bool) (fun J17=>br q10 (jp (ι:=Bool) (fun J20=>br zlW (J20 (true)) (jp (ι:=Bool) (fun J23=>br (decide (a_v.rule=(0:Int))) (J23 ((decide ((a_v.more.length:Int)=(0:Int))))) (J23 (false))) (fun q22=>J20 (q22)))) (fun q19=>J17 (q19))) (J17 (false))) (fun q16=>some (q16)))))

def zio (a_a:Tag) (a_b:Tag):Option (Bool) :=
  jp (ι:=Bool) (fun J2=>br (decide (a_a.cls < a_b.cls)) (J2 (true)) (jp (ι:=Bool) (fun J5=>br (decide (a_a.cls=a_b.cls)) (J5 ((decide (a_a.num < a_b.num)))) (J5 (false))) (fun q4=>J2 (q4)))) (fun q1=>some (q1))

def zgl (a_t:GTab) (a_i:Int) (a_v:Val):Option (Bool) :=
  br (decide ((a_v.more.length:Int)=(0:Int))) (some ((decide (a_v.rule=(0:Int))))) (cal (getI a_t.types a_i) fun y1=>jp (ι:=Bool) (fun J3=>br (!y1.more) (J3 (true)) (jp (ι:=Bool) (fun J6=>br (!decide (a_v.rule=(1:Int))) (J6 ((!decide (a_v.rule=(2:Int))))) (J6 (false))) (fun q5=>J3 (q5)))) (fun q2=>br q2 (some (false)) (lp (ι:=Int × Tag) (fun L10 q9=>br (decide (q9.1 < (a_v.more.length:Int))) (jp (ι:=Tag) (fun J46=>cal (getI a_v.more q9.1) fun y47=>br (decide (a_v.rule=(2:Int))) (cal (zfh a_t a_i) fun y49=>jp (ι:=Int) (fun J51=>br (decide ((0:Int) < q9.1)) (ck ((q9.1 - (1:Int))) <| cal (getI a_v.more (q9.1 - (1:Int))) fun y53=>ck ((y53.n + (1:Int))) <| J51 ((y53.n + (1:Int)))) (J51 ((y49.length:Int)))) (fun q50=>jp (ι:=Bool) (fun J56=>br (decide (y47.n < q50)) (J56 (true)) (J56 ((decide ((1000:Int) ≤ y47.n))))) (fun q55=>jp (ι:=Bool) (fun J59=>br q55 (J59 (true)) (cal (zg5 y47.b) fun y61=>J59 ((!y61)))) (fun q58=>br q58 (some (false)) (J46 (q9.2)))))) (cal (zfu a_t a_i y47.b) fun y62=>jp (ι:=Bool) (fun J65=>br (!y62.2) (J65 (true)) (J65 ((!decide (y47.n=(0:Int)))))) (fun q64=>jp (ι:=Bool) (fun J68=>br q64 (J68 (true)) (cal (getI a_t.types a_i) fun y70=>jp (ι:=Bool) (fun J72=>br (decide (y70.kind=(8:Int))) (J72 ((decide ((0:Int) < q9.1)))) (J72 (false))) (fun q71=>jp (ι:=Bool) (fun J75=>br q71 (cal (zio q9.2 y62.1) fun y77=>J75 ((!y77))) (J75 (false))) (fun q74=>J68 (q74))))) (fun q67=>br q67 (some (false)) (J46 (y62.1)))))) (fun q45=>ck ((q9.1 + (1:Int))) <| L10 ((q9.1 + (1:Int)),q45))) (some (true))) (((0:Int),Tag.zero)))))

def zd2 (zde:GTab→Int→Val→Int→Option (Bool)) (zds:GTab→Int→Val→Int→Option (Bool)) (a_t:GTab) (a_i:Int) (a_v:Val) (zH:Int):Option (Bool) :=
  cal (getI a_t.types a_i) fun y1=>cal (zcI a_v false false true true) fun y3=>jp (ι:=Bool) (fun J5=>br (!y3) (J5 (true)) (J5 ((!decide ((a_v.l.length:Int)=(y1.fields.length:Int)))))) (fun q4=>jp (ι:=Bool) (fun J8=>br q4 (J8 (true)) (cal (zgl a_t a_i a_v) fun y10=>J8 ((!y10)))) (fun q7=>br q7 (some (false)) (lp (ι:=Int) (fun L12 q11=>br (decide (q11 < (y1.fields.length:Int))) (jp (ι:=Unit) (fun J164=>cal (getI y1.fields q11) fun y165=>jp (ι:=Bool) (fun J168=>br y165.optional (J168 (true)) (J168 (y165.has))) (fun q167=>cal (getI a_v.l q11) fun y170=>br (decide (y170.kind=(0:Int))) (cal (getI a_v.l q11) fun y171=>cal (zf4 fuel y171 (Val.mk (0:Int) (0:Int) ([]:(List UInt8)) ([]:(List Val)) (0:Int) ([]:(List Raw)))) fun y172=>jp (ι:=Bool) (fun J174=>br (!y172) (J174 (true)) (jp (ι:=Bool) (fun J177=>br (!q167) (J177 ((decide (q11 < y1.root)))) (J177 (false))) (fun q176=>J174 (q176)))) (fun q173=>br q173 (some (false)) (J164 ()))) (cal (getI a_v.l q11) fun y179=>ck ((zH + (1:Int))) <| cal (zds a_t y165.ty y179 (zH + (1:Int))) fun y181=>jp (ι:=Bool) (fun J183=>br (!y181) (J183 (true)) (jp (ι:=Bool) (fun J186=>br y165.has (cal (getI a_v.l q11) fun y188=>cal (zf4 fuel y188 y165.dflt) fun y189=>J186 (y189)) (J186 (false))) (fun q185=>J183 (q185)))) (fun q182=>br q182 (some (false)) (J164 ()))))) (fun q163=>ck ((q11 + (1:Int))) <| L12 ((q11 + (1:Int))))) (cal (zfh a_t a_i) fun y191=>lp (ι:=Int) (fun L193 q192=>br (decide (q192 < (y191.length:Int))) (lp (ι:=Bool × Bool × Int) (fun L254 q253=>cal (getI y191 q192) fun y280=>br (decide (q253.2.2 < (y280.length:Int))) (cal (getI y191 q192) fun y281=>cal (getI y281 q253.2.2) fun y282=>cal (getI y1.fields y282) fun y283=>cal (getI y191 q192) fun y285=>cal (getI y285 q253.2.2) fun y286=>cal (getI a_v.l y286) fun y287=>jp (ι:=Bool) (fun J289=>br q253.1 (J289 (true)) (J289 ((!decide (y287.kind=(0:Int)))))) (fun q288=>jp (ι:=Bool) (fun J292=>br q253.2.1 (J292 (true)) (jp (ι:=Bool) (fun J295=>br (!(!decide (y287.kind=(0:Int)))) (J295 ((!y283.optional))) (J295 (false))) (fun q294=>jp (ι:=Bool) (fun J298=>br q294 (J298 ((!y283.has))) (J298 (false))) (fun q297=>J292 (q297))))) (fun q291=>ck ((q253.2.2 + (1:Int))) <| L254 (q288,q291,(q253.2.2 + (1:Int)))))) (cal (getI y191 q192) fun y301=>cal (getI y301 (0:Int)) fun y302=>cal (getI y1.fields y302) fun y303=>jp (ι:=Bool) (fun J305=>br (decide ((0:Int) < y303.group)) (J305 (q253.1)) (J305 (false))) (fun q304=>jp (ι:=Bool) (fun J308=>br q304 (J308 (q253.2.1)) (J308 (false))) (fun q307=>br q307 (some (false)) (ck ((q192 + (1:Int))) <| L193 ((q192 + (1:Int)))))))) ((false,false,(0:Int)))) (some (true))) (((0:Int))))) (((0:Int))))))
def zew (zde:GTab→Int→Val→Int→Option (Bool)) (zds:GTab→Int→Val→Int→Option (Bool)) (a_t:GTab) (a_i:Int) (a_v:Val) (zH:Int):Option (Bool) :=
  jp (ι:=Bool) (fun J2=>br (decide (a_i < (0:Int))) (J2 (true)) (J2 ((decide ((a_t.types.length:Int) ≤ a_i))))) (fun q1=>jp (ι:=Bool) (fun J5=>br q1 (J5 (true)) (J5 ((decide ((17:Int) < zH))))) (fun q4=>br q4 (some (false)) (cal (getI a_t.types a_i) fun y7=>br (decide (a_v.kind=(12:Int))) (cal (zfN a_t a_i a_v) fun y9=>some (y9)) (br (!decide (a_v.kind=y7.kind)) (some (false)) (br (decide (y7.kind=(1:Int))) (cal (zcI a_v true false false false) fun y10=>jp (ι:=Bool) (fun J12=>br y10 (jp (ι:=Bool) (fun J15=>br (decide (a_v.n=(0:Int))) (J15 (true)) (J15 ((decide (a_v.n=(1:Int)))))) (fun q14=>J12 (q14))) (J12 (false))) (fun q11=>some (q11))) (br (decide (y7.kind=(2:Int))) (cal (zcI a_v true false false false) fun y17=>jp (ι:=Bool) (fun J19=>br y17 (jp (ι:=Bool) (fun J22=>br y7.con.more (J22 (true)) (cal (zcB y7.con a_v.n) fun y24=>J22 (y24))) (fun q21=>J19 (q21))) (J19 (false))) (fun q18=>some (q18))) (br (decide (y7.kind=(3:Int))) (cal (zcI a_v true false false false) fun y25=>jp (ι:=Bool) (fun J27=>br y25 (cal (zfF y7 a_v.n) fun y29=>J27 ((decide ((0:Int) ≤ y29)))) (J27 (false))) (fun q26=>some (q26))) (br (decide (y7.kind=(4:Int))) (cal (zcI a_v false false false false) fun y30=>some (y30)) (jp (ι:=Bool) (fun J32=>br (decide (y7.kind=(5:Int))) (J32 ((decide (y7.kind=(5:Int))))) (J32 ((decide (y7.kind=(6:Int)))))) (fun q31=>br q31 (cal (zcI a_v false true false false) fun y33=>jp (ι:=Bool) (fun J35=>br y33 (J35 ((decide ((a_v.b.length:Int) ≤ (70000:Int))))) (J35 (false))) (fun q34=>jp (ι:=Bool) (fun J38=>br q34 (jp (ι:=Bool) (fun J41=>br y7.con.more (J41 (true)) (cal (zcB y7.con (a_v.b.length:Int)) fun y43=>J41 (y43))) (fun q40=>J38 (q40))) (J38 (false))) (fun q37=>jp (ι:=Bool) (fun J45=>br q37 (jp (ι:=Bool) (fun J48=>br (decide (y7.kind=(5:Int))) (J48 (true)) (cal (zcU a_v.b) fun y50=>J48 (y50))) (fun q47=>J45 (q47))) (J45 (false))) (fun q44=>some (q44))))) (br (decide (y7.kind=(10:Int))) (cal (zcI a_v false false true false) fun y51=>jp (ι:=Bool) (fun J53=>br (!y51) (J53 (true)) (jp (ι:=Bool) (fun J56=>br (!y7.con.more) (cal (zcB y7.con (a_v.l.length:Int)) fun y58=>J56 ((!y58))) (J56 (false))) (fun q55=>J53 (q55)))) (fun q52=>br q52 (some (false)) (lp (ι:=Int) (fun L60 q59=>br (decide (q59 < (a_v.l.length:Int))) (cal (getI a_v.l q59) fun y65=>ck ((zH + (1:Int))) <| cal (zds a_t y7.of y65 (zH + (1:Int))) fun y67=>br (!y67) (some (false)) (ck ((q59 + (1:Int))) <| L60 ((q59 + (1:Int))))) (some (true))) (((0:Int)))))) (br (decide (y7.kind=(9:Int))) (cal (zcI a_v true false true false) fun y70=>jp (ι:=Bool) (fun J72=>br y70 (J72 ((decide ((0:Int) ≤ a_v.n)))) (J72 (false))) (fun q71=>jp (ι:=Bool) (fun J75=>br q71 (J75 ((decide (a_v.n < (y7.fields.length:Int))))) (J75 (false))) (fun q74=>jp (ι:=Bool) (fun J78=>br q74 (J78 ((decide ((a_v.l.length:Int)=(1:Int))))) (J78 (false))) (fun q77=>jp (ι:=Bool) (fun J81=>br q77 (cal (getI y7.fields a_v.n) fun y83=>cal (getI a_v.l (0:Int)) fun y84=>ck ((zH + (1:Int))) <| cal (zds a_t y83.ty y84 (zH + (1:Int))) fun y86=>J81 (y86)) (J81 (false))) (fun q80=>some (q80)))))) (jp (ι:=Bool) (fun J88=>br (decide (y7.kind=(7:Int))) (J88 ((decide (y7.kind=(7:Int))))) (J88 ((decide (y7.kind=(8:Int)))))) (fun q87=>br q87 (cal (zde a_t a_i a_v zH) fun y89=>some (y89)) (some (false))))))))))))))))
def zgx:Nat→(GTab→Int→Val→Int→Option (Bool)) × (GTab→Int→Val→Int→Option (Bool))
  | 0=>(fun _ _ _ _=>none,fun _ _ _ _=>none)
  | n + 1=>let p:=zgx n;(zd2 p.1 p.2,zew p.1 p.2)
def zhB (n:Nat):GTab→Int→Val→Int→Option (Bool):=(zgx n).1
def zfK (n:Nat):GTab→Int→Val→Int→Option (Bool):=(zgx n).2

def zgh (a_t:GTab) (a_i:Int) (a_v:Val):Option (Bool) :=
  cal (zhk fuel a_v) fun y1=>jp (ι:=Bool) (fun J3=>br (decide (y1 ≤ (5000:Int))) (cal (zfK fuel a_t a_i a_v (1:Int)) fun y5=>J3 (y5)) (J3 (false))) (fun q2=>some (q2))

def zge (ziW:Val→Option (Bool)) (a_v:Val):Option (Bool) :=
  jp (ι:=Bool) (fun J2=>br (decide (a_v.kind=(12:Int))) (J2 (true)) (J2 ((decide ((0:Int) < (a_v.more.length:Int)))))) (fun q1=>br q1 (some (false)) (lp (ι:=Int) (fun L5 q4=>br (decide (q4 < (a_v.l.length:Int))) (cal (getI a_v.l q4) fun y9=>cal (ziW y9) fun y10=>br (!y10) (some (false)) (ck ((q4 + (1:Int))) <| L5 ((q4 + (1:Int))))) (some (true))) (((0:Int)))))
def zjZ:Nat→(Val→Option (Bool))
  | 0=>(fun _=>none)
  | n + 1=>let p:=zjZ n;(zge p)
def zg9 (n:Nat):Val→Option (Bool):=(zjZ n)

def zdS (zbg:Str) (zeo:Int) (a_v:Val):Option (Bool) :=
  cal (zb4 zbg) fun y1=>cal (zdQ y1.1 zeo) fun y3=>jp (ι:=Bool) (fun J5=>br (!y1.2) (J5 (true)) (J5 ((!y3.2)))) (fun q4=>jp (ι:=Bool) (fun J8=>br q4 (J8 (true)) (cal (zjU a_v (2000:Int)) fun y10=>J8 ((!y10)))) (fun q7=>br q7 (cal (zdG ) fun y11=>some (y11)) (cal (zeI fuel a_v) fun y12=>cal (zdG ) fun y14=>jp (ι:=Bool) (fun J16=>br (!y14) (J16 (true)) (cal (zeI fuel y12) fun y18=>cal (zf4 fuel y18 y12) fun y19=>J16 ((!y19)))) (fun q15=>jp (ι:=Bool) (fun J21=>br q15 (J21 (true)) (cal (zgh y1.1 y3.1 a_v) fun y23=>jp (ι:=Bool) (fun J25=>br y23 (cal (zg9 fuel a_v) fun y27=>J25 (y27)) (J25 (false))) (fun q24=>jp (ι:=Bool) (fun J29=>br q24 (cal (zf4 fuel y12 a_v) fun y31=>J29 ((!y31))) (J29 (false))) (fun q28=>J21 (q28))))) (fun q20=>br q20 (some (false)) (cal (zgh y1.1 y3.1 a_v) fun y32=>jp (ι:=Bool) (fun J34=>br (!y32) (J34 (true)) (cal (zg9 fuel y12) fun y36=>J34 ((!y36)))) (fun q33=>jp (ι:=Bool) (fun J38=>br q33 (J38 (true)) (cal (zdk y1.1 y3.1 y12) fun y40=>J38 (y40))) (fun q37=>some (q37)))))))))
end Go.Proofs.Q


namespace Go.Proofs.Q
open Go.Sy
set_option linter.unusedVariables false

theorem Val.eta (v:Val):Val.mk v.kind v.n v.b v.l v.rule v.more=v:=by cases v;rfl
theorem Val.lt {v w:Val} (h:w ∈ v.l):SizeOf.sizeOf w < SizeOf.sizeOf v:=by
  obtain ⟨k,n,b,l,r,m⟩:=v
  have h1:=List.sizeOf_lt_of_mem (show w ∈ l from h)
  rw [Val.mk.sizeOf_spec]
  omega
theorem zjz {α β:Type} (l:List α) (f:α→β):(l.attach.map fun w=>f w.1)=l.map f:=by simp
inductive Fine:Val→Prop
  | mk {v:Val}:v.b.length ≤ 68719476736→v.l.length ≤ 68719476736→v.more.length ≤ 68719476736→(∀ r ∈ v.more,r.b.length ≤ 68719476736)→(∀ w ∈ v.l,Fine w)→Fine v
theorem Fine.b {v:Val} (h:Fine v):v.b.length ≤ 68719476736:=by cases h;assumption
theorem Fine.l {v:Val} (h:Fine v):v.l.length ≤ 68719476736:=by cases h;assumption
theorem Fine.more {v:Val} (h:Fine v):v.more.length ≤ 68719476736:=by cases h;assumption
theorem Fine.raw {v:Val} (h:Fine v):∀ r ∈ v.more,r.b.length ≤ 68719476736:=by cases h;assumption
theorem Fine.kid {v:Val} (h:Fine v):∀ w ∈ v.l,Fine w:=by cases h;assumption
def cnt (v:Val):Nat:=1 + (v.l.attach.map fun w=>cnt w.1).sum
termination_by SizeOf.sizeOf v
decreasing_by exact Val.lt w.2
theorem ziq (v:Val):cnt v=1 + (v.l.map cnt).sum:=by
  rw [cnt]
  congr 2
  exact zjz v.l cnt
def strip (v:Val):Val:=if v.kind=12 then Val.mk 12 0 [] [] 0 [] else Val.mk v.kind v.n v.b (v.l.attach.map fun w=>strip w.1) 0 []
termination_by SizeOf.sizeOf v
decreasing_by exact Val.lt w.2
theorem zeh (v:Val):strip v=if v.kind=12 then Val.mk 12 0 [] [] 0 [] else Val.mk v.kind v.n v.b (v.l.map strip) 0 []:=by
  rw [strip]
  split
  · rfl
  · congr 1
    exact zjz v.l strip
def bare (v:Val):Bool:=!(decide (v.kind=12) || decide (0 < v.more.length)) && (v.l.attach.map fun w=>bare w.1).all id
termination_by SizeOf.sizeOf v
decreasing_by exact Val.lt w.2
theorem zlb (v:Val):bare v=(!(decide (v.kind=12) || decide (0 < v.more.length)) && (v.l.map bare).all id):=by
  rw [bare]
  congr 2
  exact zjz v.l bare
theorem zeR (v:Val):0 < cnt v:=by rw [ziq];omega
theorem zpf {α:Type} {f:α→Nat}:∀ {l:List α} {x:α},x ∈ l→f x ≤ (l.map f).sum
  | [],x,h=>by cases h
  | y :: r,x,h=>by
    rw [List.map_cons,List.sum_cons]
    rcases List.mem_cons.1 h with e | e
    · rw [e];omega
    · have:=zpf (f:=f) e
      omega
theorem zpa {α:Type} {f:α→Nat} (hf:∀ x,0 < f x):∀ {l:List α},l.length ≤ (l.map f).sum
  | []=>Nat.le_refl _
  | y :: r=>by
    have:=zpa hf (l:=r)
    have:=hf y
    rw [List.map_cons,List.sum_cons,List.length_cons]
    omega
theorem zdh {v w:Val} (h:w ∈ v.l):cnt w + 1 ≤ cnt v:=by
  rw [ziq v]
  have:=zpf (f:=cnt) h
  omega
theorem zri (b:List UInt8) (hb:b.length ≤ 68719476736):zbM b=some b:=by
  refine T.eqs ?_
  unfold zbM
  refine T.br (fun h=>T.some ?_) fun h=>T.abl (by rw [List.length_nil];omega) (T.some (List.nil_append _))
  exact (List.isEmpty_iff.1 h).symm
theorem zmk:∀ {n:Nat} {v:Val},cnt v ≤ n→Fine v→zeI n v=some (strip v):=by
  intro n
  induction n with
  | zero=>intro v h;have:=zeR v;omega
  | succ n ih =>
    intro v hn hf
    refine T.eqs ?_
    show T _ (zej (zeI n) v)
    unfold zej
    rw [zeh]
    refine T.br (fun h=>T.some (by rw [if_pos (zOT h)])) fun h=>?_
    rw [if_neg (zOF h)]
    have hfl:=hf.l
    refine T.jp (ι:=Val) (fun q=>q=Val.mk v.kind v.n v.b [] 0 []) (fun J kk=>T.eq (zri _ hf.b) (kk _ rfl)) fun q hq=>?_
    subst hq
    refine T.lp (ι:=Int × Val) (fun q=>0 ≤ q.1∧q.1 ≤ (v.l.length:Int)∧q.2=Val.mk v.kind v.n v.b ((v.l.take q.1.toNat).map strip) 0 []) (fun q=>((v.l.length:Int) - q.1).toNat) ⟨Int.le_refl _,by dsimp only;omega,rfl⟩ (by dsimp only;omega) fun L q ⟨q1,q2,q3⟩ hL=>?_
    obtain ⟨i,w⟩:=q
    dsimp only at q1 q2 q3 hL ⊢
    subst q3
    refine T.br (fun hb=>?_) fun hb=>T.some ?_
    · have hb:=zOT hb
      refine T.get q1 hb fun y hy=>?_
      have hm:=List.mem_of_getElem? hy
      have hk:=zdh hm
      have hlen:((v.l.take i.toNat).map strip).length=i.toNat:=by rw [List.length_map,List.length_take];omega
      refine T.eq (ih (by omega) (hf.kid _ hm)) (T.abl (by show ((v.l.take i.toNat).map strip).length + 1 ≤ _;rw [hlen];omega) (T.ck (by omega) (hL _ ⟨by dsimp only;omega,by dsimp only;omega,?_⟩ (by dsimp only;omega))))
      have e:(i + 1).toNat=i.toNat + 1:=by omega
      dsimp only
      rw [e,List.take_add_one,hy,List.map_append]
      rfl
    · have hb:=zOF hb
      rw [List.take_of_length_le (by omega)]
theorem zns:∀ (n:Nat) (v:Val),cnt v ≤ n→strip (strip v)=strip v:=by
  intro n
  induction n with
  | zero=>intro v h;have:=zeR v;omega
  | succ n ih =>
    intro v h
    rw [zeh v]
    split
    · rw [zeh];exact if_pos rfl
    · rename_i hk
      rw [zeh]
      refine (if_neg hk).trans ?_
      show Val.mk v.kind v.n v.b ((v.l.map strip).map strip) 0 []=_
      congr 1
      rw [List.map_map]
      refine List.map_congr_left fun w hw=>?_
      have:=zdh hw
      exact ih w (by omega)
theorem zkG:∀ (n:Nat) (v:Val),cnt v ≤ n→cnt (strip v) ≤ cnt v:=by
  intro n
  induction n with
  | zero=>intro v h;have:=zeR v;omega
  | succ n ih =>
    intro v h
    rw [zeh v]
    split
    · rw [ziq]
      exact zeR v
    · rw [ziq,ziq v]
      show 1 + ((v.l.map strip).map cnt).sum ≤ _
      have:∀ l:List Val,(∀ w ∈ l,w ∈ v.l)→((l.map strip).map cnt).sum ≤ (l.map cnt).sum:=by
        intro l
        induction l with
        | nil=>intro _;exact Nat.le_refl _
        | cons x r ihr =>
          intro hl
          have h1:=zdh (hl x List.mem_cons_self)
          have h2:=ih x (by omega)
          have h3:=ihr fun w hw=>hl w (List.mem_cons_of_mem _ hw)
          simp only [List.map_cons,List.sum_cons] at h3 ⊢
          omega
      have:=this v.l fun _ h=>h
      omega
end Go.Proofs.Q


namespace Go.Proofs.Q
open Go.Sy
set_option linter.unusedVariables false

theorem T.or' {β:Type} {R:β→Prop} {c d:Bool} {K:Bool→Option β} (hK:T R (K (c || d))):T R (Sy.jp (fun J=>Sy.br c (J true) (J d)) K):=by cases c <;> exact hK
theorem T.and' {β:Type} {R:β→Prop} {c d:Bool} {K:Bool→Option β} (hK:T R (K (c && d))):T R (Sy.jp (fun J=>Sy.br c (J d) (J false)) K):=by cases c <;> exact hK
theorem zpl {a b:Nat} (h:(!decide ((a:Int)=(b:Int)))=false):a=b:=by
  have:(a:Int)=b:=by simpa using h
  omega
theorem T.andI {β:Type} {R:β→Prop} {P Q:Prop} {c:Bool} {M:(Bool→Option β)→Option β} {K:Bool→Option β} (hc:c=true ↔ P) (hM:∀ J:Bool→Option β,(∀ b,(b=true ↔ Q)→T R (J b))→T R (M J)) (hK:∀ b:Bool,(b=true ↔ P∧Q)→T R (K b)) :
    T R (Sy.jp (fun J=>Sy.br c (M J) (J false)) K):=by
  cases c with
  | true=>exact hM K fun b hb=>hK b (by rw [hb];exact ⟨fun h=>⟨hc.1 rfl,h⟩,fun h=>h.2⟩)
  | false=>exact hK false ⟨fun h=>(by cases h),fun h=>by have:=hc.2 h.1;cases this⟩
theorem zkb {α:Type} {E:α→α→Option Bool} {F:(Int→Option Bool)→Int→Option Bool} (a b:List α) (ha:a.length ≤ 68719476736) (hE:∀ x ∈ a,∀ y,T (fun r=>r=true ↔ x=y) (E x y))
    (hF:∀ (L:Int→Option Bool) (q:Int),F L q=Sy.br (decide (q < (a.length:Int))) (Sy.cal (getI a q) fun y=>Sy.cal (getI b q) fun z=>Sy.cal (E y z) fun w=>Sy.br (!w) (some false) (Sy.ck (q + 1) <| L (q + 1))) (some true)) :
    T (fun r=>r=true ↔ a=b) (Sy.br (!decide ((a.length:Int)=(b.length:Int))) (some false) (Sy.lp F (0:Int))):=by
  refine T.br (fun h=>T.some ⟨fun h=>(by cases h),fun e=>?_⟩) fun h=>?_
  · subst e
    simp at h
  have hl:a.length=b.length:=zpl h
  refine T.lp (fun (q:Int)=>0 ≤ q∧q ≤ (a.length:Int)∧∀ i:Nat,(i:Int) < q→a[i]?=b[i]?) (fun (q:Int)=>((a.length:Int) - q).toNat) ⟨Int.le_refl _,by omega,fun i h=>by omega⟩ (by omega) fun L q ⟨h1,h2,h3⟩ hL=>?_
  rw [hF]
  refine T.br (fun hb=>?_) fun hb=>T.some ⟨fun _=>?_,fun _=>rfl⟩
  · have hb:=zOT hb
    refine T.get h1 hb fun y hy=>T.get h1 (by omega) fun z hz=>T.cal (hE y (List.mem_of_getElem? hy) z) fun w _ hw=>T.br (fun he=>T.some ⟨fun h=>(by cases h),fun e=>?_⟩) fun he=>T.ck (by omega) (hL _ ⟨by omega,by omega,fun i hi=>?_⟩ (by omega))
    · subst e
      rw [hy] at hz;cases hz
      rw [hw.2 rfl] at he;cases he
    · have he:y=z:=hw.1 (by simpa using he)
      rcases Int.lt_or_le (i:Int) q with h | h
      · exact h3 i h
      · have:i=q.toNat:=by omega
        rw [this,hy,hz,he]
  · have hb:=zOF hb
    refine List.ext_getElem? fun i=>?_
    rcases Nat.lt_or_ge i a.length with h | h
    · exact h3 i (by omega)
    · rw [List.getElem?_eq_none h,List.getElem?_eq_none (by omega)]
theorem zro (x y:Raw):T (fun r=>r=true ↔ x=y) (znC x y):=by
  unfold znC
  refine T.andI (P:=x.n=y.n) (Q:=x.b=y.b) decide_eq_true_iff (fun J kk=>T.eq (y:=decide (Str.mk x.b=Str.mk y.b)) rfl (kk _ ?_)) fun b hb=>T.some ?_
  · rw [decide_eq_true_iff]
    exact ⟨fun h=>congrArg Str.b h,fun h=>by rw [h]⟩
  · rw [hb]
    obtain ⟨a,b⟩:=x
    obtain ⟨c,d⟩:=y
    exact ⟨fun ⟨h1,h2⟩=>(by cases h1;cases h2;rfl),fun h=>by cases h;exact ⟨rfl,rfl⟩⟩
theorem zhD:∀ {k n:Nat} {f:Val},cnt f ≤ k→2 * k ≤ n→Fine f→∀ g,T (fun r=>r=true ↔ f=g) (zf4 n f g):=by
  intro k
  induction k with
  | zero=>intro n f h;have:=zeR f;omega
  | succ k ih =>
    intro n f hk hn hf g
    obtain ⟨n,rfl⟩:∃ n',n=n' + 2:=⟨n - 2,by omega⟩
    show T _ (zhu (zfl (n + 1)) (zf4 (n + 1)) f g)
    unfold zhu
    refine T.andI (P:=f.kind=g.kind) (Q:=f.n=g.n) decide_eq_true_iff (fun J kk=>kk _ decide_eq_true_iff) fun b1 h1=>?_
    refine T.andI (Q:=f.b=g.b) h1 (fun J kk=>T.eq (y:=decide (Str.mk f.b=Str.mk g.b)) rfl (kk _ ?_)) fun b2 h2=>?_
    · rw [decide_eq_true_iff]
      exact ⟨fun h=>congrArg Str.b h,fun h=>by rw [h]⟩
    refine T.andI (Q:=f.l=g.l) h2 (fun J kk=>T.cal (Q:=fun r=>r=true ↔ f.l=g.l) ?_ fun r _ hr=>kk _ hr) fun b3 h3=>?_
    · show T _ (zcz (zfl n) (zf4 n) f.l g.l)
      unfold zcz
      exact zkb f.l g.l hf.l (fun x hx y=>ih (by have:=zdh hx;omega) (by omega) (hf.kid x hx) y) fun L q=>rfl
    refine T.andI (Q:=f.rule=g.rule) h3 (fun J kk=>kk _ decide_eq_true_iff) fun b4 h4=>?_
    refine T.andI (Q:=f.more=g.more) h4 (fun J kk=>T.cal (Q:=fun r=>r=true ↔ f.more=g.more) ?_ fun r _ hr=>kk _ hr) fun b5 h5=>T.some ?_
    · unfold ze5
      exact zkb f.more g.more hf.more (fun x hx y=>zro x y) fun L q=>rfl
    · rw [h5,← Val.eta f,← Val.eta g]
      constructor
      · rintro ⟨⟨⟨⟨⟨e1,e2⟩,e3⟩,e4⟩,e5⟩,e6⟩
        simp only [Val.eta] at e1 e2 e3 e4 e5 e6
        rw [e1,e2,e3,e4,e5,e6]
      · intro h
        rw [Val.eta,Val.eta] at h
        subst h
        exact ⟨⟨⟨⟨⟨rfl,rfl⟩,rfl⟩,rfl⟩,rfl⟩,rfl⟩
theorem zmG:∀ {n:Nat} {v:Val},cnt v ≤ n→Fine v→zg9 n v=some (bare v):=by
  intro n
  induction n with
  | zero=>intro v h;have:=zeR v;omega
  | succ n ih =>
    intro v hn hf
    refine T.eqs ?_
    show T _ (zge (zg9 n) v)
    unfold zge
    have hfl:=hf.l
    rw [zlb]
    refine T.or' (T.br (fun h=>T.some ?_) fun h=>?_)
    · have:(decide (v.kind=12) || decide (0 < v.more.length))=true:=by
        rw [← h];congr 1;rw [decide_eq_decide];omega
      rw [this];rfl
    have hno:(decide (v.kind=12) || decide (0 < v.more.length))=false:=by
      rw [← h];congr 1;rw [decide_eq_decide];omega
    rw [hno]
    refine T.lp (fun (q:Int)=>0 ≤ q∧q ≤ (v.l.length:Int)∧((v.l.take q.toNat).map bare).all id=true) (fun (q:Int)=>((v.l.length:Int) - q).toNat) ⟨Int.le_refl _,by omega,rfl⟩ (by omega) fun L q ⟨q1,q2,q3⟩ hL=>T.br (fun hb=>?_) fun hb=>T.some ?_
    · have hb:=zOT hb
      refine T.get q1 hb fun y hy=>?_
      have hm:=List.mem_of_getElem? hy
      have hk:=zdh hm
      refine T.eq (ih (by omega) (hf.kid _ hm)) (T.br (fun h2=>T.some ?_) fun h2=>T.ck (by omega) (hL _ ⟨by omega,by omega,?_⟩ (by omega)))
      · have h2:bare y=false:=by simpa using h2
        have:(v.l.map bare).all id=false:=by
          rw [List.all_eq_false]
          exact ⟨bare y,List.mem_map.2 ⟨y,hm,rfl⟩,by rw [h2];decide⟩
        rw [this];rfl
      · have h2:bare y=true:=by simpa using h2
        have e:(q + 1).toNat=q.toNat + 1:=by omega
        rw [e,List.take_add_one,hy,List.map_append,List.all_append,q3]
        show (true && (bare y && true))=true
        rw [h2];rfl
    · have hb:=zOF hb
      rw [List.take_of_length_le (by omega)] at q3
      rw [q3];rfl
end Go.Proofs.Q


namespace Go.Sy
theorem Opn.u8 {P:Program} {T:TypeId} (h:P.underlying T=some (.int .u8)):Opn P T UInt8 where
  op:=fun ht _=>by
    obtain ⟨n,rfl,_,hwf⟩:=DataW.trod_int h ht
    unfold Lit.wf at hwf
    rw [Bool.and_eq_true] at hwf
    have h1:(0:Int) ≤ n:=zOT hwf.1
    have h2:n ≤ 255:=zOT hwf.2
    refine ⟨UInt8.ofNat n.toNat,?_⟩
    show [Value.int .u8 n]=[Value.int .u8 (((UInt8.ofNat n.toNat).toNat:Nat):Int)]
    rw [UInt8.toNat_ofNat',Nat.mod_eq_of_lt (by omega)]
    have:((n.toNat:Nat):Int)=n:=by omega
    rw [this]
  shape:=fun {_ _ _ v} hv=>by simp only [Value.okWide,h,Cell.okWide] at hv;cases v <;> simp_all [Cell.ok,Value.isAgg',Rep.agg]
structure OpB (P:Program) (T:TypeId) (α:Type) [Rep α] (N:Nat):Prop where
  op:∀ {H:Type} {enc:TypeId × Value→H} {W:World} {base:Nat} {spare:Nat→Bool} {held:Bool} {fuel:Nat} {cs:List Value} {x:DataW H × List MemPlace},
    fuel < N→DataW.trod enc P W base spare held fuel T cs=some x→(∀ k ∈ x.1.weights P T,k ≤ reachBytes)→∃ y:α,Rep.rd (snap W) cs y
theorem OpB.of {P:Program} {T:TypeId} {α:Type} [Rep α] {N:Nat} (h:Opn P T α):OpB P T α N:=⟨fun _ h1 h2=>h.op h1 h2⟩
theorem OpB.list {P:Program} {T e:TypeId} {α:Type} [Rep α] {N:Nat} (hu:P.underlying T=some (.slice e)) (ho:OpB P e α N) (hn:P.cellsOf e=Rep.n α) (hn0:Nat.blt 0 (Rep.n α)=true) (hb:Nat.blt 0 (P.bytesOf e)=true):OpB P T (List α) (N + 1) where
  op := fun {H enc W base spare held fuel cs x} hN ht hw=>by
    have hn0':0 < Rep.n α:=by simpa using hn0
    have hb':0 < P.bytesOf e:=by simpa using hb
    rcases DataW.trod_slice hu ht with ⟨rfl,_⟩ | ⟨a,len,cap,elems,rest,n,hfu,rfl,rfl,_,hlc,hcm,hel,hall,_,_⟩
    · exact ⟨[],_,rfl,none,0,rfl,Nat.le_refl _,Nat.zero_le _,.inl rfl⟩
    have hwl:(elems.length + rest.length) * P.bytesOf e ≤ reachBytes:=hw _ (by simp [DataW.weights,hu])
    have hlenb:len ≤ maxList:=by
      have h1:(elems.length + rest.length) * 1 ≤ (elems.length + rest.length) * P.bytesOf e:=Nat.mul_le_mul_left _ hb'
      unfold reachBytes at hwl;unfold maxList;omega
    have each:∀ i,i < len→∃ ci,W.cells? base (a.add (i * Rep.n α)) (Rep.n α)=some ci∧∃ y:α,Rep.rd (snap W) ci y:=fun i hi=>by
      have h1:=hall i hi
      rw [hn] at h1
      have hlt:i < elems.length:=by omega
      rw [List.getElem?_eq_getElem hlt,Option.bind_eq_some_iff] at h1
      obtain ⟨ci,h2,h3⟩:=h1
      refine ⟨ci,h2,ho.op (show n < N by omega) h3 fun k hk=>hw k ?_⟩
      simp only [DataW.weights,hu]
      refine List.mem_cons_of_mem _ (List.mem_append_left _ ?_)
      have:∀ (l:List (DataW H)) d,d ∈ l→∀ k ∈ d.weights P e,k ∈ DataW.weightsAll P e l:=by
        intro l
        induction l with
        | nil=>intro d hd;cases hd
        | cons b l ih =>
          intro d hd k hk
          simp only [DataW.weightsAll]
          rcases List.mem_cons.1 hd with h | h
          · subst h;exact List.mem_append_left _ hk
          · exact List.mem_append_right _ (ih d h k hk)
      exact this _ elems[i].1 (List.mem_map.2 ⟨_,List.getElem_mem hlt,rfl⟩) k hk
    by_cases h0:len=0
    · subst h0
      exact ⟨[],_,rfl,some a,cap,rfl,Nat.zero_le _,Nat.zero_le _,.inl rfl⟩
    -- the block
    obtain ⟨c0,hc0,_⟩:=each 0 (by omega)
    have hadd0:a.add (0 * Rep.n α)=a:=by rw [Nat.zero_mul];rfl
    rw [hadd0] at hc0
    obtain ⟨_,hl0,hc0'⟩:=World.cells?_some hc0
    have hcell0:∃ v,W.cell? a=some v:=by
      have:=hc0' 0 hn0'
      have h2:∃ v,c0[0]?=some v:=⟨c0[0]'(by omega),List.getElem?_eq_getElem (by omega)⟩
      obtain ⟨v,hv⟩:=h2
      exact ⟨v,by rw [show a.add 0=a from rfl] at this;rw [this,hv]⟩
    obtain ⟨v0,hv0⟩:=hcell0
    obtain ⟨hspot,blk,hblk,_⟩:=zg0 hv0
    have hcellk:∀ i j,i < len→j < Rep.n α→∃ v,blk[a.off + (i * Rep.n α + j)]?=some v∧∀ ci,W.cells? base (a.add (i * Rep.n α)) (Rep.n α)=some ci→ci[j]?=some v:=fun i j hi hj=>by
      obtain ⟨ci,h1,_⟩:=each i hi
      obtain ⟨_,hl,hc⟩:=World.cells?_some h1
      have h2:=hc j hj
      have h3:ci[j]?=some (ci[j]'(by omega)):=List.getElem?_eq_getElem (by omega)
      rw [h3] at h2
      obtain ⟨_,blk',hb1,hb2⟩:=zg0 h2
      have hbb:((a.add (i * Rep.n α)).add j).block=a.block∧((a.add (i * Rep.n α)).add j).off=a.off + (i * Rep.n α + j) :=
        ⟨(ziI _ _).1.trans (ziI _ _).1,by rw [(ziI _ _).2,(ziI _ _).2];omega⟩
      rw [hbb.1] at hb1
      rw [hblk] at hb1;cases hb1
      rw [hbb.2] at hb2
      exact ⟨_,hb2,fun ci' h'=>by rw [h1] at h';cases h';exact h3⟩
    have hbl:a.off + len * Rep.n α ≤ blk.length:=by
      obtain ⟨v,hv,_⟩:=hcellk (len - 1) (Rep.n α - 1) (by omega) (by omega)
      have:=(List.getElem?_eq_some_iff.1 hv).1
      have e:(len - 1) * Rep.n α + (Rep.n α - 1) + 1=len * Rep.n α:=by
        obtain ⟨m,rfl⟩:∃ m,len=m + 1:=⟨len - 1,by omega⟩
        rw [Nat.add_sub_cancel,Nat.add_mul];omega
      omega
    have hcs:∀ i,i < len→W.cells? base (a.add (i * Rep.n α)) (Rep.n α)=some ((blk.drop (a.off + i * Rep.n α)).take (Rep.n α)):=fun i hi=>by
      obtain ⟨ci,h1,_⟩:=each i hi
      rw [h1]
      obtain ⟨_,hl,_⟩:=World.cells?_some h1
      congr 1
      apply List.ext_getElem?
      intro j
      by_cases hj:j < Rep.n α
      · obtain ⟨v,hv,h2⟩:=hcellk i j hi hj
        rw [h2 ci h1,List.getElem?_take,if_pos hj,List.getElem?_drop,← hv,Nat.add_assoc]
      · rw [List.getElem?_eq_none (by omega),List.getElem?_eq_none (by rw [List.length_take];omega)]
    obtain ⟨ys,hy1,hy2⟩:=zim (r:=Rep.rd (snap W)) ((List.range len).map fun i=>(blk.drop (a.off + i * Rep.n α)).take (Rep.n α)) fun c hc=>by
      obtain ⟨i,hi,rfl⟩:=List.mem_map.1 hc
      have hi':=List.mem_range.1 hi
      obtain ⟨ci,h1,h2⟩:=each i hi'
      rw [hcs i hi'] at h1;cases h1
      exact h2
    have hyl:ys.length=len:=by simpa using hy1
    have hflat:∀ m,m ≤ len→((List.range m).map fun i=>(blk.drop (a.off + i * Rep.n α)).take (Rep.n α)).flatten=(blk.drop a.off).take (m * Rep.n α):=by
      intro m
      induction m with
      | zero=>simp
      | succ m ih =>
        intro hm
        rw [List.range_succ,List.map_append,List.flatten_append,ih (by omega),Nat.add_mul,Nat.one_mul,List.take_add,List.drop_drop]
        simp
    rw [hflat len (Nat.le_refl _)] at hy2
    subst hyl
    refine ⟨ys,_,rfl,some a,cap,rfl,hlc,hlenb,.inr ⟨a,(blk.drop a.off).take (ys.length * Rep.n α),rfl,⟨hspot,blk,hblk,fun j u hj=>?_⟩,?_,hy2⟩⟩
    · rw [List.getElem?_take] at hj
      split at hj
      · rw [List.getElem?_drop] at hj;exact hj
      · cases hj
    · rw [List.length_take,List.length_drop];omega

/-! ### A law's statement -/
/-- The parts of a struct, one behind the other, in so many steps. -/
inductive OpBs (P:Program) (N:Nat):List Field→Nat→(σ:Type)→[Rep σ]→Prop
  | one {α:Type} [Rep α] {f:Field}:OpB P f.type α N→P.cellsOf f.type=Rep.n α→OpBs P N [f] f.offset α
  | cons {α β:Type} [Rep α] [Rep β] {f:Field} {fs:List Field}:OpB P f.type α N→P.cellsOf f.type=Rep.n α→OpBs P N fs (f.offset + Rep.n α) β→OpBs P N (f :: fs) f.offset (α × β)
theorem OpBs.op {P:Program} {N:Nat} {fs:List Field} {off:Nat} {σ:Type} [I:Rep σ] (h:OpBs P N fs off σ) {H:Type} {enc:TypeId × Value→H} {W:World} {base:Nat} {spare:Nat→Bool} {held:Bool} {fuel:Nat} {cs:List Value} (hN:fuel < N)
    (hf:∀ f ∈ fs,∃ x,DataW.trod enc P W base spare held fuel f.type ((cs.drop f.offset).take (P.cellsOf f.type))=some x∧∀ k ∈ x.1.weights P f.type,k ≤ reachBytes) :
    ∃ y:σ,Rep.rd (snap W) ((cs.drop off).take (Rep.n σ)) y:=by
  induction h with
  | one ho hn =>
    obtain ⟨x,h1,h2⟩:=hf _ (List.mem_cons_self ..)
    rw [hn] at h1
    exact ho.op hN h1 h2
  | @cons α β _ _ f fs ho hn _ ih =>
    obtain ⟨x,h1,h2⟩:=hf _ (List.mem_cons_self ..)
    rw [hn] at h1
    obtain ⟨y1,k1⟩:=ho.op hN h1 h2
    obtain ⟨y2,k2⟩:=ih fun g hg=>hf g (List.mem_cons_of_mem _ hg)
    refine ⟨(y1,y2),_,_,?_,k1,k2⟩
    show (cs.drop f.offset).take (Rep.n α + Rep.n β)=_
    rw [List.take_add,List.drop_drop]
theorem Opn.val {P:Program} {T:TypeId} {fs:Array Field} (hu:P.underlying T=some (.struct fs)) (hn:P.cellsOf T=6)
    (hof:∀ N,OpB P T Val N→OpBs P (N + 1) fs.toList 0 (Int × Int × List UInt8 × List Val × Int × List Raw)):Opn P T Val:=by
  have key:∀ N,OpB P T Val N:=by
    intro N
    induction N with
    | zero=>exact ⟨fun h=>absurd h (Nat.not_lt_zero _)⟩
    | succ N ih =>
      refine ⟨fun {H enc W base spare held fuel cs x} hN ht hw=>?_⟩
      obtain ⟨xs,n,hfu,hx,hl,hxl,hx2⟩:=DataW.trod_struct hu ht
      have:=(hof N ih).op (enc:=enc) (W:=W) (base:=base) (spare:=spare) (held:=held) (fuel:=n) (cs:=cs) (by omega) fun f hf=>by
        obtain ⟨i,hi⟩:=List.mem_iff_getElem?.1 hf
        have hi':fs[i]?=some f:=by simpa using hi
        have h1:=hx2 i f hi'
        have hlt:i < xs.length:=by rw [hxl];exact (Array.getElem?_eq_some_iff.1 hi').1
        refine ⟨xs[i],by rw [h1,List.getElem?_eq_getElem hlt],fun k hk=>hw k ?_⟩
        rw [hx,zkU hu]
        exact DataW.weights_mem_each (j:=i) (t:=f.type) (d:=xs[i].1) (by rw [List.getElem?_map,hi];rfl) (by rw [List.getElem?_map,List.getElem?_eq_getElem hlt];rfl) k hk
      obtain ⟨⟨k,n',b,l,r,m⟩,hy⟩:=this
      refine ⟨Val.mk k n' b l r m,Val.rd_to.2 ?_⟩
      rw [hn] at hl
      have e:(cs.drop 0).take (Rep.n (Int × Int × List UInt8 × List Val × Int × List Raw))=cs:=by
        rw [List.drop_zero]
        exact List.take_of_length_le (by rw [hl];exact Nat.le_refl _)
      rw [e] at hy
      exact hy
  exact ⟨fun {H enc W base spare held fuel cs x} ht hw=>(key (fuel + 1)).op (Nat.lt_succ_self _) ht hw,fun {_ _ _ v} hv=>by
    simp only [Value.okWide,hu] at hv
    obtain ⟨cs,rfl,_⟩:=hv
    rfl⟩
inductive FineM:Val→Prop
  | mk {v:Val}:v.b.length ≤ 281474976710656→v.l.length ≤ 281474976710656→v.more.length ≤ 281474976710656→(∀ r ∈ v.more,r.b.length ≤ 281474976710656)→(∀ w ∈ v.l,FineM w)→FineM v
theorem FineM.b {v:Val} (h:FineM v):v.b.length ≤ 281474976710656:=by cases h;assumption
theorem FineM.l {v:Val} (h:FineM v):v.l.length ≤ 281474976710656:=by cases h;assumption
theorem FineM.more {v:Val} (h:FineM v):v.more.length ≤ 281474976710656:=by cases h;assumption
theorem FineM.raw {v:Val} (h:FineM v):∀ r ∈ v.more,r.b.length ≤ 281474976710656:=by cases h;assumption
theorem FineM.kid {v:Val} (h:FineM v):∀ w ∈ v.l,FineM w:=by cases h;assumption
theorem zm4 {α:Type} {r:List Value→α→Prop}:∀ {l:List α} {cs:List Value},rdL r l cs→∀ x ∈ l,∃ c,r c x
  | [],_,_,x,h=>by cases h
  | y :: l,_,⟨c1,c2,_,h1,h2⟩,x,h=>by
    rcases List.mem_cons.1 h with e | e
    · exact ⟨c1,e ▸ h1⟩
    · exact zm4 h2 x e
theorem zoS {S:Frz}:∀ (n:Nat) (v:Val),SizeOf.sizeOf v ≤ n→∀ cs,rdVal S v cs→FineM v:=by
  intro n
  induction n with
  | zero=>intro ⟨k,n,b,l,r,m⟩ h;rw [Val.mk.sizeOf_spec] at h;omega
  | succ n ih =>
    intro ⟨k,n',b,l,r,m⟩ hn cs h
    unfold rdVal at h
    obtain ⟨vb,vl,vm,_,_,_,_,⟨_,_,_,_,hb,_⟩,⟨_,_,_,_,hm,hm2⟩,⟨_,_,_,_,hl,hl2⟩⟩:=h
    have hm':m.length ≤ 281474976710656:=hm
    refine .mk hb hl hm' (fun x hx=>?_) fun w hw=>?_
    · rcases hm2 with hm2 | ⟨_,_,_,_,_,hm2⟩
      · rw [show m=[] from hm2] at hx;cases hx
      · obtain ⟨c,hc⟩:=zm4 hm2 x hx
        obtain ⟨c1,c2,_,_,⟨_,_,_,_,_,_,h3,_⟩⟩:=hc
        exact h3
    · rcases hl2 with hl2 | ⟨_,c,_,_,_,hl2⟩
      · rw [show l=[] from hl2] at hw;cases hw
      · obtain ⟨c,hc⟩:=zm4 (zgu.1 hl2) w hw
        refine ih w ?_ c hc
        have:=List.sizeOf_lt_of_mem (show w ∈ l from hw)
        rw [Val.mk.sizeOf_spec] at hn
        omega
theorem zqL {S:Frz} {u:Value} {v:Val} (h:(isv v).p S u):FineM v:=zoS _ v (Nat.le_refl _) _ h.2
end Go.Sy


namespace Go.Proofs.Q
open Go.Sy
set_option linter.unusedVariables false

theorem zp6:∀ {m n:Nat} {v:Val} {left:Int},0 ≤ left→left < m→left ≤ 100000→m ≤ n→FineM v→T (fun r=>r.1=true→0 ≤ r.2∧r.2 + cnt v ≤ left∧Fine v) (zki n v left):=by
  intro m
  induction m with
  | zero=>intro n v left h1 h2;omega
  | succ m ih =>
    intro n v left h1 h2 h3 hn hf
    obtain ⟨n,rfl⟩:∃ n',n=n' + 1:=⟨n - 1,by omega⟩
    show T _ (zhg (zki n) v left)
    unfold zhg
    have hb:=hf.b
    have hm:=hf.more
    have hl:=hf.l
    have e1:((v.b.length:Int).tdiv 50)=(v.b.length:Int) / 50:=Int.tdiv_eq_ediv_of_nonneg (by omega)
    rw [e1]
    refine T.asr (by decide) (T.ck (by omega) (T.ck (by omega) (T.ck (by omega) (T.ck (by omega) ?_))))
    refine T.lp (ι:=Int × Int) (fun q=>0 ≤ q.1∧q.1 ≤ (v.more.length:Int)∧q.2 ≤ left - 1 - (v.b.length:Int) / 50 - (v.more.length:Int)∧-1000000000000000 ≤ q.2∧∀ k:Nat,(k:Int) < q.1→∀ r:Raw,v.more[k]?=some r→q.2 + (r.b.length:Int) / 50 ≤ left) (fun q=>((v.more.length:Int) - q.1).toNat) ⟨Int.le_refl _,by dsimp only;omega,by dsimp only;omega,by dsimp only;omega,fun k hk=>by dsimp only at hk;omega⟩ (by dsimp only;omega) fun L q ⟨q1,q2,q3,q4,q5⟩ hL=>?_
    obtain ⟨i,lf⟩:=q
    dsimp only at q1 q2 q3 q4 q5 hL ⊢
    refine T.and' (T.br (fun hc=>?_) fun hc=>?_)
    · rw [Bool.and_eq_true] at hc
      have c1:=zOT hc.1
      have c2:=zOT hc.2
      refine T.get q1 c1 fun r hr=>?_
      have hrb:=hf.raw r (List.mem_of_getElem? hr)
      have e2:((r.b.length:Int).tdiv 50)=(r.b.length:Int) / 50:=Int.tdiv_eq_ediv_of_nonneg (by omega)
      rw [e2]
      refine T.asr (by decide) (T.ck (by omega) (T.ck (by omega) (T.ck (by omega) (hL _ ⟨by dsimp only;omega,by dsimp only;omega,by dsimp only;omega,by dsimp only;omega,fun k hk r' hr'=>?_⟩ (by dsimp only;omega)))))
      dsimp only at hk ⊢
      rcases Int.lt_or_le (k:Int) i with h4 | h4
      · have:=q5 k h4 r' hr'
        omega
      · have:k=i.toNat:=by omega
        rw [this,hr] at hr';cases hr'
        omega
    refine T.br (fun _=>T.some fun h=>by cases h) fun h0=>?_
    have h0:=zOF h0
    have hall:i=(v.more.length:Int):=by
      rw [Bool.and_eq_false_iff] at hc
      rcases hc with hc | hc
      · have:=zOF hc;omega
      · have:=zOF hc;omega
    clear hL
    have hraw:∀ r ∈ v.more,r.b.length ≤ 68719476736:=fun r hr=>by
      obtain ⟨k,hk⟩:=List.mem_iff_getElem?.1 hr
      have hlt:=(List.getElem?_eq_some_iff.1 hk).1
      have:=q5 k (by omega) r hk
      omega
    refine T.lp (ι:=Int × Int) (fun p=>0 ≤ p.1∧p.1 ≤ (v.l.length:Int)∧0 ≤ p.2∧p.2 + (((v.l.take p.1.toNat).map cnt).sum:Nat) ≤ lf∧∀ k:Nat,(k:Int) < p.1→∀ w,v.l[k]?=some w→Fine w) (fun p=>((v.l.length:Int) - p.1).toNat) ⟨Int.le_refl _,by dsimp only;omega,by dsimp only;omega,by show lf + ((([]:List Val).map cnt).sum:Nat) ≤ lf;simp,fun k hk=>by dsimp only at hk;omega⟩ (by dsimp only;omega) fun L p ⟨p1,p2,p3,p4,p5⟩ hL=>?_
    obtain ⟨j,lg⟩:=p
    dsimp only at p1 p2 p3 p4 p5 hL ⊢
    refine T.br (fun hc=>?_) fun hc=>T.some fun _=>⟨p3,?_,?_⟩
    · have hc:=zOT hc
      refine T.get p1 hc fun y hy=>?_
      refine T.cal (ih p3 (by omega) (by omega) (by omega) (hf.kid y (List.mem_of_getElem? hy))) fun r _ hr=>T.br (fun _=>T.some fun h=>by cases h) fun hr2=>?_
      obtain ⟨r1,r2,r3⟩:=hr (by simpa using hr2)
      have e:(j + 1).toNat=j.toNat + 1:=by omega
      refine T.ck (by omega) (hL _ ⟨by dsimp only;omega,by dsimp only;omega,r1,?_,fun k hk w hw=>?_⟩ (by dsimp only;omega))
      · dsimp only
        rw [e,List.take_add_one,hy,List.map_append,List.sum_append]
        simp only [Option.toList_some,List.map_cons,List.map_nil,List.sum_cons,List.sum_nil]
        omega
      · dsimp only at hk
        rcases Int.lt_or_le (k:Int) j with h4 | h4
        · exact p5 k h4 w hw
        · have:k=j.toNat:=by omega
          rw [this,hy] at hw;cases hw
          exact r3
    · have hc:=zOF hc
      rw [List.take_of_length_le (by omega)] at p4
      rw [ziq]
      omega
    · have hc:=zOF hc
      have hcl:v.l.length ≤ 68719476736:=by
        rw [List.take_of_length_le (by omega)] at p4
        have:=zpa zeR (l:=v.l)
        omega
      refine .mk (by omega) hcl (by omega) hraw fun w hw=>?_
      obtain ⟨k,hk⟩:=List.mem_iff_getElem?.1 hw
      have hlt:=(List.getElem?_eq_some_iff.1 hk).1
      exact p5 k (by omega) w hk
theorem zqn {v:Val} (hf:FineM v):T (fun r=>r=true→cnt v ≤ 2000∧Fine v) (zjU v 2000):=by
  unfold zjU
  exact T.cal (zp6 (m:=2001) (by decide) (by decide) (by decide) (by unfold fuel;omega) hf) fun r _ hr=>T.some fun h=>by
    obtain ⟨h1,h2,h3⟩:=hr h
    exact ⟨by omega,h3⟩
end Go.Proofs.Q


namespace Go.Proofs.Q
open Go.Sy
set_option linter.unusedVariables false

def rng (a b:Int):List Int:=(List.range (b - a).toNat).map fun (i:Nat)=>a + (i:Int)
theorem zhC {a b:Int} (h:b ≤ a):rng a b=[]:=by
  unfold rng
  have:(b - a).toNat=0:=by omega
  rw [this];rfl
theorem zjV {a b:Int} (h:a ≤ b):rng a (b + 1)=rng a b ++ [b]:=by
  unfold rng
  have:(b + 1 - a).toNat=(b - a).toNat + 1:=by omega
  rw [this,List.range_succ,List.map_append]
  congr 1
  show [a + (((b - a).toNat:Nat):Int)]=[b]
  congr 1
  omega
theorem zhF {a b:Int}:(rng a b).length=(b - a).toNat:=by unfold rng;rw [List.length_map,List.length_range]
theorem zrV {a b:Int} {k:Nat} (h:a + k < b):(rng a b)[k]?=some (a + k):=by
  unfold rng
  rw [List.getElem?_map,List.getElem?_range (by omega)]
  rfl
def grp (fs:List GFld) (k:Int):Int:=((fs[k.toNat]?).map fun f=>f.group).getD 0
def slot1 (c:Bool) (fs:List GFld) (out:List (List Int)) (k:Int):List (List Int) :=
  if (c && decide (0 < grp fs k) && decide (0 < out.length))=true∧grp fs (k - 1)=grp fs k then out.set (out.length - 1) ((out[out.length - 1]?).getD [] ++ [k]) else out ++ [[k]]
def slots (x:GTyp):List (List Int):=(rng x.root x.fields.length).foldl (slot1 (!decide (x.kind=9)) x.fields) []
def slotsT (t:GTab) (i:Int):List (List Int):=match (if 0 ≤ i then t.types[i.toNat]? else none) with
  | none=>[]
  | some x=>if x.kind=7 ∨ x.kind=8 ∨ x.kind=9 then slots x else []
theorem zkB (c:Bool) (fs:List GFld) (out:List (List Int)) (k:Int):(slot1 c fs out k).length ≤ out.length + 1∧0 < (slot1 c fs out k).length:=by
  unfold slot1
  split
  · rename_i h
    have h1:=h.1
    rw [Bool.and_eq_true] at h1
    have h2:=zOT h1.2
    rw [List.length_set]
    omega
  · rw [List.length_append,List.length_singleton]
    omega
theorem zgj {c:Bool} {fs:List GFld}:∀ (l:List Int) (out:List (List Int)) (n:Nat),out.length ≤ n→(∀ s ∈ out,s.length ≤ n)→(l.foldl (slot1 c fs) out).length ≤ n + l.length∧∀ s ∈ l.foldl (slot1 c fs) out,s.length ≤ n + l.length:=by
  intro l
  induction l with
  | nil=>intro out n h1 h2;exact ⟨h1,h2⟩
  | cons k r ih =>
    intro out n h1 h2
    have := ih (slot1 c fs out k) (n + 1) (by have:=(zkB c fs out k).1;omega) (fun s hs=>by
      unfold slot1 at hs
      split at hs
      · rcases List.mem_or_eq_of_mem_set hs with h | h
        · have:=h2 s h;omega
        · rw [h,List.length_append,List.length_singleton]
          cases hg:out[out.length - 1]? with
          | none=>simp
          | some y =>
            have:=h2 y (List.mem_of_getElem? hg)
            show y.length + 1 ≤ n + 1
            omega
      · rcases List.mem_append.1 hs with h | h
        · have:=h2 s h;omega
        · rw [List.mem_singleton.1 h]
          show 1 ≤ n + 1
          omega)
    rw [List.foldl_cons,List.length_cons]
    have e:n + 1 + r.length=n + (r.length + 1):=by omega
    rw [e] at this
    exact this
theorem kindNot {x:Int} {β:Type} {R:β→Prop} {K:Bool→Option β} (h:T R (K (!decide (x=7 ∨ x=8 ∨ x=9)))) :
    T R (Sy.jp (fun J5=>Sy.br (!decide (x=7)) (J5 (!decide (x=8))) (J5 false)) fun q=>Sy.jp (fun J8=>Sy.br q (J8 (!decide (x=9))) (J8 false)) K):=by
  refine T.and' (T.and' ?_)
  have:((!decide (x=7)) && (!decide (x=8)) && !decide (x=9))=!decide (x=7 ∨ x=8 ∨ x=9):=by
    rw [Bool.eq_iff_iff]
    simp only [Bool.and_eq_true,Bool.not_eq_true',decide_eq_false_iff_not,not_or]
    exact and_assoc
  rw [this]
  exact h
theorem zgg {h:Nat} {l:List GTyp} {x:GTyp} {i j:Nat} (hk:Kids (SubT h l) (kidsT x) i j) (hj:j ≤ l.length) (hl:l.length ≤ 1000):x.fields.length ≤ 1000:=by
  have:=zlt hk
  unfold kidsT at this
  rw [List.length_append,List.length_map] at this
  omega
theorem zjt {t:GTab} (ht:TabOk t) (i:Int):zfh t i=some (slotsT t i):=by
  refine T.eqs ?_
  unfold zfh
  refine T.cal (Q:=fun r=>r=decide (0 ≤ i∧i < t.types.length)) (by
    unfold zi3
    refine T.and' (T.some ?_)
    rw [Bool.eq_iff_iff]
    simp) fun y _ hy=>?_
  subst hy
  have htl:=ht.types
  by_cases hi:0 ≤ i∧i < t.types.length
  · rw [zDT hi]
    refine T.br (fun h=>by cases h) fun _=>?_
    obtain ⟨x,hx⟩:∃ x,t.types[i.toNat]?=some x:=⟨_,List.getElem?_eq_getElem (by omega)⟩
    have hs:slotsT t i=if x.kind=7 ∨ x.kind=8 ∨ x.kind=9 then slots x else []:=by unfold slotsT;rw [if_pos hi.1,hx]
    rw [hs]
    refine T.get hi.1 hi.2 fun x' hx'=>?_
    rw [hx] at hx';cases hx'
    refine kindNot (T.br (fun h=>T.some ?_) fun h=>?_)
    · rw [if_neg (zOF ((Bool.not_eq_true' _).mp h))]
    have hk:x.kind=7 ∨ x.kind=8 ∨ x.kind=9:=zOT ((Bool.not_eq_false' _).mp h)
    rw [if_pos hk]
    obtain ⟨j,hj⟩:=SubT.sub ht.kids i.toNat (by omega) (by omega)
    have hjl:=hj.inb
    obtain ⟨x'',hx'',hok,hkid⟩:=hj
    rw [hx] at hx'';cases hx''
    have hfl:=zgg hkid hjl (by omega)
    have hr0:=hok.root0
    have hr1:=hok.rootF hk
    refine T.lp (ι:=List (List Int) × Int) (fun q=>x.root ≤ q.2∧q.2 ≤ (x.fields.length:Int)∧q.1=(rng x.root q.2).foldl (slot1 (!decide (x.kind=9)) x.fields) []∧(0 < q.1.length ↔ x.root < q.2)) (fun q=>((x.fields.length:Int) - q.2).toNat) ⟨Int.le_refl _,hr1,by dsimp only;rw [zhC (Int.le_refl _)];rfl,by dsimp only [List.length_nil];omega⟩ (by dsimp only;omega) fun L q ⟨q1,q2,q3,q4⟩ hL=>?_
    obtain ⟨out,k⟩:=q
    dsimp only at q1 q2 q3 q4 hL ⊢
    refine T.br (fun hb=>?_) fun hb=>T.some ?_
    · have hb:=zOT hb
      have hfold:=zgj (c:=!decide (x.kind=9)) (fs:=x.fields) (rng x.root k) [] 0 (Nat.le_refl _) (fun s hs=>by cases hs)
      rw [← q3,zhF] at hfold
      have hol:out.length ≤ 1000:=by omega
      refine T.jp (ι:=List (List Int)) (fun o=>o=slot1 (!decide (x.kind=9)) x.fields out k) (fun J kk=>T.get (by omega) hb fun f hf=>T.and' (T.and' (T.jp (fun b=>b=true ↔ (!decide (x.kind=9) && decide (0 < f.group) && decide (x.root < k))=true∧grp x.fields (k - 1)=f.group) (fun J2 k2=>T.br (fun h1=>?_) fun h1=>k2 _ ⟨fun h=>(by cases h),fun h=>by rw [h1] at h;cases h.1⟩) fun b hb2=>?_))) fun o ho=>T.ck (by omega) (hL _ ⟨by dsimp only;omega,by dsimp only;omega,by dsimp only;rw [zjV q1,List.foldl_append,← q3,ho];rfl,by dsimp only;rw [ho];exact ⟨fun _=>by omega,fun _=>(zkB _ _ _ _).2⟩⟩ (by dsimp only;omega))
      · have h2:=h1
        rw [Bool.and_eq_true] at h2
        have h3:=zOT h2.2
        refine T.ck (by omega) (T.get (by omega) (by omega) fun g hg=>k2 _ ?_)
        rw [decide_eq_true_iff,h1]
        have:grp x.fields (k - 1)=g.group:=by unfold grp;rw [hg];rfl
        rw [this]
        exact ⟨fun h=>⟨rfl,h⟩,fun h=>h.2⟩
      · have hgf:grp x.fields k=f.group:=by unfold grp;rw [hf];rfl
        have hiff:decide (0 < out.length)=decide (x.root < k):=by rw [decide_eq_decide];exact q4
        refine T.br (fun hbt=>?_) fun hbf=>?_
        · have hc:=hb2.1 hbt
          have h2:=hc.1
          rw [Bool.and_eq_true] at h2
          have h3:=q4.2 (zOT h2.2)
          obtain ⟨y,hy⟩:∃ y,out[out.length - 1]?=some y:=⟨_,List.getElem?_eq_getElem (by omega)⟩
          have ei:(((out.length:Nat):Int) - 1).toNat=out.length - 1:=by omega
          have hyl:=hfold.2 y (List.mem_of_getElem? hy)
          have hs1:slot1 (!decide (x.kind=9)) x.fields out k=out.set (out.length - 1) (y ++ [k]):=by
            unfold slot1
            rw [hgf,hiff,if_pos hc,hy];rfl
          rw [hs1] at kk
          have hy':out[(((out.length:Nat):Int) - 1).toNat]?=some y:=by rw [ei];exact hy
          refine T.ck (by omega) (T.ck (by omega) (T.asd ⟨by omega,by omega⟩ (T.asd (by omega) (T.eq hy' (T.abl (by rw [List.length_singleton];omega) (T.asd ⟨by omega,by omega⟩ (T.asd (by omega) (T.eq hy' (kk _ ?_)))))))))
          rw [ei]
        · have hs1:slot1 (!decide (x.kind=9)) x.fields out k=out ++ [[k]]:=by
            unfold slot1
            rw [hgf,hiff,if_neg (fun h=>by rw [hb2.2 h] at hbf;cases hbf)]
          exact T.abl (by rw [List.length_singleton];omega) (kk _ hs1.symm)
    · have hb:=zOF hb
      have:k=x.fields.length:=by omega
      rw [q3,this];rfl
  · rw [zDF hi]
    refine T.br (fun _=>T.some ?_) fun h=>by cases h
    unfold slotsT
    split
    · rfl
    · rename_i x hx
      split at hx
      · have:=(List.getElem?_eq_some_iff.1 hx).1
        omega
      · cases hx
theorem zpU (a b:Int) (h0:0 ≤ a) (hb:b ≤ 1000000) (hb0:0 ≤ b) (ha:a ≤ 1000000):zfe a b=some (rng a b):=by
  refine T.eqs ?_
  unfold zfe
  refine T.lp (ι:=List Int × Int) (fun q=>a ≤ q.2∧(q.2 ≤ b ∨ q.2=a)∧q.1=rng a q.2) (fun q=>(b - q.2).toNat) ⟨Int.le_refl _,.inr rfl,(zhC (Int.le_refl _)).symm⟩ (by dsimp only;omega) fun L q ⟨q1,q2,q3⟩ hL=>?_
  obtain ⟨l,k⟩:=q
  dsimp only at q1 q2 q3 hL ⊢
  refine T.br (fun h=>?_) fun h=>T.some ?_
  · have h:=zOT h
    have hl:l.length=(k - a).toNat:=by rw [q3,zhF]
    exact T.abl (by rw [List.length_singleton];omega) (T.ck (by omega) (hL _ ⟨by dsimp only;omega,by dsimp only;omega,by dsimp only;rw [zjV q1,q3]⟩ (by dsimp only;omega)))
  · have h:=zOF h
    rw [q3]
    rcases q2 with h2 | h2
    · have:k=b:=by omega
      rw [this]
    · subst h2
      rw [zhC (Int.le_refl _),zhC (by omega)]
theorem zqe {t:GTab} (ht:TabOk t) (i:Int):zeG t i=some (slotsT t i):=by
  refine T.eqs ?_
  unfold zeG
  have htl:=ht.types
  by_cases hi:0 ≤ i∧i < t.types.length
  · obtain ⟨x,hx⟩:∃ x,t.types[i.toNat]?=some x:=⟨_,List.getElem?_eq_getElem (by omega)⟩
    have hs:slotsT t i=if x.kind=7 ∨ x.kind=8 ∨ x.kind=9 then slots x else []:=by unfold slotsT;rw [if_pos hi.1,hx]
    rw [hs]
    refine T.cal (Q:=fun r=>r=x) (by
      unfold zfO
      refine T.or' (T.br (fun h=>?_) fun _=>T.get hi.1 hi.2 fun y hy=>T.some (by rw [hx] at hy;cases hy;rfl))
      rw [zDF (by omega),zDF (by omega)] at h
      cases h) fun y _ hy=>?_
    subst hy
    refine kindNot (T.br (fun h=>T.some ?_) fun h=>?_)
    · rw [if_neg (zOF ((Bool.not_eq_true' _).mp h))]
    have hk:y.kind=7 ∨ y.kind=8 ∨ y.kind=9:=zOT ((Bool.not_eq_false' _).mp h)
    rw [if_pos hk]
    obtain ⟨j,hj⟩:=SubT.sub ht.kids i.toNat (by omega) (by omega)
    have hjl:=hj.inb
    obtain ⟨x'',hx'',hok,hkid⟩:=hj
    rw [hx] at hx'';cases hx''
    have hfl:=zgg hkid hjl (by omega)
    have hr0:=hok.root0
    have hr1:=hok.rootF hk
    have hmx:max y.root 0=y.root:=by omega
    rw [hmx]
    refine T.eq (zpU _ _ hr0 (by omega) (by omega) (by omega)) ?_
    have hpl:(rng y.root y.fields.length).length=((y.fields.length:Int) - y.root).toNat:=zhF
    refine T.lp (ι:=List (List Int) × Int) (fun q=>0 ≤ q.2∧q.2 ≤ (y.fields.length:Int) - y.root∧q.1=(rng y.root (y.root + q.2)).foldl (slot1 (!decide (y.kind=9)) y.fields) []∧(0 < q.1.length ↔ 0 < q.2)) (fun q=>(((y.fields.length:Int) - y.root) - q.2).toNat) ⟨Int.le_refl _,by dsimp only;omega,by dsimp only;rw [zhC (by omega)];rfl,by dsimp only [List.length_nil];omega⟩ (by dsimp only;omega) fun L q ⟨q1,q2,q3,q4⟩ hL=>?_
    obtain ⟨out,p⟩:=q
    dsimp only at q1 q2 q3 q4 hL ⊢
    refine T.br (fun hb=>?_) fun hb=>T.some ?_
    · have hb:=zOT hb
      rw [hpl] at hb
      have hfold:=zgj (c:=!decide (y.kind=9)) (fs:=y.fields) (rng y.root (y.root + p)) [] 0 (Nat.le_refl _) (fun s hs=>by cases hs)
      rw [← q3,zhF] at hfold
      have hol:out.length ≤ 1000:=by omega
      have hget:(rng y.root y.fields.length)[p.toNat]?=some (y.root + p):=by
        rw [zrV (by omega)]
        congr 2
        omega
      refine T.jp (ι:=List (List Int)) (fun o=>o=slot1 (!decide (y.kind=9)) y.fields out (y.root + p)) (fun J kk=>T.asd ⟨by omega,by rw [hpl];omega⟩ (T.eq hget (T.ck (by omega) (T.get (by omega) (by omega) fun f hf=>T.and' (T.and' (T.jp (fun b=>b=true ↔ (!decide (y.kind=9) && decide (0 < f.group) && decide (0 ≤ ((out.length:Nat):Int) - 1))=true∧grp y.fields (y.root + p - 1)=f.group) (fun J2 k2=>T.br (fun h1=>?_) fun h1=>k2 _ ⟨fun h=>(by cases h),fun h=>by rw [h1] at h;cases h.1⟩) fun b hb2=>?_)))))) fun o ho=>T.ck (by omega) (hL _ ⟨by dsimp only;omega,by dsimp only;omega,by
          have e:y.root + (p + 1)=y.root + p + 1:=by omega
          dsimp only;rw [e,zjV (by omega),List.foldl_append,← q3,ho];rfl,by dsimp only;rw [ho];exact ⟨fun _=>by omega,fun _=>(zkB _ _ _ _).2⟩⟩ (by dsimp only;omega))
      · have h2:=h1
        rw [Bool.and_eq_true] at h2
        have h3:=zOT h2.2
        have h4:0 < p:=q4.1 (by omega)
        refine T.ck (by omega) (T.get (by omega) (by omega) fun g hg=>k2 _ ?_)
        rw [decide_eq_true_iff,h1]
        have:grp y.fields (y.root + p - 1)=g.group:=by unfold grp;rw [hg];rfl
        rw [this]
        exact ⟨fun h=>⟨rfl,h⟩,fun h=>h.2⟩
      · have hgf:grp y.fields (y.root + p)=f.group:=by unfold grp;rw [hf];rfl
        have hiff:decide (0 < out.length)=decide (0 ≤ ((out.length:Nat):Int) - 1):=by rw [decide_eq_decide];omega
        refine T.br (fun hbt=>?_) fun hbf=>?_
        · have hc:=hb2.1 hbt
          have h2:=hc.1
          rw [Bool.and_eq_true] at h2
          have h3:=zOT h2.2
          obtain ⟨z,hz⟩:∃ z,out[out.length - 1]?=some z:=⟨_,List.getElem?_eq_getElem (by omega)⟩
          have ei:(((out.length:Nat):Int) - 1).toNat=out.length - 1:=by omega
          have hzl:=hfold.2 z (List.mem_of_getElem? hz)
          have hs1:slot1 (!decide (y.kind=9)) y.fields out (y.root + p)=out.set (out.length - 1) (z ++ [y.root + p]):=by
            unfold slot1
            rw [hgf,hiff,if_pos hc,hz];rfl
          rw [hs1] at kk
          have hz':out[(((out.length:Nat):Int) - 1).toNat]?=some z:=by rw [ei];exact hz
          refine T.asd ⟨by omega,by omega⟩ (T.asd (by omega) (T.eq hz' (T.abl (by rw [List.length_singleton];omega) (T.asd ⟨by omega,by omega⟩ (T.asd (by omega) (T.eq hz' (kk _ ?_)))))))
          rw [ei]
        · have hs1:slot1 (!decide (y.kind=9)) y.fields out (y.root + p)=out ++ [[y.root + p]]:=by
            unfold slot1
            rw [hgf,hiff,if_neg (fun h=>by rw [hb2.2 h] at hbf;cases hbf)]
          exact T.abl (by rw [List.length_singleton];omega) (kk _ hs1.symm)
    · have hb:=zOF hb
      rw [hpl] at hb
      have:y.root + p=y.fields.length:=by omega
      rw [q3,this];rfl
  · refine T.cal (Q:=fun r=>r.kind=0) (by
      unfold zfO
      refine T.or' (T.br (fun h=>T.some rfl) fun h=>?_)
      rw [Bool.or_eq_false_iff] at h
      have h1:=zOF h.1
      have h2:=zOF h.2
      omega) fun y _ hy=>?_
    refine kindNot (T.br (fun h=>T.some ?_) fun h=>?_)
    · unfold slotsT
      split
      · rfl
      · rename_i x hx
        split at hx
        · have:=(List.getElem?_eq_some_iff.1 hx).1
          omega
        · cases hx
    · have:=zOT ((Bool.not_eq_false' _).mp h)
      omega
end Go.Proofs.Q


namespace Go.Proofs.Q
open Go.Sy
set_option linter.unusedVariables false

theorem zo3:∀ {n:Nat} {v:Val},cnt v ≤ n→cnt v ≤ 1000000→Fine v→zhk n v=some (cnt v:Int):=by
  intro n
  induction n with
  | zero=>intro v h;have:=zeR v;omega
  | succ n ih =>
    intro v hn h6 hf
    refine T.eqs ?_
    show T _ (zfL (zhk n) v)
    unfold zfL
    have hfl:=hf.l
    have hc:=ziq v
    refine T.lp (ι:=Int × Int) (fun q=>0 ≤ q.2∧q.2 ≤ (v.l.length:Int)∧q.1=1 + (((v.l.take q.2.toNat).map cnt).sum:Nat)) (fun q=>((v.l.length:Int) - q.2).toNat) ⟨Int.le_refl _,by dsimp only;omega,by show (1:Int)=1 + ((([]:List Val).map cnt).sum:Nat);simp⟩ (by dsimp only;omega) fun L q ⟨q1,q2,q3⟩ hL=>?_
    obtain ⟨c,i⟩:=q
    dsimp only at q1 q2 q3 hL ⊢
    refine T.br (fun hb=>?_) fun hb=>T.some ?_
    · have hb:=zOT hb
      refine T.get q1 hb fun y hy=>?_
      have hm:=List.mem_of_getElem? hy
      have hk:=zdh hm
      have e:(i + 1).toNat=i.toNat + 1:=by omega
      have hs:((v.l.take (i.toNat + 1)).map cnt).sum=((v.l.take i.toNat).map cnt).sum + cnt y:=by
        rw [List.take_add_one,hy,List.map_append,List.sum_append]
        simp
      have hle:((v.l.take (i.toNat + 1)).map cnt).sum ≤ (v.l.map cnt).sum:=by
        conv=>rhs;rw [← List.take_append_drop (i.toNat + 1) v.l]
        rw [List.map_append,List.sum_append]
        omega
      refine T.eq (ih (by omega) (by omega) (hf.kid _ hm)) (T.ck (by omega) (T.ck (by omega) (hL _ ⟨by dsimp only;omega,by dsimp only;omega,?_⟩ (by dsimp only;omega))))
      dsimp only
      rw [e,hs,q3]
      omega
    · have hb:=zOF hb
      rw [List.take_of_length_le (by omega)] at q3
      rw [q3,hc]
      omega
theorem zpN:∀ {n:Nat} {v:Val},cnt v ≤ n→cnt v ≤ 1000000→Fine v→zdP n v=some (cnt v:Int):=by
  intro n
  induction n with
  | zero=>intro v h;have:=zeR v;omega
  | succ n ih =>
    intro v hn h6 hf
    refine T.eqs ?_
    show T _ (zed (zdP n) v)
    unfold zed
    have hfl:=hf.l
    have hc:=ziq v
    refine T.lp (ι:=Int × Int) (fun q=>0 ≤ q.2∧q.2 ≤ (v.l.length:Int)∧q.1=1 + (((v.l.take q.2.toNat).map cnt).sum:Nat)) (fun q=>((v.l.length:Int) - q.2).toNat) ⟨Int.le_refl _,by dsimp only;omega,by show (1:Int)=1 + ((([]:List Val).map cnt).sum:Nat);simp⟩ (by dsimp only;omega) fun L q ⟨q1,q2,q3⟩ hL=>?_
    obtain ⟨c,i⟩:=q
    dsimp only at q1 q2 q3 hL ⊢
    refine T.br (fun hb=>?_) fun hb=>T.some ?_
    · have hb:=zOT hb
      refine T.get q1 hb fun y hy=>?_
      have hm:=List.mem_of_getElem? hy
      have hk:=zdh hm
      have e:(i + 1).toNat=i.toNat + 1:=by omega
      have hs:((v.l.take (i.toNat + 1)).map cnt).sum=((v.l.take i.toNat).map cnt).sum + cnt y:=by
        rw [List.take_add_one,hy,List.map_append,List.sum_append]
        simp
      have hle:((v.l.take (i.toNat + 1)).map cnt).sum ≤ (v.l.map cnt).sum:=by
        conv=>rhs;rw [← List.take_append_drop (i.toNat + 1) v.l]
        rw [List.map_append,List.sum_append]
        omega
      refine T.eq (ih (by omega) (by omega) (hf.kid _ hm)) (T.ck (by omega) (T.ck (by omega) (hL _ ⟨by dsimp only;omega,by dsimp only;omega,?_⟩ (by dsimp only;omega))))
      dsimp only
      rw [e,hs,q3]
      omega
    · have hb:=zOF hb
      rw [List.take_of_length_le (by omega)] at q3
      rw [q3,hc]
      omega
def pln (v:Val) (n b l m:Bool):Bool:=(n || decide (v.n=0)) && (b || decide ((v.b.length:Int)=0)) && (l || decide ((v.l.length:Int)=0)) && (m || (decide (v.rule=0) && decide ((v.more.length:Int)=0)))
theorem T.andJ {β:Type} {R:β→Prop} {c d:Bool} {M:(Bool→Option β)→Option β} {K:Bool→Option β} (hM:∀ J:Bool→Option β,T R (J d)→T R (M J)) (hK:T R (K (c && d))):T R (Sy.jp (fun J=>Sy.br c (M J) (J false)) K):=by
  cases c
  · exact hK
  · exact hM K hK
theorem T.orJ {β:Type} {R:β→Prop} {c d:Bool} {M:(Bool→Option β)→Option β} {K:Bool→Option β} (hM:∀ J:Bool→Option β,T R (J d)→T R (M J)) (hK:T R (K (c || d))):T R (Sy.jp (fun J=>Sy.br c (J true) (M J)) K):=by
  cases c
  · exact hM K hK
  · exact hK
theorem zdI (v:Val) (n b l m:Bool):zcI v n b l m=some (pln v n b l m):=by
  refine T.eqs ?_
  unfold zcI
  exact T.or' (T.andJ (fun J h=>T.or' h) (T.andJ (fun J h=>T.or' h) (T.andJ (fun J h=>T.orJ (fun J2 h2=>T.and' h2) h) (T.some rfl))))
theorem zdW (v:Val) (u:Int) (h:0 ≤ u):zbN v u=some (pln v (!decide (andI u 1=0)) (!decide (andI u 2=0)) (!decide (andI u 4=0)) (!decide (andI u 8=0))):=by
  refine T.eqs ?_
  unfold zbN
  refine T.asd ⟨h,by decide⟩ (T.or' (T.andJ (fun J hh=>T.asd ⟨h,by decide⟩ (T.or' hh)) (T.andJ (fun J hh=>T.asd ⟨h,by decide⟩ (T.or' hh)) (T.andJ (fun J hh=>T.asd ⟨h,by decide⟩ (T.orJ (fun J2 h2=>T.and' h2) hh)) (T.some rfl)))))
theorem zmz (v:Val):zd4 v=some (decide (v.kind=0) && pln v false false false false):=by
  refine T.eqs ?_
  unfold zd4
  refine T.andJ (d:=pln v false false false false) (fun J hh=>T.eq (zdW v 0 (Int.le_refl _)) ?_) (T.some rfl)
  have e:pln v (!decide (andI 0 1=0)) (!decide (andI 0 2=0)) (!decide (andI 0 4=0)) (!decide (andI 0 8=0))=pln v false false false false:=rfl
  rw [e]
  exact hh
theorem zqT {v:Val}:(decide (v.kind=0) && pln v false false false false)=true ↔ v=Val.mk 0 0 [] [] 0 []:=by
  unfold pln
  simp only [Bool.false_or,Bool.and_eq_true,decide_eq_true_eq]
  constructor
  · rintro ⟨h1,⟨⟨h2,h3⟩,h4⟩,h5,h6⟩
    rw [← Val.eta v,h1,h2,h5,List.length_eq_zero_iff.1 (by omega:v.b.length=0),List.length_eq_zero_iff.1 (by omega:v.l.length=0),List.length_eq_zero_iff.1 (by omega:v.more.length=0)]
  · intro h
    subst h
    exact ⟨rfl,⟨⟨rfl,rfl⟩,rfl⟩,rfl,rfl⟩
end Go.Proofs.Q


namespace Go.Proofs.Q
open Go.Sy
set_option linter.unusedVariables false

theorem zoE (b:List UInt8) (hb:b.length ≤ 68719476736):T (fun r=>0 ≤ r.2.1∧r.2.1 ≤ (b.length:Int)) (zdR b):=by
  unfold zdR
  refine T.lp (ι:=UInt64 × Int) (fun q=>0 ≤ q.2∧q.2 ≤ (b.length:Int)) (fun q=>((b.length:Int) - q.2).toNat) ⟨Int.le_refl _,by dsimp only;omega⟩ (by dsimp only;omega) fun L q ⟨q1,q2⟩ hL=>?_
  obtain ⟨v,i⟩:=q
  dsimp only at q1 q2 hL ⊢
  refine T.br (fun h=>?_) fun _=>T.some ⟨Int.le_refl _,by dsimp only;omega⟩
  have h:=zOT h
  refine T.jp (fun _=>True) (fun J kk=>T.br (fun _=>T.get (Int.le_refl _) (by omega) fun y _=>kk _ trivial) fun _=>kk _ trivial) fun b1 _=>T.or' (T.br (fun _=>T.some ⟨Int.le_refl _,by dsimp only;omega⟩) fun _=>?_)
  exact T.asr (by decide) (T.get q1 h fun y _=>T.get q1 h fun z _=>T.br (fun _=>T.ck (by omega) (T.some ⟨by dsimp only;omega,by dsimp only;omega⟩)) fun _=>T.ck (by omega) (hL _ ⟨by dsimp only;omega,by dsimp only;omega⟩ (by dsimp only;omega)))
theorem zrq (v:UInt64):(v >>> (8:UInt64)).toNat=v.toNat / 256:=by
  rw [UInt64.toNat_shiftRight]
  simp [Nat.shiftRight_eq_div_pow]
theorem zrd {w:Nat} (h:255 < w):(w / 256).log2 < w.log2:=by
  have h2:w / 256 ≠ 0:=by omega
  refine (Nat.log2_lt h2).2 ?_
  have h3:w < 2 ^ (w.log2 + 1):=Nat.lt_log2_self
  rw [Nat.pow_succ] at h3
  generalize 2 ^ w.log2=p at h3 ⊢
  omega
theorem zmN (v:UInt64):T (fun r=>r.length ≤ 1000000) (zeY v):=by
  unfold zeY
  have hv:v.toNat.log2 ≤ 64:=by
    have:=v.toNat_lt
    rcases Nat.eq_zero_or_pos v.toNat with h0 | h0
    · rw [h0];decide
    · exact Nat.le_of_lt ((Nat.log2_lt (by omega)).2 this)
  refine T.lp (ι:=UInt64 × List UInt8) (fun q=>q.2.length + q.1.toNat.log2 ≤ 100) (fun q=>q.1.toNat.log2) (by show 1 + v.toNat.log2 ≤ 100;omega) (by dsimp only;omega) fun L q hq hL=>?_
  obtain ⟨w,l⟩:=q
  dsimp only at hq hL ⊢
  refine T.br (fun h=>?_) fun _=>T.some (by omega)
  have h:=zOT h
  have h1:255 < w.toNat:=UInt64.lt_iff_toNat_lt.1 h
  have hl:=zrd h1
  rw [← zrq w] at hl
  refine T.abl (by show 1 + l.length ≤ _;omega) (hL _ ?_ hl)
  have e:(([(w >>> 8).toUInt8]:List UInt8) ++ l).length=1 + l.length:=by rw [List.length_append];rfl
  dsimp only
  rw [e];omega
theorem zkP (b:List UInt8):T (fun _=>True) (zc8 b):=by
  unfold zc8
  refine T.br (fun _=>T.some trivial) fun _=>T.br (fun _=>T.some trivial) fun h=>?_
  have h:=zOF h
  refine T.lp (ι:=UInt64 × Int) (fun q=>0 ≤ q.2∧q.2 ≤ (b.length:Int)) (fun q=>((b.length:Int) - q.2).toNat) ⟨Int.le_refl _,by dsimp only;omega⟩ (by dsimp only;omega) fun L q ⟨q1,q2⟩ hL=>?_
  obtain ⟨v,i⟩:=q
  dsimp only at q1 q2 hL ⊢
  refine T.br (fun hc=>?_) fun _=>T.cal (zmN v) fun y _ _=>T.eq (y:=decide (Str.mk y=Str.mk b)) rfl (T.br (fun _=>T.some trivial) fun _=>T.some trivial)
  have hc:=zOT hc
  exact T.asr (by decide) (T.get q1 hc fun y _=>T.ck (by omega) (hL _ ⟨by dsimp only;omega,by dsimp only;omega⟩ (by dsimp only;omega)))
theorem zrh (b:List UInt8) (hb:b.length ≤ 68719476736):T (fun r=>r.2.2.2.2=0→0 ≤ r.2.2.2.1∧r.2.2.2.1 ≤ (b.length:Int)∧0 ≤ r.2.2.1∧r.2.2.1 ≤ 4294967296) (zeN b):=by
  unfold zeN
  refine T.br (fun _=>T.some fun h=>by cases h) fun h0=>?_
  have h0:=zOF h0
  refine T.get (Int.le_refl _) (by omega) fun y2 _=>T.asr (by decide) (T.get (Int.le_refl _) (by omega) fun y4 _=>T.get (Int.le_refl _) (by omega) fun y6 _=>?_)
  refine T.jp (ι:=Int × Tag) (fun q=>1 ≤ q.1∧q.1 ≤ 1 + (b.length:Int)) (fun J kk=>T.br (fun _=>T.asd ⟨by omega,by omega,Int.le_refl _⟩ ?_) fun _=>kk _ ⟨Int.le_refl _,by dsimp only;omega⟩) fun q ⟨q1,q2⟩=>?_
  · have hl:((b.take ((b.length:Int)).toNat).drop ((1:Int)).toNat).length ≤ b.length:=by rw [List.length_drop,List.length_take];omega
    refine T.cal (zoE _ (by omega)) fun y10 _ ⟨g1,g2⟩=>T.br (fun h=>T.some fun e=>absurd e (by simpa using h)) fun _=>T.or' (T.br (fun _=>T.some fun h=>by cases h) fun hno=>?_)
    rw [Bool.or_eq_false_iff] at hno
    have h5:=zOF hno.2
    have h6:y10.1.toNat ≤ 268435456:=by
      have:¬ (268435456:UInt64).toNat < y10.1.toNat:=fun h=>h5 (UInt64.lt_iff_toNat_lt.2 h)
      have e:(268435456:UInt64).toNat=268435456:=rfl
      omega
    exact T.ck (by omega) (T.ck (by omega) (kk _ ⟨by dsimp only;omega,by dsimp only;omega⟩))
  refine T.br (fun _=>T.some fun h=>by cases h) fun h1=>?_
  have h1:=zOF h1
  refine T.get (by omega) (by omega) fun y16 _=>T.ck (by omega) ?_
  have hy:=y16.toNat_lt
  refine T.jp (ι:=Int × Int) (fun p=>0 ≤ p.1∧p.1 ≤ (b.length:Int)∧0 ≤ p.2∧p.2 ≤ 4294967296) (fun J kk=>T.br (fun h2=>?_) fun _=>kk _ ⟨by dsimp only;omega,by dsimp only;omega,by dsimp only;omega,by dsimp only;omega⟩) fun p hp=>T.some fun _=>⟨hp.1,hp.2.1,hp.2.2.1,hp.2.2.2⟩
  have h2:=zOT h2
  refine T.ck (by omega) (T.or' (T.br (fun _=>T.some fun h=>by cases h) fun h3=>T.ck (by omega) (T.br (fun _=>T.some fun h=>by cases h) fun h4=>T.ck (by omega) (T.asd ⟨by omega,by omega,?_⟩ (T.cal (zkP _) fun y27 _ _=>T.or' (T.or' (T.br (fun _=>T.some fun h=>by cases h) fun h5=>?_)))))))
  · have h4:=zOF h4
    omega
  · have h4:=zOF h4
    rw [Bool.or_eq_false_iff] at h5
    have h6:=zOF h5.2
    have h7:y27.1.toNat ≤ 2147483647:=by
      have:¬ (2147483647:UInt64).toNat < y27.1.toNat:=fun h=>h6 (UInt64.lt_iff_toNat_lt.2 h)
      have e:(2147483647:UInt64).toNat=2147483647:=rfl
      omega
    exact T.ck (by omega) (T.ck (by omega) (kk _ ⟨by dsimp only;omega,by dsimp only;omega,by dsimp only;omega,by dsimp only;omega⟩))
theorem zqC (b:List UInt8) (hb:b.length ≤ 68719476736):T (fun _=>True) (ziL b):=by
  unfold ziL
  refine T.cal (zrh b hb) fun y _ hy=>T.br (fun _=>T.some trivial) fun h=>?_
  obtain ⟨h1,h2,h3,h4⟩:=hy (by simpa using h)
  refine T.ck (by omega) (T.br (fun _=>T.some trivial) fun h5=>?_)
  have h5:=zOF h5
  refine T.ck (by omega) (T.asd ⟨by omega,by omega,by omega⟩ (T.ck (by omega) (T.cal (Q:=fun _=>True) (by
    unfold zgH
    exact T.abl (by rw [List.length_nil,List.length_drop,List.length_take];omega) (T.some trivial)) fun _ _ _=>T.some trivial)))
end Go.Proofs.Q


namespace Go.Proofs.Q
open Go.Sy
set_option linter.unusedVariables false

theorem zoD:∀ {h n l i j},SubT h l i j→h ≤ n→l.length ≤ 1000→zeU n l (i:Int)=some (bgs h l (i:Int)):=by
  intro h
  induction h with
  | zero=>intro n l i j h;exact h.elim
  | succ h ih =>
    intro n l i j hs hn hl
    obtain ⟨n,rfl⟩:∃ n',n=n' + 1:=⟨n - 1,by omega⟩
    have hjl:=hs.inb
    have hbl:=zjR hs
    have hlt:=hs.lt
    obtain ⟨t,h1,h0,h2⟩:=hs
    have hti:(i:Int).toNat=i:=Int.toNat_natCast i
    have hget:∀ {β:Type} {R:β→Prop} {K:GTyp→Option β},T R (K t)→T R (cal (getI l (i:Int)) K):=fun h=>T.get (by omega) (by omega) fun y hy=>by rw [hti,h1] at hy;cases hy;exact h
    refine T.eqs ?_
    show T _ (zdO (zeU n) l (i:Int))
    unfold zdO
    rw [zor h1] at hbl ⊢
    refine hget (T.br (fun hb=>hget (T.asd ⟨Int.le_refl _,by omega,by have:=zOT hb;omega⟩ (T.some ?_))) fun hb=>?_)
    · have hb:=zOT hb
      rw [if_pos (by omega)];rfl
    have hb:=zOF hb
    rw [if_neg (by omega)] at hbl ⊢
    have hfl:∀ (k:Nat),(((t.fields.take k).flatMap fun f=>bgs h l f.ty)).length ≤ 1000:=fun k=>by
      have:=zjP (l:=t.fields) (f:=fun f=>bgs h l f.ty) (k:=k)
      omega
    have hfc:t.fields.length ≤ 1000:=by
      unfold kidsT at h2
      obtain ⟨c,h3,h4⟩:=Kids.app h2
      have e:∀ (r:List Int) (a b:Nat),Kids (SubT h l) r a b→r.length ≤ b - a:=by
        intro r
        induction r with
        | nil=>intro a b _;exact Nat.zero_le _
        | cons x r ih2 =>
          intro a b ⟨c,k0,k1,k2⟩
          have:=ih2 _ _ k2
          have:=k1.lt
          have:=Kids.le SubT.le' k2
          simp only [List.length_cons];omega
      have:=e _ _ _ h3
      rw [List.length_map] at this
      have:=Kids.le SubT.le' h4
      omega
    refine T.lp (ι:=List Tag × Int) (fun q=>0 ≤ q.2∧q.2 ≤ t.fields.length∧q.1=(t.fields.take q.2.toNat).flatMap fun f=>bgs h l f.ty) (fun q=>((t.fields.length:Int) - q.2).toNat) ⟨Int.le_refl _,by dsimp only;omega,rfl⟩ (by dsimp only;omega) fun L q ⟨q1,q2,q3⟩ hL=>?_
    obtain ⟨o,k⟩:=q
    dsimp only at q1 q2 q3 hL ⊢
    refine hget (T.br (fun hb2=>?_) fun hb2=>T.some ?_)
    · have hb2:=zOT hb2
      refine hget (T.get q1 hb2 fun f hf=>?_)
      obtain ⟨c,d,e1,e2,e3,e4⟩:=Kids.mem3 SubT.le' h2 (zk9 f (List.mem_of_getElem? hf))
      rw [e1]
      have hk1:(k + 1).toNat=k.toNat + 1:=by omega
      have hnx:=zmn (f:=fun f:GFld=>bgs h l f.ty) hf
      have hle:=hfl (k.toNat + 1)
      rw [hnx,List.length_append,e1] at hle
      have hle2:=hfl k.toNat
      refine T.eq (ih e2 (by omega) hl) (T.abl (by rw [q3];omega) (T.ck (by omega) (hL _ ⟨by dsimp only;omega,by dsimp only;omega,?_⟩ (by dsimp only;omega))))
      dsimp only
      rw [hk1,hnx,q3,e1]
    · have hb2:=zOF hb2
      rw [q3,List.take_of_length_le (by omega)]
def begT (t:GTab) (i:Int):List Tag:=bgs 17 t.types i
theorem zn3 {t:GTab} (ht:TabOk t) (i:Int):zgn t i=some (begT t i):=by
  refine T.eqs ?_
  unfold zgn
  have htl:=ht.types
  refine T.or' (T.br (fun h=>T.some ?_) fun h=>?_)
  · unfold begT
    have : bgs 17 t.types i=[]:=by
      unfold bgs
      have e:(if 0 ≤ i then t.types[i.toNat]? else none)=none:=by
        split
        · rw [Bool.or_eq_true] at h
          rcases h with h | h
          · have:=zOT h;omega
          · have:=zOT h
            exact List.getElem?_eq_none (by omega)
        · rfl
      rw [e]
    rw [this]
  · rw [Bool.or_eq_false_iff] at h
    have h1:=zOF h.1
    have h2:=zOF h.2
    obtain ⟨j,hj⟩:=SubT.sub ht.kids i.toNat (by omega) (by omega)
    have e:((i.toNat:Nat):Int)=i:=by omega
    have hb:=zoD hj (n:=fuel) (by unfold fuel;omega) (by omega)
    have hbl:=zjR hj
    have hjl:=hj.inb
    rw [e] at hb hbl
    refine T.eq hb (T.abl (by rw [List.length_nil];omega) (T.some ?_))
    rw [List.nil_append];rfl
theorem zlP {t:GTab} (ht:TabOk t) {i:Int} (h0:0 ≤ i) (h1:i < t.types.length) (b:List UInt8) (hb:b.length ≤ 68719476736):T (fun _=>True) (zfu t i b):=by
  unfold zfu
  have htl:=ht.types
  obtain ⟨j,hj⟩:=SubT.sub ht.kids i.toNat (by omega) (by omega)
  have hjl:=hj.inb
  obtain ⟨x,hx,hok,hkid⟩:=hj
  have hfl:=zgg hkid hjl (by omega)
  have hg:∀ {β:Type} {R:β→Prop} {K:GTyp→Option β},T R (K x)→T R (cal (getI t.types i) K):=fun h=>T.get h0 h1 fun y hy=>by rw [hx] at hy;cases hy;exact h
  refine T.cal (zqC b hb) fun y _ _=>T.or' (T.br (fun _=>T.some trivial) fun _=>hg ?_)
  refine T.jp (ι:=Int) (fun k=>0 ≤ k) (fun J kk=>T.br (fun h=>hg ?_) fun _=>kk _ (Int.le_refl _)) fun k hk=>?_
  · have h7:=zOT h
    exact T.eq (zpq x hfl hok.root0 (hok.rootF (.inl h7))) (kk _ (Int.natCast_nonneg _))
  refine T.lp (fun (q:Int)=>0 ≤ q) (fun (q:Int)=>((x.fields.length:Int) - q).toNat) hk (by omega) fun L q hq hL=>hg (T.br (fun h=>hg (T.get hq (zOT h) fun f hf=>?_)) fun _=>T.some trivial)
  have h:=zOT h
  refine T.eq (zn3 ht f.ty) (T.eq (zms _ _ ?_) (T.br (fun _=>T.some trivial) fun _=>T.ck (by omega) (hL _ (by omega) (by omega))))
  obtain ⟨c,d,e1,e2,e3,e4⟩:=Kids.mem3 SubT.le' hkid (zk9 f (List.mem_of_getElem? hf))
  have:=zjR (e2.ups (h':=17) (by decide))
  unfold begT
  rw [e1]
  omega
theorem zo1 (x:GTyp) (n:Int) (hl:x.items.length ≤ 1000000):T (fun _=>True) (zfF x n):=by
  unfold zfF
  refine T.lp (fun (q:Int)=>0 ≤ q∧q ≤ (x.items.length:Int)) (fun (q:Int)=>((x.items.length:Int) - q).toNat) ⟨Int.le_refl _,by omega⟩ (by omega) fun L q ⟨q1,q2⟩ hL=>T.br (fun h=>T.get q1 (zOT h) fun y _=>T.br (fun _=>T.some trivial) fun _=>T.ck (by have:=zOT h;omega) (hL _ ⟨by omega,by have:=zOT h;omega⟩ (by have:=zOT h;omega))) fun _=>T.some trivial
theorem zlk (b:List UInt8):T (fun _=>True) (zg5 b):=by
  unfold zg5
  exact T.and' (T.some trivial)
theorem zmb {t:GTab} (ht:TabOk t) {i:Int} (h0:0 ≤ i) (h1:i < t.types.length) {v:Val} (hf:Fine v):T (fun _=>True) (zfN t i v):=by
  unfold zfN
  have htl:=ht.types
  obtain ⟨j,hj⟩:=SubT.sub ht.kids i.toNat (by omega) (by omega)
  have hjl:=hj.inb
  obtain ⟨x,hx,hok,hkid⟩:=hj
  have hil:=hok.ilen
  have hr0:=hok.root0
  have hfl:=zgg hkid hjl (by omega)
  have hr:x.root ≤ 1000000:=by
    by_cases h3:x.kind=3
    · have:=hok.rootI h3;omega
    · by_cases h7:x.kind=7 ∨ x.kind=8 ∨ x.kind=9
      · have:=hok.rootF h7;omega
      · rw [hok.rootZ h3 h7];decide
  refine T.get h0 h1 fun y hy=>?_
  rw [hx] at hy;cases hy
  refine T.jp (fun _=>True) (fun J kk=>T.br (fun _=>kk _ trivial) fun _=>T.jp (fun _=>True) (fun J2 k2=>T.br (fun _=>k2 _ trivial) fun _=>k2 _ trivial) fun b _=>kk _ trivial) fun b1 _=>T.or' (T.or' (T.br (fun _=>T.some trivial) fun _=>T.ck (by omega) ?_))
  refine T.jp (ι:=Int) (fun _=>True) (fun J kk=>T.br (fun _=>T.eq (zjt ht i) (kk _ trivial)) fun _=>kk _ trivial) fun k _=>T.and' (T.br (fun _=>T.cal (zlP ht h0 h1 v.b hf.b) fun y _ _=>T.and' (T.some trivial)) fun _=>T.br (fun _=>?_) fun _=>T.br (fun _=>?_) fun _=>T.some trivial)
  · exact T.jp (fun _=>True) (fun J kk=>T.br (fun _=>T.cal (zo1 x _ (by omega)) fun y _ _=>kk _ trivial) fun _=>kk _ trivial) fun b _=>T.some trivial
  · refine T.and' (T.jp (fun _=>True) (fun J kk=>T.br (fun _=>T.jp (fun _=>True) (fun J2 k2=>T.br (fun _=>T.cal (zlk _) fun y _ _=>k2 _ trivial) fun _=>k2 _ trivial) fun b _=>T.jp (fun _=>True) (fun J2 k2=>T.br (fun _=>k2 _ trivial) fun _=>T.jp (fun _=>True) (fun J3 k3=>T.br (fun _=>k3 _ trivial) fun _=>k3 _ trivial) fun b _=>k2 _ trivial) fun b _=>kk _ trivial) fun _=>kk _ trivial) fun b _=>T.some trivial)
theorem zp8 (a b:Tag):T (fun _=>True) (zio a b):=by
  unfold zio
  first
    | exact T.br (fun _=>T.some trivial) fun _=>T.some trivial
    | exact T.jp (fun _=>True) (fun J kk=>T.br (fun _=>kk _ trivial) fun _=>T.jp (fun _=>True) (fun J2 k2=>T.br (fun _=>k2 _ trivial) fun _=>k2 _ trivial) fun b _=>kk _ trivial) fun b _=>T.some trivial
theorem zoC {t:GTab} (ht:TabOk t) {i:Int} (h0:0 ≤ i) (h1:i < t.types.length) {v:Val} (hf:Fine v):T (fun _=>True) (zgl t i v):=by
  unfold zgl
  have hml:=hf.more
  refine T.br (fun _=>T.some trivial) fun _=>T.get h0 h1 fun x hx=>?_
  have hsl:(slotsT t i).length ≤ 100000∧0 ≤ (((slotsT t i).length:Nat):Int):=by
    refine ⟨?_,by omega⟩
    unfold slotsT
    rw [if_pos h0,hx]
    dsimp only
    split
    · have:=(zgj (c:=!decide (x.kind=9)) (fs:=x.fields) (rng x.root x.fields.length) [] 0 (Nat.le_refl _) (fun s hs=>by cases hs)).1
      rw [zhF] at this
      obtain ⟨j,hj⟩:=SubT.sub ht.kids i.toNat (by omega) (by omega)
      have hjl:=hj.inb
      have htl:=ht.types
      obtain ⟨x',hx',hok,hkid⟩:=hj
      rw [hx] at hx';cases hx'
      have hfl:=zgg hkid hjl (by omega)
      have hr0:=hok.root0
      unfold slots
      omega
    · exact Nat.zero_le _
  refine T.jp (fun _=>True) (fun J kk=>T.br (fun _=>kk _ trivial) fun _=>T.jp (fun _=>True) (fun J2 k2=>T.br (fun _=>k2 _ trivial) fun _=>k2 _ trivial) fun b _=>kk _ trivial) fun b1 _=>T.br (fun _=>T.some trivial) fun _=>?_
  refine T.lp (ι:=Int × Tag) (fun q=>0 ≤ q.1∧q.1 ≤ (v.more.length:Int)∧(v.rule=2→∀ r,0 < q.1→v.more[(q.1 - 1).toNat]?=some r→0 ≤ r.n∧r.n < 1000)) (fun q=>((v.more.length:Int) - q.1).toNat) ⟨Int.le_refl _,by dsimp only;omega,fun _ r h=>by dsimp only at h;omega⟩ (by dsimp only;omega) fun L q ⟨q1,q2,q3⟩ hL=>?_
  obtain ⟨k,tg⟩:=q
  dsimp only at q1 q2 q3 hL ⊢
  refine T.br (fun hc=>?_) fun _=>T.some trivial
  have hc:=zOT hc
  obtain ⟨r,hr⟩:∃ r,v.more[k.toNat]?=some r:=⟨_,List.getElem?_eq_getElem (by omega)⟩
  have hrb:=hf.raw r (List.mem_of_getElem? hr)
  have ek:(k + 1 - 1).toNat=k.toNat:=by omega
  refine T.jp (ι:=Tag) (fun _=>v.rule=2→0 ≤ r.n∧r.n < 1000) (fun J kk=>T.get q1 hc fun y hy=>?_) fun tg2 hn=>T.ck (by omega) (hL _ ⟨by dsimp only;omega,by dsimp only;omega,fun h2 r' _ hr'=>by
    dsimp only at hr'
    rw [ek,hr] at hr';cases hr'
    exact hn h2⟩ (by dsimp only;omega))
  rw [hr] at hy;cases hy
  refine T.br (fun h2=>?_) fun h2=>?_
  · have h2:=zOT h2
    refine T.eq (zjt ht i) (T.jp (ι:=Int) (fun l=>0 ≤ l) (fun J2 k2=>T.br (fun hp=>?_) fun _=>k2 _ hsl.2) fun l hl=>T.or' (T.jp (fun b=>b=false→0 ≤ r.n∧r.n < 1000) (fun J3 k3=>T.br (fun _=>k3 _ fun h=>(by cases h)) fun h5=>T.cal (zlk _) fun y _ _=>k3 _ fun _=>?_) fun b hb=>T.br (fun _=>T.some trivial) fun h6=>kk _ fun _=>hb h6))
    · have hp:=zOT hp
      refine T.ck (by omega) (T.get (by omega) (by omega) fun z hz=>?_)
      have:=q3 h2 z hp hz
      exact T.ck (by omega) (k2 _ (by omega))
    · rw [Bool.or_eq_false_iff] at h5
      have h7:=zOF h5.1
      have h8:=zOF h5.2
      omega
  · have h2:=zOF h2
    refine T.cal (zlP ht h0 h1 _ hrb) fun y _ _=>T.or' (T.jp (fun _=>True) (fun J3 k3=>T.br (fun _=>k3 _ trivial) fun _=>T.get h0 h1 fun x2 _=>T.and' (T.jp (fun _=>True) (fun J4 k4=>T.br (fun _=>T.cal (zp8 _ _) fun y _ _=>k4 _ trivial) fun _=>k4 _ trivial) fun b _=>k3 _ trivial)) fun b _=>T.br (fun _=>T.some trivial) fun _=>kk _ fun h=>absurd h h2)
end Go.Proofs.Q


namespace Go.Proofs.Q
open Go.Sy
set_option linter.unusedVariables false

/-! ### Slots -/
def SlotOk (fs:List GFld) (a b:Int) (s:List Int):Prop:=∃ k0 r,s=k0 :: r∧(r=[] ∨ 0 < grp fs k0)∧∀ k ∈ s,a ≤ k∧k < b
theorem SlotOk.mono {fs:List GFld} {a b b':Int} {s:List Int} (h:SlotOk fs a b s) (hb:b ≤ b'):SlotOk fs a b' s:=by
  obtain ⟨k0,r,h1,h2,h3⟩:=h
  exact ⟨k0,r,h1,h2,fun k hk=>⟨(h3 k hk).1,by have:=(h3 k hk).2;omega⟩⟩
theorem zpS (c:Bool) (fs:List GFld) (a:Int):∀ n:Nat,(∀ s ∈ (rng a (a + n)).foldl (slot1 c fs) [],SlotOk fs a (a + n) s) ∧
    (0 < n→∃ s,((rng a (a + n)).foldl (slot1 c fs) [])[((rng a (a + n)).foldl (slot1 c fs) []).length - 1]?=some s∧s.getLast?=some (a + n - 1))∧(n=0→(rng a (a + n)).foldl (slot1 c fs) []=[]):=by
  intro n
  induction n with
  | zero =>
    have e:rng a (a + ((0:Nat):Int))=[]:=zhC (by omega)
    rw [e]
    exact ⟨fun s hs=>(by cases hs),fun h=>absurd h (by omega),fun _=>rfl⟩
  | succ n ih =>
    obtain ⟨h1,h2,h3⟩:=ih
    have e:rng a (a + ((n + 1:Nat):Int))=rng a (a + n) ++ [a + n]:=by
      have:a + ((n + 1:Nat):Int)=a + n + 1:=by omega
      rw [this,zjV (by omega)]
    rw [e,List.foldl_append]
    generalize hout:(rng a (a + n)).foldl (slot1 c fs) []=out at h1 h2 h3
    show (∀ s ∈ slot1 c fs out (a + n),_)∧(_→∃ s,(slot1 c fs out (a + n))[(slot1 c fs out (a + n)).length - 1]?=some s∧_)∧_
    refine ⟨?_,?_,fun h=>absurd h (by omega)⟩
    · intro s hs
      unfold slot1 at hs
      split at hs
      · rename_i h
        obtain ⟨g1,g2⟩:=h
        rw [Bool.and_eq_true,Bool.and_eq_true] at g1
        have g3:=zOT g1.1.2
        have g4:=zOT g1.2
        have hn:0 < n:=by
          rcases Nat.eq_zero_or_pos n with h | h
          · rw [h3 h] at g4;exact absurd g4 (by simp)
          · exact h
        obtain ⟨s0,e0,e1⟩:=h2 hn
        rcases List.mem_or_eq_of_mem_set hs with h | h
        · exact (h1 s h).mono (by omega)
        · rw [e0] at h
          obtain ⟨k0,r,r1,r2,r3⟩:=h1 s0 (List.mem_of_getElem? e0)
          subst h
          refine ⟨k0,r ++ [a + n],by rw [r1];rfl,.inr ?_,fun k hk=>?_⟩
          · rcases r2 with r2 | r2
            · subst r2
              rw [r1] at e1
              have:k0=a + n - 1:=by simpa using e1
              rw [this,g2];exact g3
            · exact r2
          · rcases List.mem_append.1 hk with h | h
            · have:=r3 k h;omega
            · rw [List.mem_singleton.1 h];omega
      · rcases List.mem_append.1 hs with h | h
        · exact (h1 s h).mono (by omega)
        · rw [List.mem_singleton.1 h]
          exact ⟨a + n,[],rfl,.inl rfl,fun k hk=>by rw [List.mem_singleton.1 hk];omega⟩
    · intro _
      unfold slot1
      split
      · rename_i h
        have g1:=h.1
        rw [Bool.and_eq_true] at g1
        have g4:=zOT g1.2
        rw [List.length_set]
        refine ⟨_,List.getElem?_set_self (by omega),?_⟩
        rw [List.getLast?_append]
        show some (a + (n:Int))=_
        congr 1;omega
      · refine ⟨[a + n],?_,?_⟩
        · rw [List.length_append,List.length_singleton,List.getElem?_append_right (by omega)]
          have:out.length + 1 - 1 - out.length=0:=by omega
          rw [this];rfl
        · show some (a + (n:Int))=_
          congr 1;omega
theorem znT {x:GTyp} (h0:0 ≤ x.root):∀ s ∈ slots x,SlotOk x.fields x.root x.fields.length s:=by
  unfold slots
  rcases Int.lt_or_le x.root x.fields.length with h | h
  · have e:((x.fields.length:Nat):Int)=x.root + ((((x.fields.length:Int) - x.root).toNat:Nat):Int):=by omega
    rw [e]
    exact (zpS _ x.fields x.root _).1
  · rw [zhC h]
    intro s hs;cases hs
theorem zmv {t:GTab} {i:Int} {x:GTyp} (h0:0 ≤ i) (hx:t.types[i.toNat]?=some x) (hk:x.kind=7 ∨ x.kind=8):slotsT t i=slots x:=by
  unfold slotsT
  rw [if_pos h0,hx]
  exact if_pos (by omega)
theorem zmt {x:GTyp} (h0:0 ≤ x.root):(slots x).length ≤ x.fields.length:=by
  have:=(zgj (c:=!decide (x.kind=9)) (fs:=x.fields) (rng x.root x.fields.length) [] 0 (Nat.le_refl _) (fun s hs=>by cases hs)).1
  rw [zhF] at this
  unfold slots
  omega
theorem zlD {x:GTyp} (h0:0 ≤ x.root):∀ s ∈ slots x,s.length ≤ x.fields.length:=fun s hs=>by
  have:=(zgj (c:=!decide (x.kind=9)) (fs:=x.fields) (rng x.root x.fields.length) [] 0 (Nat.le_refl _) (fun s hs=>by cases hs)).2 s hs
  rw [zhF] at this
  omega

/-! ### Small parts -/
theorem nt {c:Bool} (h:(!c)=false):c=true:=by
  cases c with
  | false=>cases h
  | true=>rfl
def wthn (c:GCon) (v:Int):Bool:=!c.has || ((!c.hasLow || decide (c.low ≤ v)) && (!c.hasHigh || decide (v ≤ c.high)))
theorem zjN (c:GCon) (v:Int):zcB c v=some (wthn c v):=by
  unfold zcB wthn
  generalize decide (c.low ≤ v)=d1
  generalize decide (v ≤ c.high)=d2
  cases c.has <;> cases c.hasLow <;> cases c.hasHigh <;> cases d1 <;> cases d2 <;> rfl
theorem zjI (c:GCon) (v:Int):zcV c v=some (wthn c v):=by
  unfold zcV wthn
  generalize decide (c.low ≤ v)=d1
  generalize decide (v ≤ c.high)=d2
  cases c.has <;> cases c.hasLow <;> cases c.hasHigh <;> cases d1 <;> cases d2 <;> rfl
theorem zpD (x:GTyp) (n:Int) (hl:x.items.length ≤ 1000000):T (fun r=>0 ≤ r→∃ it ∈ x.items,it.number=n) (zfF x n):=by
  unfold zfF
  refine T.lp (ι:=Int) (fun (q:Int)=>0 ≤ q∧q ≤ (x.items.length:Int)) (fun (q:Int)=>((x.items.length:Int) - q).toNat) ⟨Int.le_refl _,by omega⟩ (by omega) fun L q ⟨q1,q2⟩ hL=>T.br (fun h=>T.get q1 (zOT h) fun y hy=>T.br (fun h2=>T.some fun _=>⟨y,List.mem_of_getElem? hy,zOT h2⟩) fun _=>T.ck (by have:=zOT h;omega) (hL _ ⟨by omega,by have:=zOT h;omega⟩ (by have:=zOT h;omega))) fun _=>T.some fun h=>absurd h (by decide)
theorem zrg (x:GTyp) (n:Int) (hl:x.items.length ≤ 1000000) (hi:∃ it ∈ x.items,it.number=n):T (fun r=>0 ≤ r) (zfi x n):=by
  unfold zfi zba
  refine T.cal (Q:=fun r=>0 ≤ r) ?_ fun r _ hr=>T.some hr
  refine T.lp (ι:=Int) (fun (q:Int)=>0 ≤ q∧q ≤ (x.items.length:Int)∧∀ k:Nat,(k:Int) < q→∀ it,x.items[k]?=some it→it.number ≠ n) (fun (q:Int)=>((x.items.length:Int) - q).toNat) ⟨Int.le_refl _,by omega,fun k h=>by omega⟩ (by omega) fun L q ⟨q1,q2,q3⟩ hL=>T.br (fun h=>?_) fun h=>?_
  · have h:=zOT h
    refine T.get q1 h fun y hy=>T.eq (y:=decide (y.number=n)) rfl (T.br (fun h2=>T.some q1) fun h2=>T.ck (by omega) (hL _ ⟨by omega,by omega,fun k hk it hit=>?_⟩ (by omega)))
    rcases Int.lt_or_le (k:Int) q with h4 | h4
    · exact q3 k h4 it hit
    · have:k=q.toNat:=by omega
      rw [this,hy] at hit;cases hit
      exact zOF h2
  · have h:=zOF h
    obtain ⟨it,h1,h2⟩:=hi
    obtain ⟨k,hk⟩:=List.mem_iff_getElem?.1 h1
    have:=(List.getElem?_eq_some_iff.1 hk).1
    exact absurd h2 (q3 k (by omega) it hk)
theorem zp2 {t:GTab} (ht:TabOk t) {i:Int} (h0:0 ≤ i) (h1:i < t.types.length) {v:Val} (hf:Fine v):T (fun r=>r=true→v.more=[]→v.rule=0) (zgl t i v):=by
  by_cases hm:v.more=[]
  · unfold zgl
    refine T.br (fun _=>T.some fun h _=>zOT h) fun h=>?_
    have:=zOF h
    rw [hm] at this
    exact absurd rfl this
  · exact (zoC ht h0 h1 hf).mono fun r _ _ h=>absurd h hm

/-! ### What fits -/
def zeroV:Val:=Val.mk 0 0 [] [] 0 []
def thr (v:Val) (k:Int):Bool:=match v.l[k.toNat]? with
  | some w=>!decide (w.kind=0)
  | none=>false
def lck (x:GTyp) (v:Val) (k:Int):Bool:=!thr v k && !(match x.fields[k.toNat]? with
  | some f=>f.optional || f.has
  | none=>false)
def Grp (x:GTyp) (v:Val) (s:List Int):Prop:=(decide (0 < grp x.fields (s.headD 0)) && s.any (thr v) && s.any (lck x v))=false
def FldF (x:GTyp) (F:Int→Val→Prop) (k:Nat) (f:GFld) (w:Val):Prop :=
  (w.kind=0∧w=zeroV∧(f.optional=true ∨ f.has=true ∨ x.root ≤ (k:Int))) ∨ (w.kind ≠ 0∧F f.ty w∧(f.has=true→w ≠ f.dflt))
def FitK (x:GTyp) (v:Val) (F:Int→Val→Prop):Prop :=
  (x.kind=1∧pln v true false false false=true∧(decide (v.n=0) || decide (v.n=1))=true) ∨
  (x.kind=2∧pln v true false false false=true∧(x.con.more || wthn x.con v.n)=true) ∨
  (x.kind=3∧pln v true false false false=true∧∃ it ∈ x.items,it.number=v.n) ∨
  (x.kind=4∧pln v false false false false=true) ∨
  ((x.kind=5 ∨ x.kind=6)∧pln v false true false false=true∧(v.b.length:Int) ≤ 70000∧(x.con.more || wthn x.con (v.b.length:Int))=true∧(x.kind=5 ∨ zcU v.b=some true)) ∨
  (x.kind=10∧pln v false false true false=true∧(x.con.more || wthn x.con (v.l.length:Int))=true∧∀ w ∈ v.l,F x.of w) ∨
  (x.kind=9∧pln v true false true false=true∧0 ≤ v.n∧∃ f w,x.fields[v.n.toNat]?=some f∧v.l=[w]∧F f.ty w) ∨
  ((x.kind=7 ∨ x.kind=8)∧pln v false false true true=true∧(v.more=[]→v.rule=0)∧v.l.length=x.fields.length ∧
    (∀ (k:Nat) f w,x.fields[k]?=some f→v.l[k]?=some w→FldF x F k f w)∧∀ s ∈ slots x,Grp x v s)
def Fit (t:GTab):Nat→Int→Val→Prop
  | 0,_,_=>False
  | h + 1,i,v=>0 ≤ i∧∃ x:GTyp,t.types[i.toNat]?=some x∧(v.kind=12 ∨ v.kind=x.kind∧FitK x v (Fit t h))
theorem zjT {l:List Int} {p:Int→Bool} {n:Nat} {y:Int} (h:l[n]?=some y):(l.take (n + 1)).any p=((l.take n).any p || p y):=by
  rw [List.take_add_one,h,List.any_append]
  simp
end Go.Proofs.Q


namespace Go.Proofs.Q
open Go.Sy
set_option linter.unusedVariables false

theorem znx {t:GTab} (ht:TabOk t) {h:Nat} {i:Int} {x:GTyp} {v:Val} {d:Int} {Fi Fs} (h0:0 ≤ i) (hx:t.types[i.toNat]?=some x) (hk:x.kind=7 ∨ x.kind=8) (hf:Fine v) (hc:cnt v ≤ 100000) (hd:0 ≤ d∧d ≤ 17)
    (ih:∀ (j:Int) w,w ∈ v.l→T (fun r=>r=true→Fit t h j w) (Fi t j w (d + 1))):T (fun r=>r=true→FitK x v (Fit t h)) (zd2 Fs Fi t i v d):=by
  unfold zd2
  have htl:=ht.types
  have hlt:=(List.getElem?_eq_some_iff.1 hx).1
  have hi:i < t.types.length:=by omega
  obtain ⟨j,hj⟩:=SubT.sub ht.kids i.toNat (by omega) (by omega)
  have hjl:=hj.inb
  obtain ⟨x',hx',hok,hkid⟩:=hj
  rw [hx] at hx';cases hx'
  have hfl:=zgg hkid hjl (by omega)
  have hr0:=hok.root0
  have hvl:=hf.l
  have eg:getI t.types i=some x:=by rw [zf9 h0 hi];exact congrArg some (List.getElem?_eq_some_iff.1 hx).2
  refine T.eq eg (T.eq (zdI v _ _ _ _) (T.or' ?_))
  refine T.jp (fun b=>b=false→pln v false false true true=true∧v.l.length=x.fields.length∧(v.more=[]→v.rule=0)) (fun J kk=>T.br (fun _=>kk _ fun h=>by cases h) fun h1=>T.cal (zp2 ht h0 hi hf) fun y _ hy=>kk _ fun h2=>?_) fun q7 h7=>T.br (fun _=>T.some fun h=>by cases h) fun hq=>?_
  · rw [Bool.or_eq_false_iff] at h1
    exact ⟨by simpa using h1.1,zpl h1.2,hy (by simpa using h2)⟩
  obtain ⟨hp,hlen,hrule⟩:=h7 hq
  refine T.lp (ι:=Int) (fun (q:Int)=>0 ≤ q∧q ≤ (x.fields.length:Int)∧∀ (k:Nat),(k:Int) < q→∀ f w,x.fields[k]?=some f→v.l[k]?=some w→FldF x (Fit t h) k f w) (fun (q:Int)=>((x.fields.length:Int) - q).toNat) ⟨Int.le_refl _,by omega,fun k hk=>by omega⟩ (by omega) fun L q ⟨q1,q2,q3⟩ hL=>T.br (fun hb=>?_) fun hb=>?_
  · have hb:=zOT hb
    refine T.jp (ι:=Unit) (fun _=>∀ f w,x.fields[q.toNat]?=some f→v.l[q.toNat]?=some w→FldF x (Fit t h) q.toNat f w) (fun J kk=>?_) fun _ hu=>T.ck (by omega) (hL _ ⟨by omega,by omega,fun k hk f w hkf hkw=>?_⟩ (by omega))
    · refine T.get q1 hb fun f hff=>T.or' (T.get q1 (by omega) fun w hw=>?_)
      have hwm:=List.mem_of_getElem? hw
      have hg:∀ {β:Type} {R:β→Prop} {K:Val→Option β},T R (K w)→T R (Sy.cal (getI v.l q) K):=fun hK=>T.get q1 (by omega) fun y hy=>by rw [hw] at hy;cases hy;exact hK
      have hcw:=zdh hwm
      refine T.br (fun hz=>hg ?_) fun hz=>hg ?_
      · have hz:=zOT hz
        refine T.cal (zhD (k:=100000) (n:=fuel) (by omega) (by unfold fuel;omega) (hf.kid w hwm) _) fun r _ hr=>T.orJ (d:=!(f.optional || f.has) && decide (q < x.root)) (fun J2 h2=>T.and' h2) (T.br (fun _=>T.some fun h=>by cases h) fun hq=>kk _ fun f' w' hf' hw'=>?_)
        rw [hff] at hf';cases hf'
        rw [hw] at hw';cases hw'
        rw [Bool.or_eq_false_iff] at hq
        refine .inl ⟨hz,hr.1 (by simpa using hq.1),?_⟩
        have h2:=hq.2
        rw [Bool.and_eq_false_iff] at h2
        rcases h2 with h2 | h2
        · have:(f.optional || f.has)=true:=nt h2
          rw [Bool.or_eq_true] at this
          exact this.elim .inl fun h=>.inr (.inl h)
        · have:=zOF h2
          exact .inr (.inr (by omega))
      · have hz:=zOF hz
        refine T.ck (by omega) (T.cal (ih f.ty w hwm) fun y _ hy=>?_)
        refine T.jp (fun b=>b=false→y=true∧(f.has=true→w ≠ f.dflt)) (fun J2 k2=>T.br (fun _=>k2 _ fun h=>by cases h) fun hy2=>?_) fun b hb2=>T.br (fun _=>T.some fun h=>by cases h) fun hq=>kk _ fun f' w' hf' hw'=>?_
        · have hy2:y=true:=by simpa using hy2
          refine T.jp (fun b=>b=false→f.has=true→w ≠ f.dflt) (fun J3 k3=>T.br (fun hh=>hg (T.cal (zhD (k:=100000) (n:=fuel) (by omega) (by unfold fuel;omega) (hf.kid w hwm) _) fun r _ hr=>k3 _ fun h1 _ h2=>?_)) fun hh=>k3 _ fun _ h=>by rw [hh] at h;cases h) fun b hb3=>k2 _ fun h=>⟨hy2,hb3 h⟩
          rw [hr.2 h2] at h1;cases h1
        · rw [hff] at hf';cases hf'
          rw [hw] at hw';cases hw'
          obtain ⟨b1,b2⟩:=hb2 hq
          exact .inr ⟨hz,hy b1,b2⟩
    · rcases Int.lt_or_le (k:Int) q with h4 | h4
      · exact q3 k h4 f w hkf hkw
      · have:k=q.toNat:=by omega
        subst this
        exact hu f w hkf hkw
  have hb:=zOF hb
  have hfields:∀ (k:Nat) f w,x.fields[k]?=some f→v.l[k]?=some w→FldF x (Fit t h) k f w:=fun k f w h1 h2=>q3 k (by have:=(List.getElem?_eq_some_iff.1 h1).1;omega) f w h1 h2
  clear hL q3
  refine T.eq (zjt ht i) ?_
  rw [zmv h0 hx hk]
  have hsl:=zmt hr0
  refine T.lp (ι:=Int) (fun (q:Int)=>0 ≤ q∧q ≤ ((slots x).length:Int)∧∀ (k:Nat),(k:Int) < q→∀ s,(slots x)[k]?=some s→Grp x v s) (fun (q:Int)=>(((slots x).length:Int) - q).toNat) ⟨Int.le_refl _,by omega,fun k hk=>by omega⟩ (by omega) fun L q ⟨q1,q2,q3⟩ hL=>T.br (fun hb=>?_) fun hb=>T.some fun _=>?_
  · have hb:=zOT hb
    obtain ⟨s,hs⟩:∃ s,(slots x)[q.toNat]?=some s:=⟨_,List.getElem?_eq_getElem (by omega)⟩
    have hg:∀ {β:Type} {R:β→Prop} {K:List Int→Option β},T R (K s)→T R (Sy.cal (getI (slots x) q) K):=fun hK=>T.get q1 hb fun y hy=>by rw [hs] at hy;cases hy;exact hK
    have hsm:=List.mem_of_getElem? hs
    obtain ⟨k0,r,e0,e1,e2⟩:=znT hr0 s hsm
    have hsl2:=zlD hr0 s hsm
    refine T.lp (ι:=Bool × Bool × Int) (fun p=>0 ≤ p.2.2∧p.2.2 ≤ (s.length:Int)∧p.1=(s.take p.2.2.toNat).any (thr v)∧p.2.1=(s.take p.2.2.toNat).any (lck x v)) (fun p=>((s.length:Int) - p.2.2).toNat) ⟨Int.le_refl _,by dsimp only;omega,rfl,rfl⟩ (by dsimp only;omega) fun L2 p ⟨p1,p2,p3,p4⟩ hL2=>hg (T.br (fun hc2=>?_) fun hc2=>?_)
    · obtain ⟨so,la,m⟩:=p
      dsimp only at p1 p2 p3 p4 hL2 hc2 ⊢
      have hc2:=zOT hc2
      have em:(m + 1).toNat=m.toNat + 1:=by omega
      refine hg (T.get p1 hc2 fun k hk=>?_)
      obtain ⟨k1,k2⟩:=e2 k (List.mem_of_getElem? hk)
      refine T.get (by omega) k2 fun f hff=>hg (T.get p1 hc2 fun k' hk'=>?_)
      rw [hk] at hk';cases hk'
      refine T.get (by omega) (by omega) fun w hw=>T.or' ?_
      have eth:(!decide (w.kind=0))=thr v k:=by unfold thr;rw [hw]
      have elk:(!(!decide (w.kind=0)) && (!f.optional) && (!f.has))=lck x v k:=by
        unfold lck
        rw [← eth,hff]
        show _=(!(!decide (w.kind=0)) && !(f.optional || f.has))
        cases decide (w.kind=0) <;> cases f.optional <;> cases f.has <;> rfl
      refine T.orJ (d:=lck x v k) (fun J h2=>T.and' (T.and' ?_)) (T.ck (by omega) (hL2 _ ⟨by dsimp only;omega,by dsimp only;omega,?_,?_⟩ (by dsimp only;omega)))
      · rw [elk];exact h2
      · dsimp only;rw [em,zjT hk,p3,eth]
      · dsimp only;rw [em,zjT hk,p4]
    · obtain ⟨so,la,m⟩:=p
      dsimp only at p1 p2 p3 p4 hL2 hc2 ⊢
      have hc2:=zOF hc2
      rw [List.take_of_length_le (by omega)] at p3 p4
      refine hg (T.get (Int.le_refl _) (by rw [e0,List.length_cons];omega) fun k hk=>?_)
      have ek:k=k0:=by rw [e0] at hk;simpa using hk.symm
      subst ek
      obtain ⟨k1,k2⟩:=e2 k (by rw [e0];exact List.mem_cons_self)
      refine T.get (by omega) k2 fun f hff=>T.and' (T.and' (T.br (fun _=>T.some fun h=>by cases h) fun hq=>T.ck (by omega) (hL _ ⟨by omega,by omega,fun n hn s' hs'=>?_⟩ (by omega))))
      rcases Int.lt_or_le (n:Int) q with h4 | h4
      · exact q3 n h4 s' hs'
      · have:n=q.toNat:=by omega
        subst this
        rw [hs] at hs';cases hs'
        unfold Grp
        have eg:grp x.fields (s.headD 0)=f.group:=by
          rw [e0]
          show grp x.fields k=_
          unfold grp
          rw [hff];rfl
        rw [eg,← p3,← p4]
        exact hq
  · have hb:=zOF hb
    refine .inr (.inr (.inr (.inr (.inr (.inr (.inr ⟨hk,hp,hrule,hlen,hfields,fun s hs=>?_⟩))))))
    obtain ⟨n,hn⟩:=List.mem_iff_getElem?.1 hs
    exact q3 n (by have:=(List.getElem?_eq_some_iff.1 hn).1;omega) s hn
theorem zp7 {t:GTab} (ht:TabOk t):∀ {h n:Nat} {i:Int} {v:Val} {d:Int},0 ≤ d→d + h=18→2 * h + 2 ≤ n→Fine v→cnt v ≤ 100000→T (fun r=>r=true→Fit t h i v) (zfK n t i v d):=by
  intro h
  induction h with
  | zero =>
    intro n i v d d0 hd hn hf hc
    obtain ⟨n,rfl⟩:∃ n',n=n' + 1:=⟨n - 1,by omega⟩
    show T _ (zew (zhB n) (zfK n) t i v d)
    unfold zew
    refine T.or' (T.or' (T.br (fun _=>T.some fun h=>by cases h) fun hq=>?_))
    rw [Bool.or_eq_false_iff] at hq
    have:=zOF hq.2
    omega
  | succ h ih =>
    intro n i v d d0 hd hn hf hc
    obtain ⟨n,rfl⟩:∃ n',n=n' + 2:=⟨n - 2,by omega⟩
    show T _ (zew (zhB (n + 1)) (zfK (n + 1)) t i v d)
    unfold zew
    have htl:=ht.types
    have hvl:=hf.l
    refine T.or' (T.or' (T.br (fun _=>T.some fun h=>by cases h) fun hq=>?_))
    rw [Bool.or_eq_false_iff,Bool.or_eq_false_iff] at hq
    have i0:0 ≤ i:=by have:=zOF hq.1.1;omega
    have i1:i < t.types.length:=by have:=zOF hq.1.2;omega
    obtain ⟨x,hx⟩:∃ x,t.types[i.toNat]?=some x:=⟨_,List.getElem?_eq_getElem (by omega)⟩
    obtain ⟨j,hj⟩:=SubT.sub ht.kids i.toNat (by omega) (by omega)
    have hjl:=hj.inb
    obtain ⟨x',hx',hok,hkid⟩:=hj
    rw [hx] at hx';cases hx'
    have hil:=hok.ilen
    have kid:∀ (j:Int) w,w ∈ v.l→T (fun r=>r=true→Fit t h j w) (zfK (n + 1) t j w (d + 1)):=fun j w hw=>ih (by omega) (by omega) (by omega) (hf.kid w hw) (by have:=zdh hw;omega)
    have mk:∀ r:Bool,v.kind=x.kind→(r=true→FitK x v (Fit t h))→(r=true→Fit t (h + 1) i v):=fun r e k hr=>⟨i0,x,hx,.inr ⟨e,k hr⟩⟩
    refine T.get i0 i1 fun y hy=>?_
    rw [hx] at hy;cases hy
    refine T.br (fun h12=>T.cal (zmb ht i0 i1 hf) fun y _ _=>T.some fun _=>⟨i0,x,hx,.inl (zOT h12)⟩) fun h12=>T.br (fun _=>T.some fun h=>by cases h) fun hkk=>?_
    have hkk:v.kind=x.kind:=by simpa using hkk
    refine T.br (fun k1=>?_) fun _=>T.br (fun k2=>?_) fun _=>T.br (fun k3=>?_) fun _=>T.br (fun k4=>?_) fun _=>?_
    · refine T.eq (zdI v _ _ _ _) (T.andJ (d:=decide (v.n=0) || decide (v.n=1)) (fun J hh=>T.or' hh) (T.some (mk _ hkk fun hr=>?_)))
      rw [Bool.and_eq_true] at hr
      exact .inl ⟨zOT k1,hr.1,hr.2⟩
    · refine T.eq (zdI v _ _ _ _) (T.andJ (d:=x.con.more || wthn x.con v.n) (fun J hh=>T.orJ (d:=wthn x.con v.n) (fun J2 h2=>T.eq (zjN _ _) h2) hh) (T.some (mk _ hkk fun hr=>?_)))
      rw [Bool.and_eq_true] at hr
      exact .inr (.inl ⟨zOT k2,hr.1,hr.2⟩)
    · refine T.eq (zdI v _ _ _ _) (T.jp (fun b=>b=true→pln v true false false false=true∧∃ it ∈ x.items,it.number=v.n) (fun J kk=>T.br (fun hp=>T.cal (zpD x v.n (by omega)) fun y _ hy=>kk _ fun h=>⟨hp,hy (zOT h)⟩) fun _=>kk _ fun h=>by cases h) fun b hb=>T.some (mk _ hkk fun hr=>?_))
      exact .inr (.inr (.inl ⟨zOT k3,(hb hr).1,(hb hr).2⟩))
    · exact T.eq (zdI v _ _ _ _) (T.some (mk _ hkk fun hr=>.inr (.inr (.inr (.inl ⟨zOT k4,hr⟩)))))
    refine T.jp (fun b=>b=true→x.kind=5 ∨ x.kind=6) (fun J kk=>T.br (fun h5=>kk _ fun _=>.inl (zOT h5)) fun _=>kk _ fun h=>.inr (zOT h)) fun b56 h56=>T.br (fun hb=>?_) fun _=>T.br (fun k10=>?_) fun _=>T.br (fun k9=>?_) fun _=>?_
    · refine T.eq (zdI v _ _ _ _) (T.and' (T.andJ (d:=x.con.more || wthn x.con (v.b.length:Int)) (fun J hh=>T.orJ (d:=wthn x.con (v.b.length:Int)) (fun J2 h2=>T.eq (zjN _ _) h2) hh) ?_))
      refine T.jp (fun b=>b=true→(pln v false true false false=true∧(v.b.length:Int) ≤ 70000∧(x.con.more || wthn x.con (v.b.length:Int))=true)∧(x.kind=5 ∨ zcU v.b=some true)) (fun J kk=>T.br (fun hp=>?_) fun _=>kk _ fun h=>by cases h) fun b hb2=>T.some (mk _ hkk fun hr=>?_)
      · rw [Bool.and_eq_true,Bool.and_eq_true] at hp
        have hp1:=zOT hp.1.2
        refine T.jp (fun b=>b=true→x.kind=5 ∨ zcU v.b=some true) (fun J2 k2=>T.br (fun h5=>k2 _ fun _=>.inl (zOT h5)) fun _=>T.cal (zoj v.b (by omega)) fun y hy _=>k2 _ fun h=>.inr (by rw [hy,h])) fun b hb3=>kk _ fun h=>⟨⟨hp.1.1,hp1,hp.2⟩,hb3 h⟩
      · obtain ⟨⟨r1,r2,r3⟩,r4⟩:=hb2 hr
        exact .inr (.inr (.inr (.inr (.inl ⟨h56 hb,r1,r2,r3,r4⟩))))
    · refine T.eq (zdI v _ _ _ _) (T.orJ (d:=!x.con.more && !wthn x.con (v.l.length:Int)) (fun J hh=>T.andJ (d:=!wthn x.con (v.l.length:Int)) (fun J2 h2=>T.eq (zjN _ _) h2) hh) (T.br (fun _=>T.some fun h=>by cases h) fun hq2=>?_))
      rw [Bool.or_eq_false_iff] at hq2
      have hp:pln v false false true false=true:=by simpa using hq2.1
      have hw:(x.con.more || wthn x.con (v.l.length:Int))=true:=by
        have:=hq2.2
        cases h1:x.con.more <;> cases h2:wthn x.con (v.l.length:Int) <;> simp_all
      refine T.lp (ι:=Int) (fun (q:Int)=>0 ≤ q∧q ≤ (v.l.length:Int)∧∀ (k:Nat),(k:Int) < q→∀ w,v.l[k]?=some w→Fit t h x.of w) (fun (q:Int)=>((v.l.length:Int) - q).toNat) ⟨Int.le_refl _,by omega,fun k hk=>by omega⟩ (by omega) fun L q ⟨q1,q2,q3⟩ hL=>T.br (fun hb=>?_) fun hb=>T.some (mk _ hkk fun _=>?_)
      · have hb:=zOT hb
        refine T.get q1 hb fun w hw=>T.ck (by omega) (T.cal (kid x.of w (List.mem_of_getElem? hw)) fun y _ hy=>T.br (fun _=>T.some fun h=>by cases h) fun hy2=>T.ck (by omega) (hL _ ⟨by omega,by omega,fun k hk w' hw'=>?_⟩ (by omega)))
        rcases Int.lt_or_le (k:Int) q with h4 | h4
        · exact q3 k h4 w' hw'
        · have:k=q.toNat:=by omega
          subst this
          rw [hw] at hw';cases hw'
          exact hy (by simpa using hy2)
      · have hb:=zOF hb
        refine .inr (.inr (.inr (.inr (.inr (.inl ⟨zOT k10,hp,hw,fun w hw=>?_⟩)))))
        obtain ⟨k,hk⟩:=List.mem_iff_getElem?.1 hw
        exact q3 k (by have:=(List.getElem?_eq_some_iff.1 hk).1;omega) w hk
    · refine T.eq (zdI v _ _ _ _) (T.and' (T.and' (T.and' ?_)))
      refine T.jp (fun b=>b=true→FitK x v (Fit t h)) (fun J kk=>T.br (fun hp=>?_) fun _=>kk _ fun h=>by cases h) fun b hb=>T.some (mk _ hkk hb)
      rw [Bool.and_eq_true,Bool.and_eq_true,Bool.and_eq_true] at hp
      have hn0:=zOT hp.1.1.2
      have hn1:=zOT hp.1.2
      have hl1:=zOT hp.2
      refine T.get hn0 hn1 fun f hff=>T.get (Int.le_refl _) (by omega) fun w hw=>T.ck (by omega) (T.cal (kid f.ty w (List.mem_of_getElem? hw)) fun y _ hy=>kk _ fun hr=>?_)
      have hvl:v.l=[w]:=by
        match hl:v.l,hl1,hw with
        | [w'],_,hw =>
          have:w'=w:=by simpa using hw
          rw [this]
      exact .inr (.inr (.inr (.inr (.inr (.inr (.inl ⟨zOT k9,hp.1.1.1,hn0,f,w,hff,hvl,hy hr⟩))))))
    · refine T.jp (fun b=>b=true→x.kind=7 ∨ x.kind=8) (fun J kk=>T.br (fun h5=>kk _ fun _=>.inl (zOT h5)) fun _=>kk _ fun h=>.inr (zOT h)) fun b78 h78=>T.br (fun hb=>?_) fun _=>T.some fun h=>by cases h
      refine T.cal (Q:=fun r=>r=true→FitK x v (Fit t h)) ?_ fun y _ hy=>T.some (mk _ hkk hy)
      show T _ (zd2 (zhB n) (zfK n) t i v d)
      exact znx ht i0 hx (h78 hb) hf hc (by omega) fun j w hw=>ih (by omega) (by omega) (by omega) (hf.kid w hw) (by have:=zdh hw;omega)
end Go.Proofs.Q


namespace Go.Proofs.Q
open Go.Sy
set_option linter.unusedVariables false

theorem zpy (x y:Raw):T (fun r=>r=true ↔ x=y) (zef x y):=by
  unfold zef
  refine T.andI (P:=x.n=y.n) (Q:=x.b=y.b) decide_eq_true_iff (fun J kk=>T.eq (y:=decide (Str.mk x.b=Str.mk y.b)) rfl (kk _ ?_)) fun b hb=>T.some ?_
  · rw [decide_eq_true_iff]
    exact ⟨fun h=>congrArg Str.b h,fun h=>by rw [h]⟩
  · rw [hb]
    obtain ⟨a,b⟩:=x
    obtain ⟨c,d⟩:=y
    exact ⟨fun ⟨h1,h2⟩=>(by cases h1;cases h2;rfl),fun h=>by cases h;exact ⟨rfl,rfl⟩⟩
theorem zqc:∀ {k n:Nat} {f:Val},cnt f ≤ k→2 * k ≤ n→Fine f→∀ g,T (fun r=>r=true ↔ f=g) (zfn n f g):=by
  intro k
  induction k with
  | zero=>intro n f h;have:=zeR f;omega
  | succ k ih =>
    intro n f hk hn hf g
    obtain ⟨n,rfl⟩:∃ n',n=n' + 2:=⟨n - 2,by omega⟩
    show T _ (ze6 (zfn (n + 1)) (zaO (n + 1)) f g)
    unfold ze6
    refine T.andI (P:=f.kind=g.kind) (Q:=f.n=g.n) decide_eq_true_iff (fun J kk=>kk _ decide_eq_true_iff) fun b1 h1=>?_
    refine T.andI (Q:=f.b=g.b) h1 (fun J kk=>T.eq (y:=decide (Str.mk f.b=Str.mk g.b)) rfl (kk _ ?_)) fun b2 h2=>?_
    · rw [decide_eq_true_iff]
      exact ⟨fun h=>congrArg Str.b h,fun h=>by rw [h]⟩
    refine T.andI (Q:=f.l=g.l) h2 (fun J kk=>T.cal (Q:=fun r=>r=true ↔ f.l=g.l) ?_ fun r _ hr=>kk _ hr) fun b3 h3=>?_
    · show T _ (zan (zfn n) (zaO n) f.l g.l)
      unfold zan
      exact zkb f.l g.l hf.l (fun x hx y=>ih (by have:=zdh hx;omega) (by omega) (hf.kid x hx) y) fun L q=>rfl
    refine T.andI (Q:=f.rule=g.rule) h3 (fun J kk=>kk _ decide_eq_true_iff) fun b4 h4=>?_
    refine T.andI (Q:=f.more=g.more) h4 (fun J kk=>T.cal (Q:=fun r=>r=true ↔ f.more=g.more) ?_ fun r _ hr=>kk _ hr) fun b5 h5=>T.some ?_
    · unfold zaH
      exact zkb f.more g.more hf.more (fun x hx y=>zpy x y) fun L q=>rfl
    · rw [h5,← Val.eta f,← Val.eta g]
      constructor
      · rintro ⟨⟨⟨⟨⟨e1,e2⟩,e3⟩,e4⟩,e5⟩,e6⟩
        simp only [Val.eta] at e1 e2 e3 e4 e5 e6
        rw [e1,e2,e3,e4,e5,e6]
      · intro h
        rw [Val.eta,Val.eta] at h
        subst h
        exact ⟨⟨⟨⟨⟨rfl,rfl⟩,rfl⟩,rfl⟩,rfl⟩,rfl⟩

/-! ### Stripped -/
theorem zlO {v:Val} (h:bare (strip v)=true):v.kind ≠ 12∧∀ w ∈ v.l,bare (strip w)=true:=by
  have hk:v.kind ≠ 12:=fun hk=>by
    rw [zeh,if_pos hk,zlb] at h
    cases h
  refine ⟨hk,fun w hw=>?_⟩
  rw [zeh,if_neg hk,zlb] at h
  have h2:=(Bool.and_eq_true_iff.1 h).2
  exact List.all_eq_true.1 h2 _ (List.mem_map.2 ⟨strip w,List.mem_map.2 ⟨w,hw,rfl⟩,rfl⟩)
theorem zix {v:Val} (hk:v.kind ≠ 12):strip v=Val.mk v.kind v.n v.b (v.l.map strip) 0 []:=by rw [zeh,if_neg hk]
theorem zgw (v:Val):(strip v).kind=v.kind:=by
  rw [zeh]
  split
  · rename_i h;exact h.symm
  · rfl
theorem zju:strip zeroV=zeroV:=by rw [zix (by decide)];rfl
theorem zjp:∀ (n:Nat) (v:Val),cnt v ≤ n→Fine v→Fine (strip v):=by
  intro n
  induction n with
  | zero=>intro v h;have:=zeR v;omega
  | succ n ih =>
    intro v hn hf
    rw [zeh]
    split
    · exact .mk (Nat.zero_le _) (Nat.zero_le _) (Nat.zero_le _) (fun r hr=>by cases hr) fun w hw=>by cases hw
    · refine .mk hf.b (by show (v.l.map strip).length ≤ _;rw [List.length_map];exact hf.l) (Nat.zero_le _) (fun r hr=>by cases hr) fun w hw=>?_
      obtain ⟨w',h1,h2⟩:=List.mem_map.1 (show w ∈ v.l.map strip from hw)
      subst h2
      exact ih w' (by have:=zdh h1;omega) (hf.kid w' h1)
theorem zpL {v:Val} (hk:v.kind ≠ 12) {n b l m m':Bool} (h:pln v n b l m=true):pln (strip v) n b l m'=true:=by
  rw [zix hk]
  unfold pln at h ⊢
  rw [Bool.and_eq_true] at h
  rw [Bool.and_eq_true]
  refine ⟨?_,?_⟩
  · show ((n || decide (v.n=0)) && (b || decide ((v.b.length:Int)=0)) && (l || decide (((v.l.map strip).length:Int)=0)))=true
    rw [List.length_map];exact h.1
  · show (m' || (decide ((0:Int)=0) && decide (((0:Nat):Int)=0)))=true
    cases m' <;> rfl
theorem zek {v:Val} {n b:Bool} (hk:v.kind ≠ 12) (h:pln v n b false false=true):strip v=v:=by
  unfold pln at h
  simp only [Bool.false_or,Bool.and_eq_true,decide_eq_true_eq] at h
  obtain ⟨⟨⟨_,_⟩,h3⟩,h4,h5⟩:=h
  have e1:v.l=[]:=List.length_eq_zero_iff.1 (by omega)
  have e2:v.more=[]:=List.length_eq_zero_iff.1 (by omega)
  rw [zix hk,e1,← h4,← e2,List.map_nil,← e1]
  exact Val.eta v
theorem zqJ {x:GTyp} {v:Val} {F:Int→Val→Prop} (h:FitK x v F) (h6:x.kind ≤ 6) (hk:v.kind ≠ 12):strip v=v:=by
  rcases h with ⟨_,h,_⟩ | ⟨_,h,_⟩ | ⟨_,h,_⟩ | ⟨_,h⟩ | ⟨_,h,_⟩ | ⟨h1,_⟩ | ⟨h1,_⟩ | ⟨h1,_⟩
  · exact zek hk h
  · exact zek hk h
  · exact zek hk h
  · exact zek hk h
  · exact zek hk h
  · omega
  · omega
  · omega
theorem zqt {t:GTab}:∀ {h:Nat} {i:Int} {v:Val},Fit t h i v→bare v=true→strip v=v:=by
  intro h
  induction h with
  | zero=>intro i v hf;exact hf.elim
  | succ h ih =>
    intro i v ⟨_,x,hx,hf⟩ hb
    rw [zlb,Bool.and_eq_true] at hb
    have hb1:(decide (v.kind=12) || decide (0 < v.more.length))=false:=by simpa using hb.1
    rw [Bool.or_eq_false_iff] at hb1
    have hk:=zOF hb1.1
    have hm:v.more=[]:=List.length_eq_zero_iff.1 (by have:=zOF hb1.2;omega)
    have hkid:∀ w ∈ v.l,bare w=true:=fun w hw=>List.all_eq_true.1 hb.2 _ (List.mem_map.2 ⟨w,hw,rfl⟩)
    have hf:=hf.resolve_left hk
    have fin:v.rule=0→(∀ w ∈ v.l,strip w=w)→strip v=v:=fun hr hl=>by
      have:v.l.map strip=v.l:=by
        conv=>rhs;rw [← List.map_id v.l]
        exact List.map_congr_left fun w hw=>hl w hw
      rw [zix hk,this]
      conv=>rhs;rw [← Val.eta v,hr,hm]
    have pl:∀ {n b l:Bool},pln v n b l false=true→v.rule=0:=fun h=>by
      unfold pln at h
      simp only [Bool.false_or,Bool.and_eq_true,decide_eq_true_eq] at h
      exact h.2.1
    rcases hf.2 with ⟨_,h,_⟩ | ⟨_,h,_⟩ | ⟨_,h,_⟩ | ⟨_,h⟩ | ⟨_,h,_⟩ | ⟨_,h,_,h2⟩ | ⟨_,h,_,f,w,_,h2,h3⟩ | ⟨_,h,hr,hl,h2,_⟩
    · exact zek hk h
    · exact zek hk h
    · exact zek hk h
    · exact zek hk h
    · exact zek hk h
    · exact fin (pl h) fun w hw=>ih (h2 w hw) (hkid w hw)
    · refine fin (pl h) fun w' hw=>?_
      rw [h2] at hw
      rw [List.mem_singleton.1 hw]
      exact ih h3 (hkid w (by rw [h2];exact List.mem_singleton.2 rfl))
    · refine fin (hr hm) fun w hw=>?_
      obtain ⟨k,hkw⟩:=List.mem_iff_getElem?.1 hw
      have hlt:=(List.getElem?_eq_some_iff.1 hkw).1
      obtain ⟨f,hf⟩:∃ f,x.fields[k]?=some f:=⟨_,List.getElem?_eq_getElem (by omega)⟩
      rcases h2 k f w hf hkw with ⟨_,e,_⟩ | ⟨_,e,_⟩
      · rw [e];exact zju
      · exact ih e (hkid w hw)

/-! ### The code's side -/
def zlM (t:GTab) (b:Bool):GChk:=GChk.mk (GTbd.mk t) b
theorem zqf {x:GTyp} {k:Int} {f:GFld} (h0:0 ≤ k) (hf:x.fields[k.toNat]?=some f):zeK x k=some (f.optional || f.has || decide (x.root ≤ k)):=by
  have hlt:=(List.getElem?_eq_some_iff.1 hf).1
  have e:getI x.fields k=some f:=by rw [zf9 h0 (by omega)];exact congrArg some (List.getElem?_eq_some_iff.1 hf).2
  refine T.eqs ?_
  unfold zeK
  refine T.eq e (T.orJ (d:=f.has) (fun J h=>T.eq e h) (T.or' (T.some rfl)))
theorem zoQ {t:GTab} (ht:TabOk t) {b:Bool} {i:Int} {x:GTyp} {v:Val} (h0:0 ≤ i) (hx:t.types[i.toNat]?=some x) (hk:x.kind=7 ∨ x.kind=8) (hlen:v.l.length=x.fields.length)
    (hw:∀ w ∈ v.l,w.kind=0→w=zeroV) (hg:∀ s ∈ slots x,Grp x v s) (hfl:x.fields.length ≤ 1000) (hr0:0 ≤ x.root):zcj (zlM t b) i v=some (true,zlM t b):=by
  refine T.eqs ?_
  unfold zcj
  have hlt:=(List.getElem?_eq_some_iff.1 hx).1
  have e:getI t.types i=some x:=by rw [zf9 h0 (by omega)];exact congrArg some (List.getElem?_eq_some_iff.1 hx).2
  refine T.eq e (T.eq (zqe ht i) ?_)
  rw [zmv h0 hx hk]
  have hsl:=zmt hr0
  refine T.lp (ι:=Int) (fun (q:Int)=>0 ≤ q∧q ≤ ((slots x).length:Int)) (fun (q:Int)=>(((slots x).length:Int) - q).toNat) ⟨Int.le_refl _,by omega⟩ (by omega) fun L q ⟨q1,q2⟩ hL=>T.br (fun hb=>?_) fun hb=>T.some rfl
  have hb:=zOT hb
  refine T.jp (ι:=Unit) (fun _=>True) (fun J kk=>?_) fun _ _=>T.ck (by omega) (hL _ ⟨by omega,by omega⟩ (by omega))
  refine T.get q1 hb fun s hs=>?_
  have hsm:=List.mem_of_getElem? hs
  obtain ⟨k0,r,e0,e1,e2⟩:=znT hr0 s hsm
  have hsl2:=zlD hr0 s hsm
  obtain ⟨k1,k2⟩:=e2 k0 (by rw [e0];exact List.mem_cons_self)
  refine T.get (Int.le_refl _) (by rw [e0,List.length_cons];omega) fun k hk'=>?_
  have ek:k=k0:=by rw [e0] at hk';simpa using hk'.symm
  subst ek
  refine T.get (by omega) k2 fun f hff=>T.br (fun _=>kk _ trivial) fun hgz=>?_
  have hgz:=zOF hgz
  have eg:grp x.fields k=f.group:=by unfold grp;rw [hff];rfl
  refine T.lp (ι:=Bool × Bool × Int) (fun p=>0 ≤ p.2.2∧p.2.2 ≤ (s.length:Int)∧p.1=(s.take p.2.2.toNat).any (thr v)∧p.2.1=(s.take p.2.2.toNat).any (lck x v)) (fun p=>((s.length:Int) - p.2.2).toNat) ⟨Int.le_refl _,by dsimp only;omega,rfl,rfl⟩ (by dsimp only;omega) fun L2 p ⟨p1,p2,p3,p4⟩ hL2=>T.br (fun hc2=>?_) fun hc2=>?_
  · obtain ⟨so,la,m⟩:=p
    dsimp only at p1 p2 p3 p4 hL2 hc2 ⊢
    have hc2:=zOT hc2
    have em:(m + 1).toNat=m.toNat + 1:=by omega
    refine T.get p1 hc2 fun k hk=>?_
    obtain ⟨k1,k2⟩:=e2 k (List.mem_of_getElem? hk)
    refine T.get (by omega) (by omega) fun w hwk=>T.eq (zmz w) ?_
    have ea:(decide (w.kind=0) && pln w false false false false)=decide (w.kind=0):=by
      by_cases hz:w.kind=0
      · rw [zqT.2 (hw w (List.mem_of_getElem? hwk) hz),zDT hz]
      · rw [zDF hz];rfl
    rw [ea]
    obtain ⟨f',hf'⟩:∃ f,x.fields[k.toNat]?=some f:=⟨_,List.getElem?_eq_getElem (by omega)⟩
    have e':getI x.fields k=some f':=by rw [zf9 (by omega) (by omega)];exact congrArg some (List.getElem?_eq_some_iff.1 hf').2
    have eth:(!decide (w.kind=0))=thr v k:=by unfold thr;rw [hwk]
    have elk:(!(!decide (w.kind=0)) && (!f'.optional) && (!f'.has))=lck x v k:=by
      unfold lck
      rw [← eth,hf']
      show _=(!(!decide (w.kind=0)) && !(f'.optional || f'.has))
      cases decide (w.kind=0) <;> cases f'.optional <;> cases f'.has <;> rfl
    refine T.or' (T.orJ (d:=lck x v k) (fun J h2=>T.andJ (d:=!f'.optional) (fun J3 h3=>T.eq e' h3) (T.andJ (d:=!f'.has) (fun J3 h3=>T.eq e' h3) ?_)) (T.ck (by omega) (hL2 _ ⟨by dsimp only;omega,by dsimp only;omega,?_,?_⟩ (by dsimp only;omega))))
    · rw [elk];exact h2
    · dsimp only;rw [em,zjT hk,p3,eth]
    · dsimp only;rw [em,zjT hk,p4]
  · obtain ⟨so,la,m⟩:=p
    dsimp only at p1 p2 p3 p4 hL2 hc2 ⊢
    have hc2:=zOF hc2
    rw [List.take_of_length_le (by omega)] at p3 p4
    refine T.and' ?_
    have hno:(so && la)=false:=by
      rcases e1 with e1 | e1
      · rw [p3,p4,e0,e1]
        unfold lck
        show ((thr v k || false) && ((!thr v k && _) || false))=false
        cases thr v k <;> rfl
      · have:=hg s hsm
        unfold Grp at this
        have eh:s.headD 0=k:=by rw [e0];rfl
        rw [eh,zDT e1,Bool.true_and] at this
        rw [p3,p4];exact this
    rw [hno]
    exact T.br (fun h=>by cases h) fun _=>kk _ trivial
theorem zq4 {t:GTab} (ht:TabOk t) {b:Bool}:∀ {h n:Nat} {i:Int} {v:Val} {d:Int},0 ≤ d→d + h=18→6 * h + 6 ≤ n→Fine v→cnt v ≤ 100000→Fit t h i v→bare (strip v)=true→za5 n (zlM t b) i (strip v) d=some (true,zlM t b):=by
  intro h
  induction h with
  | zero=>intro n i v d _ _ _ _ _ hf;exact hf.elim
  | succ h ih =>
    intro n i v d d0 hd hn hf hc hfit hb
    obtain ⟨n,rfl⟩:∃ n',n=n' + 6:=⟨n - 6,by omega⟩
    obtain ⟨hk12,hkb⟩:=zlO hb
    obtain ⟨i0,x,hx,hfk⟩:=hfit
    obtain ⟨hkk,hfk⟩:=hfk.resolve_left hk12
    have htl:=ht.types
    have hvl:=hf.l
    have hlt:=(List.getElem?_eq_some_iff.1 hx).1
    obtain ⟨j,hj⟩:=SubT.sub ht.kids i.toNat (by omega) (by omega)
    have hjl:=hj.inb
    obtain ⟨x',hx',hok,hkid⟩:=hj
    rw [hx] at hx';cases hx'
    have hfl:=zgg hkid hjl (by omega)
    have hil:=hok.ilen
    have es:=zix hk12
    have esl:(strip v).l=v.l.map strip:=by rw [es];rfl
    have esk:(strip v).kind=v.kind:=zgw v
    have esn:(strip v).n=v.n:=by rw [es];rfl
    have esb:(strip v).b=v.b:=by rw [es];rfl
    have eg:getI t.types i=some x:=by rw [zf9 i0 (by omega)];exact congrArg some (List.getElem?_eq_some_iff.1 hx).2
    refine T.eqs ?_
    show T _ (zcf (zbo (n + 5)) (za5 (n + 5)) (zbL (n + 5)) (zaw (n + 5)) (zaA (n + 5)) (zby (n + 5)) (zlM t b) i (strip v) d)
    unfold zcf
    refine T.or' (T.or' (T.br (fun hq=>?_) fun _=>?_))
    · rw [Bool.or_eq_true,Bool.or_eq_true] at hq
      rcases hq with (hq | hq) | hq
      · have:=zOT hq;omega
      · have:=zOT hq
        have:(t.types.length:Int) ≤ i:=this
        omega
      · have:=zOT hq;omega
    refine T.eq eg (T.br (fun h=>absurd (zOT h) (by rw [esk];exact hk12)) fun _=>T.br (fun h=>?_) fun _=>?_)
    · rw [esk,hkk] at h
      simp at h
    have P:∀ {n' b' l' m':Bool},pln v n' b' l' m'=true→∀ m2,pln (strip v) n' b' l' m2=true:=fun h m2=>zpL hk12 h
    rcases hfk with ⟨k,h1,h2⟩ | ⟨k,h1,h2⟩ | ⟨k,h1,h2⟩ | ⟨k,h1⟩ | ⟨k,h1,h2,h3,h4⟩ | ⟨k,h1,h2,h3⟩ | ⟨k,h1,h2,f,w,h3,h4,h5⟩ | ⟨k,h1,h2,h3,h4,h5⟩
    · refine T.br (fun _=>?_) fun h=>absurd k (zOF h)
      refine T.eq (zdW _ _ (by decide)) (T.andJ (d:=decide ((strip v).n=0) || decide ((strip v).n=1)) (fun J hh=>T.or' hh) (T.some ?_))
      have e:pln (strip v) (!decide (andI 1 1=0)) (!decide (andI 1 2=0)) (!decide (andI 1 4=0)) (!decide (andI 1 8=0))=true:=P h1 false
      rw [e,esn,h2];rfl
    · refine T.br (fun h=>absurd (zOT h) (by rw [k];decide)) fun _=>T.br (fun _=>?_) fun h=>absurd k (zOF h)
      refine T.eq (zdW _ _ (by decide)) (T.andJ (d:=x.con.more || wthn x.con (strip v).n) (fun J hh=>T.orJ (d:=wthn x.con (strip v).n) (fun J2 h2=>T.eq (zjI _ _) h2) hh) (T.some ?_))
      have e:pln (strip v) (!decide (andI 1 1=0)) (!decide (andI 1 2=0)) (!decide (andI 1 4=0)) (!decide (andI 1 8=0))=true:=P h1 false
      rw [e,esn,h2];rfl
    · refine T.br (fun h=>absurd (zOT h) (by rw [k];decide)) fun _=>T.br (fun h=>absurd (zOT h) (by rw [k];decide)) fun _=>T.br (fun _=>?_) fun h=>absurd k (zOF h)
      have e:pln (strip v) (!decide (andI 1 1=0)) (!decide (andI 1 2=0)) (!decide (andI 1 4=0)) (!decide (andI 1 8=0))=true:=P h1 false
      refine T.eq (zdW _ _ (by decide)) (T.jp (fun b=>b=true) (fun J hh=>T.br (fun _=>?_) fun h=>by rw [e] at h;cases h) fun b hb=>T.some (by rw [hb]))
      refine T.cal (zrg x (strip v).n (by omega) (by rw [esn];exact h2)) fun r _ hr=>hh _ (zDT hr)
    · refine T.br (fun h=>absurd (zOT h) (by rw [k];decide)) fun _=>T.br (fun h=>absurd (zOT h) (by rw [k];decide)) fun _=>T.br (fun h=>absurd (zOT h) (by rw [k];decide)) fun _=>T.br (fun _=>?_) fun h=>absurd k (zOF h)
      have e:pln (strip v) (!decide (andI 0 1=0)) (!decide (andI 0 2=0)) (!decide (andI 0 4=0)) (!decide (andI 0 8=0))=true:=P h1 false
      exact T.eq (zdW _ _ (by decide)) (T.some (by rw [e]))
    all_goals refine T.br (fun h=>absurd (zOT h) (by omega)) fun _=>T.br (fun h=>absurd (zOT h) (by omega)) fun _=>T.br (fun h=>absurd (zOT h) (by omega)) fun _=>T.br (fun h=>absurd (zOT h) (by omega)) fun _=>?_
    · refine T.jp (fun b=>b=true) (fun J kk=>T.br (fun h=>kk _ h) fun h=>kk _ (zDT (k.resolve_left (zOF h)))) fun b56 hb56=>?_
      subst hb56
      refine T.br (fun _=>?_) fun h=>by cases h
      refine T.eq (y:=(true,zlM t b)) ?_ (T.some rfl)
      refine T.eqs ?_
      unfold zcR
      have e:pln (strip v) (!decide (andI 2 1=0)) (!decide (andI 2 2=0)) (!decide (andI 2 4=0)) (!decide (andI 2 8=0))=true:=P h1 false
      refine T.eq (zdW _ _ (by decide)) (T.and' (T.andJ (d:=x.con.more || wthn x.con ((strip v).b.length:Int)) (fun J hh=>T.orJ (d:=wthn x.con ((strip v).b.length:Int)) (fun J2 h2=>T.eq (zjI _ _) h2) hh) ?_))
      rw [e,esb,h3,zDT h2]
      refine T.jp (fun b=>b=true) (fun J kk=>T.br (fun _=>?_) fun h=>by cases h) fun c hc=>T.some (by rw [hc])
      refine T.jp (fun b=>b=true) (fun J2 k2=>T.br (fun h5=>k2 _ rfl) fun h5=>T.eq (h4.resolve_left (zOF h5)) (k2 _ rfl)) fun c hc=>kk _ hc
    all_goals refine T.jp (fun b=>b=false) (fun J kk=>T.br (fun h=>absurd (zOT h) (by omega)) fun h=>kk _ (zDF (by omega))) fun b56 hb56=>T.br (fun h=>by rw [hb56] at h;cases h) fun _=>?_
    · refine T.br (fun _=>?_) fun h=>absurd k (zOF h)
      refine T.eq (y:=(true,zlM t b)) ?_ (T.some rfl)
      refine T.eqs ?_
      show T _ (zcc (zbo (n + 4)) (za5 (n + 4)) (zbL (n + 4)) (zaw (n + 4)) (zaA (n + 4)) (zby (n + 4)) (zlM t b) x (strip v) d)
      unfold zcc
      have e:pln (strip v) (!decide (andI 4 1=0)) (!decide (andI 4 2=0)) (!decide (andI 4 4=0)) (!decide (andI 4 8=0))=true:=P h1 false
      refine T.eq (zdW _ _ (by decide)) (T.andJ (d:=x.con.more || wthn x.con ((strip v).l.length:Int)) (fun J hh=>T.orJ (d:=wthn x.con ((strip v).l.length:Int)) (fun J2 h2=>T.eq (zjI _ _) h2) hh) ?_)
      rw [e,esl,List.length_map,h2]
      refine T.jp (ι:=Bool × GChk) (fun p=>p=(true,zlM t b)) (fun J kk=>T.br (fun _=>?_) fun h=>by cases h) fun p hp=>T.some (by rw [hp])
      refine T.eq (y:=(false,zlM t b)) ?_ (kk _ rfl)
      refine T.eqs ?_
      show T _ (zaK (zbo (n + 3)) (za5 (n + 3)) (zbL (n + 3)) (zaw (n + 3)) (zaA (n + 3)) (zby (n + 3)) (v.l.map strip) (zlM t b) x d)
      unfold zaK
      refine T.eq (y:=((-1:Int),zlM t b)) ?_ (T.some rfl)
      refine T.eqs ?_
      show T _ (zaP (zbo (n + 2)) (za5 (n + 2)) (zbL (n + 2)) (zaw (n + 2)) (zaA (n + 2)) (zby (n + 2)) (v.l.map strip) (zlM t b) x d)
      unfold zaP
      refine T.lp (ι:=Int × GChk) (fun q=>0 ≤ q.1∧q.1 ≤ (v.l.length:Int)∧q.2=zlM t b) (fun q=>((v.l.length:Int) - q.1).toNat) ⟨Int.le_refl _,by dsimp only;omega,rfl⟩ (by dsimp only;omega) fun L q ⟨q1,q2,q3⟩ hL=>T.br (fun hb2=>?_) fun _=>T.some (by rw [q3])
      obtain ⟨q,c⟩:=q
      dsimp only at q1 q2 q3 hL hb2 ⊢
      subst q3
      have hb2:=zOT hb2
      rw [List.length_map] at hb2
      refine T.get q1 (by rw [List.length_map];exact hb2) fun y hy=>?_
      rw [List.getElem?_map] at hy
      obtain ⟨w,hw1,hw2⟩:=Option.map_eq_some_iff.1 hy
      subst hw2
      have hwm:=List.mem_of_getElem? hw1
      refine T.eq (y:=(false,zlM t b)) ?_ (T.br (fun h=>by cases h) fun _=>T.ck (by omega) (hL _ ⟨by dsimp only;omega,by dsimp only;omega,rfl⟩ (by dsimp only;omega)))
      refine T.eqs ?_
      show T _ (zbR (zbo (n + 1)) (za5 (n + 1)) (zbL (n + 1)) (zaw (n + 1)) (zaA (n + 1)) (zby (n + 1)) (strip w) (zlM t b) x d)
      unfold zbR
      exact T.ck (by omega) (T.eq (ih (by omega) (by omega) (by omega) (hf.kid w hwm) (by have:=zdh hwm;omega) (h3 w hwm) (hkb w hwm)) (T.some rfl))
    · refine T.br (fun h=>absurd (zOT h) (by omega)) fun _=>T.br (fun _=>?_) fun h=>absurd k (zOF h)
      have e:pln (strip v) (!decide (andI 5 1=0)) (!decide (andI 5 2=0)) (!decide (andI 5 4=0)) (!decide (andI 5 8=0))=true:=P h1 false
      have hnl:=(List.getElem?_eq_some_iff.1 h3).1
      have hl1:(strip v).l=[strip w]:=by rw [esl,h4];rfl
      have hwm:w ∈ v.l:=by rw [h4];exact List.mem_singleton.2 rfl
      refine T.eq (zdW _ _ (by decide)) (T.and' (T.and' (T.and' ?_)))
      rw [e,esn,hl1,zDT h2,zDT (show v.n < (x.fields.length:Int) by omega)]
      refine T.jp (ι:=Bool × GChk) (fun p=>p=(true,zlM t b)) (fun J kk=>T.br (fun _=>?_) fun h=>by cases h) fun p hp=>T.some (by rw [hp])
      refine T.get h2 (by omega) fun f' hf'=>?_
      rw [h3] at hf';cases hf'
      refine T.eq (y:=strip w) rfl (T.ck (by omega) (T.eq (ih (by omega) (by omega) (by omega) (hf.kid w hwm) (by have:=zdh hwm;omega) h5 (hkb w hwm)) (kk _ rfl)))
    · refine T.br (fun h=>absurd (zOT h) (by omega)) fun _=>T.br (fun h=>absurd (zOT h) (by omega)) fun _=>?_
      refine T.jp (fun b=>b=true) (fun J kk=>T.br (fun h=>kk _ h) fun h=>kk _ (zDT (k.resolve_left (zOF h)))) fun b78 hb78=>?_
      subst hb78
      refine T.br (fun _=>?_) fun h=>by cases h
      refine T.eq (y:=(true,zlM t b)) ?_ (T.some rfl)
      refine T.eqs ?_
      show T _ (zbV (zbo (n + 4)) (za5 (n + 4)) (zbL (n + 4)) (zaw (n + 4)) (zaA (n + 4)) (zby (n + 4)) (zlM t b) i (strip v) d)
      unfold zbV
      have e:pln (strip v) (!decide (andI 12 1=0)) (!decide (andI 12 2=0)) (!decide (andI 12 4=0)) (!decide (andI 12 8=0))=true:=P h1 true
      refine T.eq eg (T.eq (zdW _ _ (by decide)) (T.or' ?_))
      rw [e,esl,List.length_map,h3,zDT rfl]
      refine T.jp (ι:=Bool × GChk) (fun p=>p=(false,zlM t b)) (fun J kk=>T.br (fun h=>by cases h) fun _=>T.eq (y:=(true,zlM t b)) ?_ (kk _ rfl)) fun p hp=>?_
      · refine T.eqs ?_
        unfold zdj
        refine T.eq eg (T.br (fun _=>T.some ?_) fun h=>?_)
        · rw [es];rfl
        · rw [es] at h;cases h
      subst hp
      refine T.br (fun h=>by cases h) fun _=>?_
      refine T.lp (ι:=Int × GChk) (fun q=>0 ≤ q.1∧q.1 ≤ (x.fields.length:Int)∧q.2=zlM t b) (fun q=>((x.fields.length:Int) - q.1).toNat) ⟨Int.le_refl _,by dsimp only;omega,rfl⟩ (by dsimp only;omega) fun L q ⟨q1,q2,q3⟩ hL=>?_
      obtain ⟨q,c⟩:=q
      dsimp only at q1 q2 q3 hL ⊢
      subst q3
      refine T.br (fun hb2=>?_) fun _=>?_
      · have hb2:=zOT hb2
        refine T.jp (ι:=GChk) (fun p=>p=zlM t b) (fun J kk=>?_) fun p hp=>T.ck (by omega) (hL _ ⟨by dsimp only;omega,by dsimp only;omega,hp⟩ (by dsimp only;omega))
        refine T.get q1 hb2 fun f hff=>T.get q1 (by rw [List.length_map];omega) fun y hy=>?_
        rw [List.getElem?_map] at hy
        obtain ⟨w,hw1,hw2⟩:=Option.map_eq_some_iff.1 hy
        subst hw2
        have hwm:=List.mem_of_getElem? hw1
        have hfw:=h4 q.toNat f w hff hw1
        have hcw:=zdh hwm
        rw [zgw w]
        refine T.br (fun hz=>?_) fun hz=>?_
        · have hz:=zOT hz
          obtain ⟨_,z1,z2⟩:=hfw.resolve_right fun h=>h.1 hz
          rw [z1,zju]
          refine T.eq (zmz _) ?_
          have ea:(decide (zeroV.kind=0) && pln zeroV false false false false)=true:=rfl
          rw [ea]
          have el:(f.optional || f.has || decide (x.root ≤ q))=true:=by
            rcases z2 with z2 | z2 | z2
            · rw [z2];rfl
            · rw [z2];simp
            · rw [zDT (show x.root ≤ q by omega)];simp
          refine T.orJ (d:=false) (fun J2 hh=>T.eq (zqf q1 hff) (by rw [el];exact hh)) (T.br (fun h=>by cases h) fun _=>kk _ rfl)
        · have hz:=zOF hz
          obtain ⟨_,z1,z2⟩:=hfw.resolve_left fun h=>hz h.1
          refine T.ck (by omega) (T.eq (ih (by omega) (by omega) (by omega) (hf.kid w hwm) (by omega) z1 (hkb w hwm)) ?_)
          have hdk:=hok.dflt f (List.mem_of_getElem? hff)
          have hne:f.has=true→strip w ≠ f.dflt:=fun hh e=>by
            have hk2:w.kind=f.dflt.kind:=by rw [← zgw w,e]
            cases h with
            | zero=>exact z1.elim
            | succ h =>
              obtain ⟨_,x2,_,g⟩:=z1
              have h12:=(zlO (hkb w hwm)).1
              obtain ⟨g1,g2⟩:=g.resolve_left h12
              have:strip w=w:=zqJ g2 (by rw [← g1,hk2];exact hdk.2.2.2.2.1) h12
              exact z2 hh (this ▸ e)
          refine T.orJ (d:=false) (fun J2 hh=>T.jp (fun b=>b=false) (fun J3 k3=>T.br (fun h1=>?_) fun _=>k3 _ rfl) fun b hb=>by rw [hb];exact hh) (T.br (fun h=>by cases h) fun _=>kk _ rfl)
          refine T.cal (zqc (k:=100000) (n:=fuel) (by have:=zkG 100000 w (by omega);omega) (by unfold fuel;omega) (zjp 100000 w (by omega) (hf.kid w hwm)) _) fun r _ hr=>k3 _ ?_
          cases r with
          | true=>exact absurd (hr.1 rfl) (hne h1)
          | false=>rfl
      · refine T.eq (zoQ ht (v:=strip v) i0 hx k (by rw [esl,List.length_map,h3]) (fun w hw hz=>?_) (fun s hs=>?_) hfl hok.root0) (T.some rfl)
        · rw [esl] at hw
          obtain ⟨w',hw1,hw2⟩:=List.mem_map.1 hw
          subst hw2
          rw [zgw] at hz
          obtain ⟨k',hk'⟩:=List.mem_iff_getElem?.1 hw1
          have:=(List.getElem?_eq_some_iff.1 hk').1
          obtain ⟨f,hff⟩:∃ f,x.fields[k']?=some f:=⟨_,List.getElem?_eq_getElem (by omega)⟩
          obtain ⟨_,z1,_⟩:=(h4 k' f w' hff hk').resolve_right fun h=>h.1 hz
          rw [z1];exact zju
        · have:=h5 s hs
          have et:thr (strip v)=thr v:=by
            funext k
            unfold thr
            rw [esl,List.getElem?_map]
            cases v.l[k.toNat]? with
            | none=>rfl
            | some w=>show (!decide ((strip w).kind=0))=_;rw [zgw]
          unfold Grp lck at this ⊢
          rw [et]
          exact this
end Go.Proofs.Q


namespace Go.Proofs.Q
open Go.Sy
set_option linter.unusedVariables false

theorem tx {β:Type} {o:Option β} {x:β} (h:T (fun r=>r=x) o):o=some x:=by
  obtain ⟨r,h1,h2⟩:=h;rw [h1,h2]
def hd:List UInt8→UInt8
  | []=>0
  | c :: _=>c
theorem zr7 (b:List UInt8) (n:Nat):hd (b.drop n)=(b[n]?).getD 0:=by
  rcases Nat.lt_or_ge n b.length with h | h
  · rw [List.drop_eq_getElem_cons h,List.getElem?_eq_getElem h];rfl
  · rw [List.drop_eq_nil_of_le h,List.getElem?_eq_none h];rfl
theorem dropc {b:List UInt8} {n:Nat} {y:UInt8} (h:b[n]?=some y):b.drop n=y :: b.drop (n + 1):=by
  obtain ⟨h1,h2⟩:=List.getElem?_eq_some_iff.1 h
  rw [List.drop_eq_getElem_cons h1,h2]
theorem zkS (s:Str) (i:Int) (h:0 ≤ i):ze9 s i=some (hd (s.b.drop i.toNat)):=by
  obtain ⟨r,h1,h2⟩:=zhR s i
  rw [h1,h2,if_pos h,zr7]

/-! ### White -/
inductive Wst where
  | out
  | start
  | ins
  | fin
def isWh (c:UInt8):Bool:=decide (c=32) || decide (c=9) || decide (c=10) || decide (c=13)
def wh:Wst→List UInt8→List UInt8
  | _,[]=>[]
  | .out,c :: r=>bif isWh c then wh .out r else bif decide (c=45) && decide (hd r=45) then wh .start r else c :: r
  | .start,_ :: r=>wh .ins r
  | .ins,c :: r=>bif decide (c=10) then wh .out r else bif decide (c=45) && decide (hd r=45) then wh .fin r else wh .ins r
  | .fin,_ :: r=>wh .out r
theorem zsj {b:List UInt8} {n:Nat} (h:hd (b.drop n)=45):n < b.length:=by
  rcases Nat.lt_or_ge n b.length with h2 | h2
  · exact h2
  · rw [List.drop_eq_nil_of_le h2] at h;cases h
theorem skip1 {b:List UInt8} {n:Nat} (h:n < b.length):∃ c,b.drop n=c :: b.drop (n + 1):=⟨_,List.drop_eq_getElem_cons h⟩
theorem zq3 (s:Str) (i:Int) (h0:0 ≤ i) (h1:i ≤ s.b.length) (hl:s.b.length ≤ 1000000):zfw s i=some ((s.b.length:Int) - ((wh .out (s.b.drop i.toNat)).length:Int)):=by
  refine tx ?_
  unfold zfw
  refine T.lp (fun k=>i ≤ k∧k ≤ s.b.length∧wh .out (s.b.drop k.toNat)=wh .out (s.b.drop i.toNat)) (fun k=>(s.b.length - k).toNat) ⟨Int.le_refl _,h1,rfl⟩ (by omega) fun L k ⟨k1,k2,k3⟩ hL=>?_
  rw [← k3] at hL ⊢
  refine T.br (fun hb=>?_) (fun hb=>T.some ?_)
  rotate_left
  · have hb:=zOF hb
    rw [List.drop_eq_nil_of_le (by omega)]
    simp only [wh,List.length_nil];omega
  have hb:=zOT hb
  refine T.get (by omega) hb fun y hy=>?_
  have e:=dropc hy
  have e1:(k + 1).toNat=k.toNat + 1:=by omega
  refine T.jp (fun q=>q=(decide (y=32) || decide (y=9))) (fun J h=>T.br (fun h2=>h _ (by rw [h2];rfl)) fun h2=>T.get (by omega) hb fun y' hy'=>h _ (by rw [hy] at hy';cases hy';rw [h2];rfl)) fun q hq=>?_
  refine T.jp (fun q'=>q'=(q || decide (y=10))) (fun J h=>T.br (fun h2=>h _ (by rw [h2];rfl)) fun h2=>T.get (by omega) hb fun y' hy'=>h _ (by rw [hy] at hy';cases hy';rw [h2];rfl)) fun q' hq'=>?_
  refine T.jp (fun q2=>q2=(q' || decide (y=13))) (fun J h=>T.br (fun h2=>h _ (by rw [h2];rfl)) fun h2=>T.get (by omega) hb fun y' hy'=>h _ (by rw [hy] at hy';cases hy';rw [h2];rfl)) fun q2 hq2=>?_
  have hw:q2=isWh y:=by rw [hq2,hq',hq];rfl
  refine T.br (fun h2=>T.ck (by omega) ?_) fun h2=>?_
  · refine hL _ ⟨by omega,by omega,?_⟩ (by omega)
    rw [e1,e];simp only [wh,← hw,h2,cond_true]
  refine T.get (by omega) hb fun y' hy'=>?_
  rw [hy] at hy';cases hy'
  refine T.jp (fun q=>q=(decide (y=45) && decide (hd (s.b.drop (k.toNat + 1))=45))) (fun J h=>T.br (fun h3=>T.ck (by omega) (T.eq (zkS s _ (by omega)) (h _ (by rw [h3,e1];rfl)))) fun h3=>h _ (by rw [h3];rfl)) fun q3 hq3=>?_
  refine T.br (fun h3=>T.ck (by omega) ?_) (fun h3=>T.some ?_)
  rotate_left
  · rw [e];simp only [wh,← hw,h2,cond_false,← hq3,h3,List.length_cons,List.length_drop];omega
  have h45:hd (s.b.drop (k.toNat + 1))=45:=by rw [hq3] at h3;simpa using (Bool.and_eq_true_iff.1 h3).2
  have hlt:=zsj h45
  obtain ⟨c,ec⟩:=skip1 hlt
  have e2:(k + 2).toNat=k.toNat + 1 + 1:=by omega
  have hins:wh .out (s.b.drop k.toNat)=wh .ins (s.b.drop (k + 2).toNat):=by
    rw [e,e2];simp only [wh,← hw,h2,cond_false,← hq3,h3,cond_true];rw [ec];simp only [wh]
  refine T.lp (fun j=>k + 2 ≤ j∧j ≤ s.b.length∧wh .out (s.b.drop k.toNat)=wh .ins (s.b.drop j.toNat)) (fun j=>(s.b.length - j).toNat) ⟨Int.le_refl _,by omega,hins⟩ (by omega) fun L2 j ⟨j1,j2,j3⟩ hL2=>?_
  refine T.jp (fun q=>(q=true→j < s.b.length∧∀ y,s.b[j.toNat]?=some y→y ≠ 10)∧(q=false→wh .out (s.b.drop j.toNat)=wh .ins (s.b.drop j.toNat))) (fun J h=>T.br (fun h4=>?_) fun h4=>h _ ⟨(fun h=>by cases h),fun _=>?_⟩) fun q hq=>?_
  · have h4:=zOT h4
    refine T.get (by omega) h4 fun y2 hy2=>h _ ⟨fun h5=>⟨h4,fun y3 hy3=>?_⟩,fun h5=>?_⟩
    · rw [hy2] at hy3;cases hy3;simpa using h5
    · have h6:y2=10:=by simpa using h5
      subst h6
      rw [dropc hy2]
      simp [wh,isWh]
  · have h4:=zOF h4
    rw [List.drop_eq_nil_of_le (by omega)];simp only [wh]
  refine T.br (fun h4=>?_) (fun h4=>hL _ ⟨by omega,j2,by rw [hq.2 h4,j3]⟩ (by omega))
  obtain ⟨hj,hne⟩:=hq.1 h4
  refine T.get (by omega) hj fun y2 hy2=>?_
  have hy10:=hne y2 hy2
  have f:=dropc hy2
  have f1:(j + 1).toNat=j.toNat + 1:=by omega
  refine T.jp (fun q=>q=(decide (y2=45) && decide (hd (s.b.drop (j.toNat + 1))=45))) (fun J h=>T.br (fun h3=>T.ck (by omega) (T.eq (zkS s _ (by omega)) (h _ (by rw [h3,f1];rfl)))) fun h3=>h _ (by rw [h3];rfl)) fun q4 hq4=>?_
  refine T.br (fun h5=>T.ck (by omega) ?_) (fun h5=>T.ck (by omega) (hL2 _ ⟨by omega,by omega,?_⟩ (by omega)))
  · have h46:hd (s.b.drop (j.toNat + 1))=45:=by rw [hq4] at h5;simpa using (Bool.and_eq_true_iff.1 h5).2
    have hlt2:=zsj h46
    obtain ⟨c2,ec2⟩:=skip1 hlt2
    have f2:(j + 2).toNat=j.toNat + 1 + 1:=by omega
    refine hL _ ⟨by omega,by omega,?_⟩ (by omega)
    rw [j3,f,f2];simp only [wh,zDF hy10,cond_false,← hq4,h5,cond_true];rw [ec2];simp only [wh]
  · rw [j3,f,f1];simp only [wh,zDF hy10,cond_false,← hq4,h5]

/-! ### Names -/
def inName (c:UInt8) (r:List UInt8):Bool:=zci c || isDigit c || (decide (c=45) && !decide (hd r=45))
def nm:List UInt8→Nat
  | []=>0
  | c :: r=>bif inName c r then nm r + 1 else 0
theorem zo9 (c:UInt8) (r:List UInt8):nm (c :: r)=bif inName c r then nm r + 1 else 0:=rfl
theorem znI:∀ b:List UInt8,nm b ≤ b.length
  | []=>Nat.le_refl _
  | c :: r=>by
    have:=znI r
    unfold nm
    cases inName c r <;> simp <;> omega
def nmBad (b:List UInt8):Bool:=decide ((b.take (nm b)).getLast?=some 45) || decide (60 < nm b)
theorem zp5 {b:List UInt8} {n:Nat} {y:UInt8} (hn:0 < n) (hy:b[n - 1]?=some y):(b.take n).getLast?=some y:=by
  have hlt:=(List.getElem?_eq_some_iff.1 hy).1
  rw [List.getLast?_eq_getElem?,List.length_take,List.getElem?_take,Nat.min_eq_left (by omega),if_pos (by omega),hy]
theorem zrT (s:Str) (i:Int) (h0:0 ≤ i) (h1:i < s.b.length) (hl:s.b.length ≤ 1000000) (hc:zci (hd (s.b.drop i.toNat))=true) :
    zgc s i=some (bif nmBad (s.b.drop i.toNat) then -1 else i + nm (s.b.drop i.toNat)):=by
  refine tx ?_
  unfold zgc
  have hi0:0 < nm (s.b.drop i.toNat):=by
    obtain ⟨c,ec⟩:=skip1 (b:=s.b) (n:=i.toNat) (by omega)
    rw [ec] at hc ⊢
    unfold nm inName
    simp only [hd] at hc
    rw [hc];simp
  refine T.lp (fun k=>i ≤ k∧k ≤ s.b.length∧(nm (s.b.drop i.toNat):Int)=k - i + nm (s.b.drop k.toNat)) (fun k=>(s.b.length - k).toNat) ⟨Int.le_refl _,by omega,by omega⟩ (by omega) fun L k ⟨k1,k2,k3⟩ hL=>?_
  refine T.jp (fun q=>(q=true→k < s.b.length∧(nm (s.b.drop i.toNat):Int)=k + 1 - i + nm (s.b.drop (k + 1).toNat))∧(q=false→(nm (s.b.drop i.toNat):Int)=k - i)) (fun J h=>?_) fun q hq=>?_
  · refine T.br (fun hb=>?_) (fun hb=>h _ ⟨(fun h=>by cases h),fun _=>by
      have:=zOF hb
      rw [List.drop_eq_nil_of_le (as:=s.b) (i:=k.toNat) (by omega)] at k3
      simpa [nm] using k3⟩)
    have hb:=zOT hb
    refine T.get (by omega) hb fun y hy=>?_
    have e:=dropc hy
    have e1:(k + 1).toNat=k.toNat + 1:=by omega
    refine T.eq (zga y) ?_
    refine T.jp (fun q=>q=(zci y || isDigit y)) (fun J2 h2=>T.br (fun h3=>h2 _ (by rw [h3];rfl)) fun h3=>T.get (by omega) hb fun y2 hy2=>T.eq (zeg y2) (h2 _ (by rw [hy] at hy2;cases hy2;rw [h3];rfl))) fun q hq=>?_
    refine T.jp (fun q2=>q2=inName y (s.b.drop (k.toNat + 1))) (fun J2 h2=>T.br (fun h3=>h2 _ (by unfold inName;rw [← hq,h3];rfl)) fun h3=>T.get (by omega) hb fun y2 hy2=>?_) fun q2 hq2=>?_
    · rw [hy] at hy2;cases hy2
      refine T.jp (fun q3=>q3=(decide (y=45) && !decide (hd (s.b.drop (k.toNat + 1))=45))) (fun J3 h4=>T.br (fun h5=>T.ck (by omega) (T.eq (zkS s _ (by omega)) (h4 _ (by rw [h5,e1];rfl)))) fun h5=>h4 _ (by rw [h5];rfl)) fun q3 hq3=>h2 _ ?_
      unfold inName;rw [← hq,h3,hq3];rfl
    · rw [e,zo9] at k3
      refine h _ ⟨fun h3=>⟨hb,?_⟩,fun h3=>?_⟩
      · rw [← hq2,h3,cond_true] at k3
        rw [e1];omega
      · rw [← hq2,h3,cond_false] at k3
        omega
  refine T.br (fun hb=>T.ck (by have:=hq.1 hb;omega) (hL _ ⟨by omega,by have:=hq.1 hb;omega,(hq.1 hb).2⟩ (by have:=hq.1 hb;omega))) fun hb=>?_
  have hn:=hq.2 hb
  refine T.ck (by omega) (T.get (by omega) (by omega) fun y hy=>?_)
  have hlast:((s.b.drop i.toNat).take (nm (s.b.drop i.toNat))).getLast?=some y:=by
    refine zp5 hi0 ?_
    rw [List.getElem?_drop]
    have:i.toNat + (nm (s.b.drop i.toNat) - 1)=(k - 1).toNat:=by omega
    rw [this,hy]
  refine T.jp (fun q=>q=nmBad (s.b.drop i.toNat)) (fun J h=>T.br (fun h3=>h _ ?_) fun h3=>T.ck (by omega) (h _ ?_)) fun q hq=>?_
  · unfold nmBad
    rw [hlast]
    have:=zOT h3
    subst this;rfl
  · unfold nmBad
    rw [hlast]
    have:=zOF h3
    have e:decide (some y=some (45:UInt8))=false:=by simpa using this
    rw [e,Bool.false_or,decide_eq_decide]
    omega
  · rw [← hq]
    exact T.br (fun h3=>T.some (by rw [h3];rfl)) fun h3=>T.some (by rw [h3,cond_false];omega)
end Go.Proofs.Q


namespace Go.Proofs.Q
open Go.Sy
set_option linter.unusedVariables false

theorem seg {b:List UInt8} {i k:Nat}:(b.take k).drop i=(b.drop i).take (k - i):=by rw [List.drop_take]
theorem zq1 {b:List UInt8} {i n:Nat} {y:UInt8} (h:b[i + n]?=some y):(b.drop i)[n]?=some y:=by rw [List.getElem?_drop,h]
theorem zqa {b:List UInt8} {n:Nat} {y:UInt8} (h:b[n]?=some y):b.take (n + 1)=b.take n ++ [y]:=by rw [List.take_add_one,h];rfl

/-! ### Numbers -/
def dg:List UInt8→Nat
  | []=>0
  | c :: r=>bif isDigit c then dg r + 1 else 0
theorem zpo (c:UInt8) (r:List UInt8):dg (c :: r)=bif isDigit c then dg r + 1 else 0:=rfl
theorem zrv:∀ b:List UInt8,dg b ≤ b.length
  | []=>Nat.le_refl _
  | c :: r=>by
    have:=zrv r
    rw [zpo]
    cases isDigit c <;> simp <;> omega
def numBad (m:Bool) (d:List UInt8):Bool :=
  decide (dg d < 1) || decide (19 < dg d) || (decide (1 < dg d) && decide (hd d=48)) || (m && decide (hd d=48)) || zci (hd (d.drop (dg d))) ||
    decide (9223372036854775808 < uval (d.take (dg d))) || (!m && decide (uval (d.take (dg d))=9223372036854775808))
def numLen (b:List UInt8):Option Nat :=
  bif decide (hd b=45) then bif numBad true (b.drop 1) then none else some (dg (b.drop 1) + 1)
  else bif numBad false b then none else some (dg b)
theorem zpK (s:Str) (i:Int) (h0:0 ≤ i) (h1:i < s.b.length) (hl:s.b.length ≤ 1000000) :
    zeB s i=some (match numLen (s.b.drop i.toNat) with
      | none=>-1
      | some n=>i + (n:Int)):=by
  refine tx ?_
  unfold zeB
  refine T.get h0 h1 fun y1 hy1=>?_
  have hd1:hd (s.b.drop i.toNat)=y1:=by rw [dropc hy1];rfl
  refine T.jp (fun f=>i ≤ f∧f ≤ i + 1∧numLen (s.b.drop i.toNat)=(bif numBad (decide (y1=45)) (s.b.drop f.toNat) then none else some (dg (s.b.drop f.toNat) + (f - i).toNat))) (fun J h=>T.br (fun hb=>T.ck (by omega) (h _ ⟨by omega,by omega,?_⟩)) fun hb=>h _ ⟨by omega,by omega,?_⟩) fun f ⟨f1,f2,f3⟩=>?_
  · have e1:(i + 1).toNat=i.toNat + 1:=by omega
    have e2:(i + 1 - i).toNat=1:=by omega
    unfold numLen
    rw [hd1,hb,cond_true,e1,e2,List.drop_drop]
  · have e2:(i - i).toNat=0:=by omega
    unfold numLen
    rw [hd1,hb,cond_false,e2,Nat.add_zero]
  have hfl:f ≤ s.b.length:=by omega
  have hgoal:∀ k:Int,(dg (s.b.drop f.toNat):Int)=k - f→(match numLen (s.b.drop i.toNat) with
      | none=>-1
      | some n=>i + (n:Int))=bif numBad (decide (y1=45)) (s.b.drop f.toNat) then -1 else k:=by
    intro k hk
    rw [f3]
    cases numBad (decide (y1=45)) (s.b.drop f.toNat) with
    | true=>rfl
    | false =>
      show i + ((dg (s.b.drop f.toNat) + (f - i).toNat:Nat):Int)=k
      omega
  refine T.lp (ι:=Int × UInt64) (fun q=>f ≤ q.1∧q.1 ≤ s.b.length∧(dg (s.b.drop f.toNat):Int)=q.1 - f + dg (s.b.drop q.1.toNat)∧(q.1 - f ≤ 19→q.2=uval ((s.b.drop f.toNat).take (q.1.toNat - f.toNat)))) (fun q=>(s.b.length - q.1).toNat)
    ⟨Int.le_refl _,hfl,by dsimp only;omega,fun _=>by rw [Nat.sub_self];rfl⟩ (by simp only;omega) fun L q hq hL=>?_
  obtain ⟨k,v⟩:=q
  obtain ⟨hq1,hq2,hq3,hq4⟩:=hq
  simp only at hq1 hq2 hq3 hq4 ⊢
  refine T.jp (fun b=>(b=true→k < s.b.length∧(dg (s.b.drop f.toNat):Int)=k + 1 - f + dg (s.b.drop (k + 1).toNat))∧(b=false→(dg (s.b.drop f.toNat):Int)=k - f)) (fun J h=>?_) fun b hb=>?_
  · refine T.br (fun h2=>?_) fun h2=>h _ ⟨(fun h=>by cases h),fun _=>?_⟩
    · have h2:=zOT h2
      have ek:(k + 1).toNat=k.toNat + 1:=by omega
      refine T.get (by omega) h2 fun y hy=>T.eq (zeg y) (h _ ?_)
      rw [dropc hy,zpo] at hq3
      rw [ek]
      refine ⟨fun hd=>⟨h2,?_⟩,fun hd=>?_⟩
      · rw [hd,cond_true] at hq3;omega
      · rw [hd,cond_false] at hq3;omega
    · have h2:=zOF h2
      rw [List.drop_eq_nil_of_le (as:=s.b) (i:=k.toNat) (by omega)] at hq3
      simpa [dg] using hq3
  refine T.br (fun h2=>?_) fun h2=>?_
  · obtain ⟨hk,hd⟩:=hb.1 h2
    obtain ⟨y,hy⟩:∃ y,s.b[k.toNat]?=some y:=⟨_,List.getElem?_eq_getElem (by omega)⟩
    have hsn:=zqa (b:=s.b.drop f.toNat) (n:=k.toNat - f.toNat) (y:=y) (zq1 (by rw [show f.toNat + (k.toNat - f.toNat)=k.toNat by omega,hy]))
    have hk1:(k + 1).toNat - f.toNat=k.toNat - f.toNat + 1:=by omega
    refine T.ck (by omega) (T.jp (fun u=>k - f < 19→u=10 * v + (y - 48).toUInt64) (fun J h=>T.br (fun _=>?_) fun h3=>h _ fun h4=>by have:=zOF h3;omega) fun u hu=>T.ck (by omega) (hL _ ?_ (by simp only;omega)))
    · exact T.get (by omega) hk fun y' hy'=>h _ fun _=>by rw [hy] at hy';cases hy';rfl
    · refine ⟨by simp only;omega,by simp only;omega,hd,fun h19=>?_⟩
      simp only at h19 ⊢
      rw [hk1,hsn,ziS,hu (by omega),hq4 (by omega)]
  have hn:=hb.2 h2
  rw [hgoal k hn]
  refine T.ck (by omega) ?_
  have hdn:dg (s.b.drop f.toNat)=k.toNat - f.toNat:=by omega
  have hyf:1 ≤ k - f→∀ y,s.b[f.toNat]?=some y→hd (s.b.drop f.toNat)=y:=fun _ y hy=>by rw [dropc hy];rfl
  refine T.jp (fun b=>b=(decide (dg (s.b.drop f.toNat) < 1) || decide (19 < dg (s.b.drop f.toNat)))) (fun J h=>T.br (fun h3=>h _ ?_) fun h3=>h _ ?_) fun b1 hb1=>?_
  · have:=zOT h3;rw [zDT (by omega)];rfl
  · have:=zOF h3;rw [zDF (show ¬ dg (s.b.drop f.toNat) < 1 by omega),Bool.false_or,decide_eq_decide];omega
  refine T.jp (fun b=>b=(b1 || (decide (1 < dg (s.b.drop f.toNat)) && decide (hd (s.b.drop f.toNat)=48)))) (fun J h=>T.br (fun h3=>h _ (by rw [h3];rfl)) fun h3=>?_) fun b2 hb2=>?_
  · refine T.jp (fun b=>b=(decide (1 < dg (s.b.drop f.toNat)) && decide (hd (s.b.drop f.toNat)=48))) (fun J3 h4=>T.br (fun h5=>?_) fun h5=>h4 _ ?_) fun b hb=>h _ (by rw [h3,hb];rfl)
    · have h5:=zOT h5
      exact T.get (by omega) (by omega) fun y hy=>h4 _ (by rw [zDT (show 1 < dg (s.b.drop f.toNat) by omega),hyf (by omega) y hy];rfl)
    · have h5:=zOF h5
      rw [zDF (show ¬ 1 < dg (s.b.drop f.toNat) by omega)];rfl
  refine T.jp (fun b=>b=(b2 || (decide (y1=45) && decide (hd (s.b.drop f.toNat)=48)))) (fun J h=>T.br (fun h3=>h _ (by rw [h3];rfl)) fun h3=>?_) fun b3 hb3=>?_
  · have hge:1 ≤ k - f:=by
      have e1:=(Bool.or_eq_false_iff.1 (hb2.symm.trans h3)).1
      have:=zOF (Bool.or_eq_false_iff.1 (hb1.symm.trans e1)).1
      omega
    refine T.jp (fun b=>b=(decide (y1=45) && decide (hd (s.b.drop f.toNat)=48))) (fun J3 h4=>T.br (fun h5=>?_) fun h5=>h4 _ (by rw [h5];rfl)) fun b hb=>h _ (by rw [h3,hb];rfl)
    exact T.get (by omega) (by omega) fun y hy=>h4 _ (by rw [h5,hyf hge y hy];rfl)
  have hat:ze9 s k=some (hd ((s.b.drop f.toNat).drop (dg (s.b.drop f.toNat)))):=by
    rw [zkS s k (by omega),List.drop_drop,hdn]
    congr 3;omega
  refine T.jp (fun b=>b=(b3 || zci (hd ((s.b.drop f.toNat).drop (dg (s.b.drop f.toNat)))))) (fun J h=>T.br (fun h3=>h _ (by rw [h3];rfl)) fun h3=>T.eq hat (T.eq (zga _) (h _ (by rw [h3];rfl)))) fun b4 hb4=>?_
  have hv:b4=false→v=uval ((s.b.drop f.toNat).take (dg (s.b.drop f.toNat))):=fun h=>by
    have e3:=(Bool.or_eq_false_iff.1 (hb4.symm.trans h)).1
    have e2:=(Bool.or_eq_false_iff.1 (hb3.symm.trans e3)).1
    have e1:=(Bool.or_eq_false_iff.1 (hb2.symm.trans e2)).1
    have:=zOF (Bool.or_eq_false_iff.1 (hb1.symm.trans e1)).2
    rw [hdn];exact hq4 (by omega)
  refine T.jp (fun b=>b=(b4 || decide (9223372036854775808 < uval ((s.b.drop f.toNat).take (dg (s.b.drop f.toNat)))))) (fun J h=>T.br (fun h3=>h _ (by rw [h3];rfl)) fun h3=>h _ (by rw [h3,hv h3];rfl)) fun b5 hb5=>?_
  refine T.jp (fun b=>b=(b5 || (!decide (y1=45) && decide (uval ((s.b.drop f.toNat).take (dg (s.b.drop f.toNat)))=9223372036854775808)))) (fun J h=>T.br (fun h3=>h _ (by rw [h3];rfl)) fun h3=>?_) fun b6 hb6=>?_
  · have e4:=(Bool.or_eq_false_iff.1 (hb5.symm.trans h3)).1
    refine T.jp (fun b=>b=(!decide (y1=45) && decide (uval ((s.b.drop f.toNat).take (dg (s.b.drop f.toNat)))=9223372036854775808))) (fun J3 h4=>T.br (fun h5=>h4 _ (by rw [h5,hv e4];rfl)) fun h5=>h4 _ (by rw [h5];rfl)) fun b hb=>h _ (by rw [h3,hb];rfl)
  have hall:b6=numBad (decide (y1=45)) (s.b.drop f.toNat):=by
    rw [hb6,hb5,hb4,hb3,hb2,hb1];rfl
  rw [← hall]
  exact T.br (fun h3=>T.some (by rw [h3];rfl)) fun h3=>T.some (by rw [h3];rfl)

/-! ### Hexes -/
def isHex (c:UInt8):Bool:=isDigit c || (decide (65 ≤ c) && decide (c ≤ 70))
def hx:List UInt8→Nat
  | []=>0
  | c :: r=>bif isHex c then hx r + 1 else 0
theorem zr2 (c:UInt8) (r:List UInt8):hx (c :: r)=bif isHex c then hx r + 1 else 0:=rfl
def hexBad (r:List UInt8):Bool:=!decide (hx r % 2=0) || !decide (hd (r.drop (hx r))=39) || !decide (hd (r.drop (hx r + 1))=72)
theorem zrn {b:List UInt8} {n:Nat} (h:hd (b.drop n) ≠ 0):n < b.length:=by
  rcases Nat.lt_or_ge n b.length with h2 | h2
  · exact h2
  · rw [List.drop_eq_nil_of_le h2] at h;exact absurd rfl h
theorem zsv (s:Str) (i:Int) (h0:0 ≤ i) (h1:i < s.b.length) (hl:s.b.length ≤ 1000000) :
    zhO s i=some (bif hexBad (s.b.drop (i.toNat + 1)) then (-1,⟨[]⟩) else (i + 1 + (hx (s.b.drop (i.toNat + 1)):Int) + 2,⟨(s.b.drop (i.toNat + 1)).take (hx (s.b.drop (i.toNat + 1)))⟩)):=by
  refine tx ?_
  unfold zhO
  have e0:(i + 1).toNat=i.toNat + 1:=by omega
  refine T.ck (by omega) (T.lp (fun (k:Int)=>i + 1 ≤ k∧k ≤ (s.b.length:Int)∧(hx (s.b.drop (i.toNat + 1)):Int)=k - (i + 1) + hx (s.b.drop k.toNat)) (fun (k:Int)=>((s.b.length:Int) - k).toNat) ⟨Int.le_refl _,by omega,by rw [e0];omega⟩ (by omega) fun L k ⟨k1,k2,k3⟩ hL=>?_)
  refine T.jp (fun b=>(b=true→k < s.b.length∧(hx (s.b.drop (i.toNat + 1)):Int)=k + 1 - (i + 1) + hx (s.b.drop (k + 1).toNat))∧(b=false→(hx (s.b.drop (i.toNat + 1)):Int)=k - (i + 1))) (fun J h=>T.br (fun h2=>?_) fun h2=>h _ ⟨(fun h=>by cases h),fun _=>?_⟩) fun b hb=>?_
  · have h2:=zOT h2
    refine T.get (by omega) h2 fun y hy=>T.eq (zeg y) ?_
    have ek:(k + 1).toNat=k.toNat + 1:=by omega
    refine T.jp (fun q=>q=isHex y) (fun J2 h3=>T.br (fun h4=>h3 _ (by unfold isHex;rw [h4];rfl)) fun h4=>T.get (by omega) h2 fun y' hy'=>?_) fun q hq=>h _ ?_
    · rw [hy] at hy';cases hy'
      refine T.jp (fun q=>q=(decide (65 ≤ y) && decide (y ≤ 70))) (fun J4 h5=>T.br (fun h6=>T.get (by omega) h2 fun y' hy'=>h5 _ (by rw [hy] at hy';cases hy';rw [h6];rfl)) fun h6=>h5 _ (by rw [h6];rfl)) fun q hq=>h3 _ (by unfold isHex;rw [h4,hq];rfl)
    · subst hq
      rw [dropc hy,zr2] at k3
      rw [ek]
      refine ⟨fun hd=>⟨h2,?_⟩,fun hd=>?_⟩
      · rw [hd,cond_true] at k3;omega
      · rw [hd,cond_false] at k3;omega
  · have h2:=zOF h2
    rw [List.drop_eq_nil_of_le (as:=s.b) (i:=k.toNat) (by omega)] at k3
    simpa [hx] using k3
  refine T.br (fun h2=>T.ck (by have:=hb.1 h2;omega) (hL _ ⟨by have:=hb.1 h2;omega,by have:=hb.1 h2;omega,(hb.1 h2).2⟩ (by have:=hb.1 h2;omega))) fun h2=>?_
  have hn:=hb.2 h2
  have hdk:(s.b.drop (i.toNat + 1)).drop (hx (s.b.drop (i.toNat + 1)))=s.b.drop k.toNat:=by rw [List.drop_drop];congr 1;omega
  have hdk1:(s.b.drop (i.toNat + 1)).drop (hx (s.b.drop (i.toNat + 1)) + 1)=s.b.drop (k + 1).toNat:=by rw [List.drop_drop];congr 1;omega
  refine T.ck (by omega) (T.asr rfl ?_)
  have hmod:decide ((k - (i + 1)).tmod 2=0)=decide (hx (s.b.drop (i.toNat + 1)) % 2=0):=by
    rw [decide_eq_decide,Int.tmod_eq_emod_of_nonneg (by omega)]
    omega
  refine T.jp (fun b=>b=(!decide (hx (s.b.drop (i.toNat + 1)) % 2=0) || !decide (hd (s.b.drop k.toNat)=39))) (fun J h=>T.br (fun h3=>h _ (by rw [← hmod,h3];rfl)) fun h3=>T.eq (zkS s k (by omega)) (h _ (by rw [← hmod,h3];rfl))) fun b1 hb1=>?_
  refine T.jp (fun b=>b=hexBad (s.b.drop (i.toNat + 1))) (fun J h=>T.br (fun h3=>h _ ?_) fun h3=>T.ck (by omega) (T.eq (zkS s (k + 1) (by omega)) (h _ ?_))) fun b2 hb2=>?_
  · unfold hexBad;rw [hdk,← hb1,h3];rfl
  · unfold hexBad;rw [hdk,hdk1,← hb1,h3];rfl
  rw [← hb2]
  refine T.br (fun h3=>T.some (by rw [h3];rfl)) fun h3=>?_
  have hlt:k + 1 < s.b.length:=by
    rw [h3] at hb2
    unfold hexBad at hb2
    have:=(Bool.or_eq_false_iff.1 hb2.symm).2
    have h72:hd (s.b.drop (k + 1).toNat)=72:=by rw [hdk1] at this;simpa using this
    have:=zrn (b:=s.b) (n:=(k + 1).toNat) (by rw [h72];decide)
    omega
  refine T.ck (by omega) (T.asd (by omega) (T.some ?_))
  rw [h3,cond_false,seg,e0]
  have e5:k.toNat - (i.toNat + 1)=hx (s.b.drop (i.toNat + 1)):=by omega
  rw [e5,hn]
  have e6:i + 1 + (k - (i + 1)) + 2=k + 2:=by omega
  rw [e6]

/-! ### Strings -/
def qd:Bool→List UInt8→List UInt8→Option (List UInt8 × List UInt8)
  | _,[],_=>none
  | true,_ :: r,acc=>qd false r (acc ++ [34])
  | false,c :: r,acc=>bif decide (c=34) then bif decide (hd r=34) then qd true r acc else bif Lib.validD acc then some (acc,r) else none else qd false r (acc ++ [c])
theorem zp1 (s:Str) (i:Int) (h0:0 ≤ i) (h1:i < s.b.length) (hl:s.b.length ≤ 1000000) :
    zes s i=some (match qd false (s.b.drop (i.toNat + 1)) [] with
      | none=>(-1,⟨[]⟩)
      | some (t,r)=>((s.b.length:Int) - (r.length:Int),⟨t⟩)):=by
  refine tx ?_
  unfold zes
  have e0:(i + 1).toNat=i.toNat + 1:=by omega
  refine T.ck (by omega) (T.lp (ι:=Int × Str) (fun q=>i + 1 ≤ q.1∧q.1 ≤ s.b.length + 1∧(q.2.b.length:Int) < q.1∧qd false (s.b.drop (i.toNat + 1)) []=qd false (s.b.drop q.1.toNat) q.2.b) (fun q=>(s.b.length + 1 - q.1).toNat) ⟨Int.le_refl _,by dsimp only;omega,by dsimp only;simp only [List.length_nil];omega,by dsimp only;rw [e0]⟩ (by dsimp only;omega) fun L q hq hL=>?_)
  obtain ⟨k,o⟩:=q
  obtain ⟨hq1,hq2,hq3,hq4⟩:=hq
  simp only at hq1 hq2 hq3 hq4 ⊢
  rw [hq4] at hL ⊢
  refine T.br (fun h2=>?_) fun h2=>T.some ?_
  rotate_left
  · have h2:=zOF h2
    rw [List.drop_eq_nil_of_le (by omega)];simp only [qd]
  have h2:=zOT h2
  have ek:(k + 1).toNat=k.toNat + 1:=by omega
  refine T.jp (fun (q:Int × Str)=>k ≤ q.1∧q.1 < (s.b.length:Int)∧(q.2.b.length:Int) < q.1 + 1∧qd false (s.b.drop k.toNat) o.b=qd false (s.b.drop (q.1 + 1).toNat) q.2.b) (fun J h=>?_) fun q hq=>?_
  · refine T.get (by omega) h2 fun y hy=>T.br (fun h3=>?_) fun h3=>?_
    · have h34:decide (y=34)=false:=by simpa using h3
      have ey:(s.b.take (k + 1).toNat).drop k.toNat=[y]:=by
        rw [seg,ek,dropc hy,show k.toNat + 1 - k.toNat=1 by omega];rfl
      refine T.ck (by omega) (T.asd (by omega) (T.abl ?_ (h _ ⟨Int.le_refl _,h2,?_,?_⟩)))
      · simp only [List.length_drop,List.length_take];omega
      · simp only [List.length_append,List.length_drop,List.length_take];omega
      · dsimp only
        rw [ey,ek]
        conv=>lhs;rw [dropc hy]
        simp only [qd,h34,cond_false]
    · have h34:decide (y=34)=true:=by simpa using h3
      refine T.ck (by omega) (T.eq (zkS s (k + 1) (by omega)) (T.br (fun h4=>?_) fun h4=>?_))
      · have hn:decide (hd (s.b.drop (k.toNat + 1))=34)=false:=by rw [ek] at h4;simpa using h4
        refine T.eq rfl (T.br (fun h5=>T.some ?_) fun h5=>T.ck (by omega) (T.some ?_))
        · have h5:Lib.validD o.b=false:=by simpa using h5
          conv=>rhs;rw [dropc hy]
          simp only [qd,h34,cond_true,hn,cond_false,h5]
        · have h5:Lib.validD o.b=true:=by simpa using h5
          conv=>rhs;rw [dropc hy]
          simp only [qd,h34,cond_true,hn,cond_false,h5,List.length_drop]
          congr 1;omega
      · have hn:hd (s.b.drop (k.toNat + 1))=34:=by rw [ek] at h4;simpa using h4
        have hlt:=zrn (b:=s.b) (n:=k.toNat + 1) (by rw [hn];decide)
        obtain ⟨c,ec⟩:=skip1 hlt
        refine T.abl ?_ (T.ck (by omega) (h _ ⟨by dsimp only;omega,by dsimp only;omega,?_,?_⟩))
        · simp only [List.length_cons,List.length_nil];omega
        · simp only [List.length_append,List.length_cons,List.length_nil];omega
        · dsimp only
          rw [show (k + 1 + 1).toNat=k.toNat + 1 + 1 by omega]
          conv=>lhs;rw [dropc hy]
          simp only [qd,h34,cond_true,zDT hn]
          rw [ec];simp only [qd]
  · exact T.ck (by omega) (hL _ ⟨by dsimp only;omega,by dsimp only;omega,hq.2.2.1,hq.2.2.2⟩ (by dsimp only;omega))
end Go.Proofs.Q


namespace Go.Proofs.Q
open Go.Sy
set_option linter.unusedVariables false

/-! ### Signs -/
def isPre:List UInt8→List UInt8→Bool
  | [],_=>true
  | _ :: _,[]=>false
  | p :: ps,c :: r=>bif decide (p=c) then isPre ps r else false
def sgF:List (List UInt8)→List UInt8→Nat
  | [],_=>0
  | p :: ps,b=>bif isPre p b then p.length else sgF ps b
def sgs:List (List UInt8):=[[58,58,61],[46,46,46],[46,46],[91,91],[93,93],[123],[125],[91],[93],[40],[41],[44],[58]]
def sg (b:List UInt8):Nat:=sgF sgs b
theorem ziR:∀ (p b:List UInt8),isPre p b=true ↔ p.length ≤ b.length∧b.take p.length=p
  | [],b=>by simp [isPre]
  | _ :: _,[]=>by simp [isPre]
  | p :: ps,c :: r=>by
    have ih:=ziR ps r
    unfold isPre
    by_cases h:p=c
    · subst h;simp [ih]
    · simp only [zDF h,cond_false,List.length_cons,List.take_succ_cons,List.cons.injEq]
      exact ⟨(fun h=>by cases h),fun h2=>absurd h2.2.1.symm h⟩
theorem zrF {k:Nat} {y:Str} (h:([(Str.mk [58,58,61]),(Str.mk [46,46,46]),(Str.mk [46,46]),(Str.mk [91,91]),(Str.mk [93,93]),(Str.mk [123]),(Str.mk [125]),(Str.mk [91]),(Str.mk [93]),(Str.mk [40]),(Str.mk [41]),(Str.mk [44]),(Str.mk [58])]:List Str)[k]?=some y):sgs.drop k=y.b :: sgs.drop (k + 1):=by
  have e:([(Str.mk [58,58,61]),(Str.mk [46,46,46]),(Str.mk [46,46]),(Str.mk [91,91]),(Str.mk [93,93]),(Str.mk [123]),(Str.mk [125]),(Str.mk [91]),(Str.mk [93]),(Str.mk [40]),(Str.mk [41]),(Str.mk [44]),(Str.mk [58])]:List Str)=sgs.map Str.mk:=rfl
  rw [e,List.getElem?_map] at h
  obtain ⟨z,h1,h2⟩:=Option.map_eq_some_iff.1 h
  subst h2
  obtain ⟨h3,h4⟩:=List.getElem?_eq_some_iff.1 h1
  rw [List.drop_eq_getElem_cons h3,h4]
theorem zrx (s:Str) (i:Int) (h0:0 ≤ i) (h1:i < s.b.length) (hl:s.b.length ≤ 1000000):zgi s i=some ((sg (s.b.drop i.toNat):Nat):Int):=by
  refine tx ?_
  unfold zgi
  refine T.asd (by omega) (T.lp (fun (k:Int)=>0 ≤ k∧k ≤ 13∧sgF (sgs.drop k.toNat) (s.b.drop i.toNat)=sg (s.b.drop i.toNat)) (fun (k:Int)=>(13 - k).toNat) ⟨Int.le_refl _,by omega,rfl⟩ (by omega) fun L k ⟨k1,k2,k3⟩ hL=>?_)
  have er:(s.b.take ((s.b.length:Int)).toNat).drop i.toNat=s.b.drop i.toNat:=by rw [List.take_of_length_le (by omega)]
  refine T.br (fun h2=>?_) fun h2=>T.some ?_
  rotate_left
  · have h2:¬ k < 13:=zOF h2
    have:k=13:=by omega
    subst this
    rw [← k3];rfl
  have h2:=zOT h2
  refine T.get k1 h2 fun y hy=>?_
  have hs:=zrF hy
  rw [hs] at k3
  unfold sgF at k3
  rw [er]
  refine T.jp (fun b=>b=isPre y.b (s.b.drop i.toNat)) (fun J h=>T.br (fun h3=>?_) fun h3=>h _ ?_) fun b hb=>?_
  · have h3:=zOT h3
    refine T.asd ⟨Int.le_refl _,by omega,h3⟩ (T.get k1 h2 fun y2 hy2=>h _ ?_)
    rw [hy] at hy2;cases hy2
    have h4:y.b.length ≤ (s.b.drop i.toNat).length:=by simp only [List.length_drop] at h3 ⊢;omega
    rw [Bool.eq_iff_iff,decide_eq_true_eq,ziR]
    constructor
    · intro h5
      refine ⟨h4,?_⟩
      have:=congrArg Str.b h5
      simpa using this
    · intro h5
      obtain ⟨yb⟩:=y
      simp only [Str.mk.injEq]
      simpa using h5.2
  · have h3:=zOF h3
    symm
    rw [Bool.eq_false_iff]
    intro h5
    have:=(ziR _ _).1 h5
    simp only [List.length_drop] at h3 this
    omega
  · rw [hb]
    refine T.br (fun h3=>T.some ?_) fun h3=>T.ck (by have h2:k < 13:=h2;omega) (hL _ ⟨by omega,by have h2:k < 13:=h2;omega,?_⟩ (by have h2:k < 13:=h2;omega))
    · rw [h3,cond_true] at k3;rw [← k3]
    · rw [h3,cond_false] at k3
      have e:(k + 1).toNat=k.toNat + 1:=by omega
      rw [e,k3]

/-! ### Words -/
def wordsL:List Str:=[(Str.mk [68,69,70,73,78,73,84,73,79,78,83]),(Str.mk [69,88,80,76,73,67,73,84]),(Str.mk [73,77,80,76,73,67,73,84]),(Str.mk [65,85,84,79,77,65,84,73,67]),(Str.mk [84,65,71,83]),(Str.mk [66,69,71,73,78]),(Str.mk [69,78,68]),(Str.mk [66,79,79,76,69,65,78]),(Str.mk [73,78,84,69,71,69,82]),(Str.mk [69,78,85,77,69,82,65,84,69,68]),(Str.mk [78,85,76,76]),(Str.mk [79,67,84,69,84]),(Str.mk [83,84,82,73,78,71]),(Str.mk [85,84,70,56,83,116,114,105,110,103]),(Str.mk [83,69,81,85,69,78,67,69]),(Str.mk [83,69,84]),(Str.mk [67,72,79,73,67,69]),(Str.mk [79,70]),(Str.mk [79,80,84,73,79,78,65,76]),(Str.mk [68,69,70,65,85,76,84]),(Str.mk [83,73,90,69]),(Str.mk [77,73,78]),(Str.mk [77,65,88]),(Str.mk [84,82,85,69]),(Str.mk [70,65,76,83,69])]
def sameB:List UInt8→List UInt8→Bool
  | [],[]=>true
  | a :: r,b :: t=>bif decide (a=b) then sameB r t else false
  | _,_=>false
theorem zky:∀ a b:List UInt8,sameB a b=true ↔ a=b
  | [],[]=>by simp [sameB]
  | [],_ :: _=>by simp [sameB]
  | _ :: _,[]=>by simp [sameB]
  | a :: r,b :: t=>by
    have ih:=zky r t
    unfold sameB
    by_cases h:a=b
    · subst h;simp [ih]
    · simp [h]
def isWord (t:List UInt8):Bool:=wordsL.any fun w=>sameB w.b t
theorem zrW (s:Str):zgp s=some (isWord s.b):=by
  refine tx ?_
  unfold zgp
  refine T.eq (y:=wordsL) rfl (T.cal (zgS wordsL s (by decide)) fun y _ hy=>T.some ?_)
  rw [hy,Bool.eq_iff_iff,decide_eq_true_eq]
  unfold isWord
  rw [List.any_eq_true]
  constructor
  · intro h;exact ⟨s,h,(zky _ _).2 rfl⟩
  · rintro ⟨w,h1,h2⟩
    have:=(zky _ _).1 h2
    obtain ⟨wb⟩:=w;obtain ⟨sb⟩:=s
    simp only at this;subst this;exact h1

/-! ### One sign, all signs -/
/-- The kind and the text of what comes first, and what is left behind it. -/
def oneS (b:List UInt8):Option (Int × List UInt8 × List UInt8) :=
  let c:=hd b
  bif zci c then bif nmBad b then none else some (bif isWord (b.take (nm b)) then 5 else bif decide (c ≤ 90) then 1 else 2,b.take (nm b),b.drop (nm b))
  else bif isDigit c || (decide (c=45) && isDigit (hd (b.drop 1))) then match numLen b with
    | none=>none
    | some n=>some (3,b.take n,b.drop n)
  else bif decide (c=39) then bif hexBad (b.drop 1) then none else some (4,(b.drop 1).take (hx (b.drop 1)),(b.drop 1).drop (hx (b.drop 1) + 2))
  else bif decide (c=34) then match qd false (b.drop 1) [] with
    | none=>none
    | some (t,r)=>some (7,t,r)
  else bif decide (0 < sg b) then some (6,b.take (sg b),b.drop (sg b)) else none
theorem zmP:∀ (b:List UInt8) (f:Bool) (acc t r:List UInt8),qd f b acc=some (t,r)→r.length < b.length
  | [],f,acc,t,r,h=>by cases f <;> simp [qd] at h
  | c :: b,true,acc,t,r,h=>by
    simp only [qd] at h
    have:=zmP b _ _ _ _ h
    simp;omega
  | c :: b,false,acc,t,r,h=>by
    simp only [qd] at h
    by_cases h1:c=34
    · simp only [zDT h1,cond_true] at h
      by_cases h2:hd b=34
      · simp only [zDT h2,cond_true] at h
        have:=zmP b _ _ _ _ h
        simp;omega
      · simp only [zDF h2,cond_false] at h
        cases hv:Lib.validD acc with
        | true=>rw [hv] at h;simp at h;rw [← h.2];simp
        | false=>rw [hv] at h;cases h
    · simp only [zDF h1,cond_false] at h
      have:=zmP b _ _ _ _ h
      simp;omega
theorem zmy {b:List UInt8} {n:Nat} (h:numLen b=some n):0 < n∧n ≤ b.length:=by
  unfold numLen at h
  by_cases h1:hd b=45
  · simp only [zDT h1,cond_true] at h
    cases hb:numBad true (b.drop 1) with
    | true=>rw [hb] at h;cases h
    | false =>
      rw [hb] at h;simp only [cond_false,Option.some.injEq] at h
      have:=zrv (b.drop 1)
      rw [List.length_drop] at this
      have:b ≠ []:=fun e=>by rw [e] at h1;cases h1
      have:=List.length_pos_iff.2 this
      omega
  · simp only [zDF h1,cond_false] at h
    cases hb:numBad false b with
    | true=>rw [hb] at h;cases h
    | false =>
      rw [hb] at h;simp at h
      have:=zrv b
      have:decide (dg b < 1)=false:=by
        unfold numBad at hb
        simp only [Bool.or_eq_false_iff] at hb
        exact hb.1.1.1.1.1.1
      have:=zOF this
      omega
theorem zso {b:List UInt8} (h:zci (hd b)=true):0 < nm b:=by
  cases b with
  | nil=>simp [hd,zci] at h
  | cons c r =>
    rw [zo9]
    simp only [hd] at h
    unfold inName
    rw [h];simp
theorem zq9:∀ (l:List (List UInt8)) (b:List UInt8),sgF l b ≤ b.length
  | [],b=>Nat.zero_le _
  | p :: ps,b=>by
    unfold sgF
    cases h:isPre p b with
    | true=>exact ((ziR _ _).1 h).1
    | false=>exact zq9 ps b
theorem zru {b t r:List UInt8} {k:Int} (h:oneS b=some (k,t,r)):r.length < b.length:=by
  unfold oneS at h
  simp only at h
  cases h1:zci (hd b) with
  | true =>
    rw [h1,cond_true] at h
    cases h2:nmBad b with
    | true=>rw [h2] at h;cases h
    | false =>
      rw [h2] at h
      simp only [cond_false,Option.some.injEq,Prod.mk.injEq] at h
      rw [← h.2.2,List.length_drop]
      have:=zso h1
      have:=znI b
      omega
  | false =>
    rw [h1,cond_false] at h
    cases h2:isDigit (hd b) || (decide (hd b=45) && isDigit (hd (b.drop 1))) with
    | true =>
      rw [h2,cond_true] at h
      cases h3:numLen b with
      | none=>rw [h3] at h;cases h
      | some n =>
        rw [h3] at h
        simp only [Option.some.injEq,Prod.mk.injEq] at h
        have:=zmy h3
        rw [← h.2.2,List.length_drop];omega
    | false =>
      rw [h2,cond_false] at h
      by_cases h3:hd b=39
      · rw [zDT h3,cond_true] at h
        cases h4:hexBad (b.drop 1) with
        | true=>rw [h4] at h;cases h
        | false =>
          rw [h4] at h
          simp only [cond_false,Option.some.injEq,Prod.mk.injEq] at h
          have:b ≠ []:=fun e=>by rw [e] at h3;cases h3
          have:=List.length_pos_iff.2 this
          rw [← h.2.2,List.length_drop,List.length_drop];omega
      · rw [zDF h3,cond_false] at h
        by_cases h4:hd b=34
        · rw [zDT h4,cond_true] at h
          cases h5:qd false (b.drop 1) [] with
          | none=>rw [h5] at h;cases h
          | some q =>
            rw [h5] at h
            obtain ⟨t',r'⟩:=q
            simp only [Option.some.injEq,Prod.mk.injEq] at h
            have:=zmP _ _ _ _ _ h5
            rw [List.length_drop] at this
            rw [← h.2.2];omega
        · rw [zDF h4,cond_false] at h
          by_cases h5:0 < sg b
          · rw [zDT h5,cond_true] at h
            simp only [Option.some.injEq,Prod.mk.injEq] at h
            have:=zq9 sgs b
            have e:sgF sgs b=sg b:=rfl
            rw [← h.2.2,List.length_drop];omega
          · rw [zDF h5] at h;cases h
theorem zsn (s:Str) (i:Int) (h0:0 ≤ i) (h1:i < s.b.length) (hl:s.b.length ≤ 1000000) :
    T (fun (q:GTok × Int)=>match oneS (s.b.drop i.toNat) with
      | none=>q.2 < 0
      | some (k,t,r)=>q=(⟨k,⟨t⟩,i⟩,(s.b.length:Int) - (r.length:Int))) (zhV s i):=by
  unfold zhV
  refine T.get h0 h1 fun y hy=>?_
  have ed:=dropc hy
  have hy0:hd (s.b.drop i.toNat)=y:=by rw [ed];rfl
  have ed1:(s.b.drop i.toNat).drop 1=s.b.drop (i.toNat + 1):=by rw [List.drop_drop]
  have elen:(s.b.drop i.toNat).length=s.b.length - i.toNat:=List.length_drop
  have etake:∀ (n:Nat),(s.b.take (i + (n:Int)).toNat).drop i.toNat=(s.b.drop i.toNat).take n:=fun n=>by
    rw [seg];congr 1;omega
  have erest:∀ (n:Nat),n ≤ (s.b.drop i.toNat).length→i + (n:Int)=(s.b.length:Int) - (((s.b.drop i.toNat).drop n).length:Int):=fun n hn=>by
    rw [List.length_drop,elen];rw [elen] at hn;omega
  refine T.jp (ι:=Int × GTok) (fun (q:Int × GTok)=>match oneS (s.b.drop i.toNat) with
      | none=>q.1 < 0
      | some (k,t,r)=>(q.2,q.1)=(⟨k,⟨t⟩,i⟩,(s.b.length:Int) - (r.length:Int))) (fun J h=>?_) fun q hq=>T.some hq
  unfold oneS at h ⊢
  simp only [hy0] at h ⊢
  refine T.eq (zga y) (T.br (fun hle=>?_) fun hle=>T.eq (zeg y) ?_)
  · rw [hle,cond_true] at h ⊢
    have hcl:zci (hd (s.b.drop i.toNat))=true:=by rw [hy0];exact hle
    refine T.eq (zrT s i h0 h1 hl hcl) ?_
    cases hb:nmBad (s.b.drop i.toNat) with
    | true =>
      rw [hb,cond_true] at h
      simp only [cond_true] at h ⊢
      exact T.br (fun _=>T.some (by dsimp only;omega)) fun hn=>by have:=zOF hn;omega
    | false =>
      rw [hb,cond_false] at h
      simp only [cond_false] at h ⊢
      have hnl:=znI (s.b.drop i.toNat)
      rw [elen] at hnl
      refine T.br (fun hn=>by have:=zOT hn;omega) fun _=>T.asd (by omega) ?_
      rw [etake]
      refine T.jp (ι:=GTok) (fun t=>t=⟨bif decide (y ≤ 90) then 1 else 2,⟨(s.b.drop i.toNat).take (nm (s.b.drop i.toNat))⟩,i⟩) (fun J2 h2=>T.br (fun h3=>h2 _ (by rw [h3];rfl)) fun h3=>h2 _ (by rw [h3];rfl)) fun t ht=>?_
      subst ht
      refine T.eq (zrW _) (T.br (fun h3=>h _ ?_) fun h3=>h _ ?_)
      · dsimp only at h3 ⊢;rw [h3,← erest _ (znI _)];rfl
      · dsimp only at h3 ⊢;rw [h3,← erest _ (znI _)];rfl
  · rw [hle, cond_false] at h ⊢
    refine T.jp (fun b=>b=(isDigit y || (decide (y=45) && isDigit (hd ((s.b.drop i.toNat).drop 1))))) (fun J2 h2=>T.br (fun h3=>h2 _ (by rw [h3];rfl)) fun h3=>?_) fun b hb=>?_
    · refine T.jp (fun b=>b=(decide (y=45) && isDigit (hd ((s.b.drop i.toNat).drop 1)))) (fun J3 h4=>T.br (fun h5=>T.ck (by omega) (T.eq (zkS s (i + 1) (by omega)) (T.eq (zeg _) (h4 _ ?_)))) fun h5=>h4 _ (by rw [h5];rfl)) fun b hb=>h2 _ (by rw [h3,hb];rfl)
      rw [h5,ed1,show (i + 1).toNat=i.toNat + 1 by omega];rfl
    rw [← hb] at h ⊢
    refine T.br (fun h3=>T.eq (zpK s i h0 h1 hl) ?_) fun h3=>?_
    · rw [h3,cond_true] at h ⊢
      cases hn:numLen (s.b.drop i.toNat) with
      | none =>
        simp only [hn] at h ⊢
        exact T.br (fun _=>T.some (by dsimp only;omega)) fun hn=>by have:=zOF hn;omega
      | some n =>
        simp only [hn] at h ⊢
        have hbd:=zmy hn
        have hbd2:=hbd.2
        rw [elen] at hbd2
        refine T.br (fun hn=>by have:=zOT hn;omega) fun _=>T.asd (by omega) (h _ ?_)
        rw [etake,← erest n hbd.2]
    · rw [h3,cond_false] at h ⊢
      refine T.br (fun h4=>T.eq (zsv s i h0 h1 hl) (h _ ?_)) fun h4=>?_
      · rw [h4,cond_true,ed1]
        cases hb:hexBad (s.b.drop (i.toNat + 1)) with
        | true=>simp only [cond_true];omega
        | false =>
          simp only [cond_false]
          have h5:hx (s.b.drop (i.toNat + 1)) + 1 < (s.b.drop (i.toNat + 1)).length:=by
            unfold hexBad at hb
            have:=(Bool.or_eq_false_iff.1 hb).2
            have h72:hd ((s.b.drop (i.toNat + 1)).drop (hx (s.b.drop (i.toNat + 1)) + 1))=72:=by simpa using this
            exact zrn (by rw [h72];decide)
          rw [List.length_drop] at h5
          rw [List.length_drop,List.length_drop]
          have e:i + 1 + (hx (s.b.drop (i.toNat + 1)):Int) + 2=(s.b.length:Int) - ((s.b.length - (i.toNat + 1) - (hx (s.b.drop (i.toNat + 1)) + 2):Nat):Int):=by omega
          rw [e]
      · rw [h4,cond_false] at h ⊢
        refine T.br (fun h5=>T.eq (zp1 s i h0 h1 hl) (h _ ?_)) fun h5=>?_
        · rw [h5,cond_true,ed1]
          cases hq:qd false (s.b.drop (i.toNat + 1)) [] with
          | none=>simp only;omega
          | some q=>rfl
        · rw [h5,cond_false] at h ⊢
          refine T.eq (zrx s i h0 h1 hl) (T.br (fun h6=>?_) fun h6=>h _ ?_)
          · have h6:=zOT h6
            have hsl:=zq9 sgs (s.b.drop i.toNat)
            have esg:sgF sgs (s.b.drop i.toNat)=sg (s.b.drop i.toNat):=rfl
            have hpos:0 < sg (s.b.drop i.toNat):=by omega
            have hsl2:=hsl
            rw [elen] at hsl2
            refine T.ck (by omega) (T.asd (by omega) (T.ck (by omega) (h _ ?_)))
            rw [zDT hpos,cond_true]
            dsimp only
            rw [etake,← erest (sg (s.b.drop i.toNat)) hsl]
          · have h6:=zOF h6
            rw [zDF (show ¬ 0 < sg (s.b.drop i.toNat) by omega)]
            simp only [cond_false];omega

def toksF (n:Nat):Nat→List UInt8→List GTok→List GTok × Int × Int
  | 0,_,_=>([],0,0)
  | f + 1,b,acc=>match wh .out b with
    | []=>(acc ++ [⟨0,⟨[]⟩,(n:Int)⟩],0,0)
    | c :: r=>match oneS (c :: r) with
      | none=>([],(n:Int) - ((c :: r).length:Int),6)
      | some (k,t,r')=>toksF n f r' (acc ++ [⟨k,⟨t⟩,(n:Int) - ((c :: r).length:Int)⟩])
theorem zoz (n f:Nat) (b:List UInt8) (acc:List GTok):toksF n (f + 1) b acc=match wh .out b with
    | []=>(acc ++ [⟨0,⟨[]⟩,(n:Int)⟩],0,0)
    | c :: r=>match oneS (c :: r) with
      | none=>([],(n:Int) - ((c :: r).length:Int),6)
      | some (k,t,r')=>toksF n f r' (acc ++ [⟨k,⟨t⟩,(n:Int) - ((c :: r).length:Int)⟩]):=rfl
def toks (b:List UInt8):List GTok × Int × Int:=bif decide (8000 < b.length) then ([],0,5) else toksF b.length (b.length + 1) b []
theorem zip:∀ (b:List UInt8) (st:Wst),(wh st b).length ≤ b.length
  | [],st=>by cases st <;> simp [wh]
  | c :: r,.out=>by
    have h1:=zip r .out
    have h2:=zip r .start
    simp only [wh]
    cases isWh c <;> simp only [cond_true,cond_false]
    · cases decide (c=45) && decide (hd r=45) <;> simp only [cond_true,cond_false,List.length_cons] <;> omega
    · simp only [List.length_cons];omega
  | c :: r,.start=>by have:=zip r .ins;simp only [wh,List.length_cons];omega
  | c :: r,.ins=>by
    have h1:=zip r .out
    have h2:=zip r .fin
    have h3:=zip r .ins
    simp only [wh,List.length_cons]
    cases decide (c=10) <;> simp only [cond_true,cond_false]
    · cases decide (c=45) && decide (hd r=45) <;> simp only [cond_true,cond_false] <;> omega
    · omega
  | c :: r,.fin=>by have:=zip r .out;simp only [wh,List.length_cons];omega
theorem zii:∀ (b:List UInt8) (st:Wst),∃ n,wh st b=b.drop n
  | [],st=>⟨0,by cases st <;> simp [wh]⟩
  | c :: r,.out=>by
    obtain ⟨n1,h1⟩:=zii r .out
    obtain ⟨n2,h2⟩:=zii r .start
    simp only [wh]
    cases isWh c <;> simp only [cond_true,cond_false]
    · cases decide (c=45) && decide (hd r=45) <;> simp only [cond_true,cond_false]
      · exact ⟨0,rfl⟩
      · exact ⟨n2 + 1,h2⟩
    · exact ⟨n1 + 1,h1⟩
  | c :: r,.start=>by obtain ⟨n,h⟩:=zii r .ins;exact ⟨n + 1,h⟩
  | c :: r,.ins=>by
    obtain ⟨n1,h1⟩:=zii r .out
    obtain ⟨n2,h2⟩:=zii r .fin
    obtain ⟨n3,h3⟩:=zii r .ins
    simp only [wh]
    cases decide (c=10) <;> simp only [cond_true,cond_false]
    · cases decide (c=45) && decide (hd r=45) <;> simp only [cond_true,cond_false]
      · exact ⟨n3 + 1,h3⟩
      · exact ⟨n2 + 1,h2⟩
    · exact ⟨n1 + 1,h1⟩
  | c :: r,.fin=>by obtain ⟨n,h⟩:=zii r .out;exact ⟨n + 1,h⟩
theorem zng:∀ (b:List UInt8) (f:Bool) (acc t r:List UInt8),qd f b acc=some (t,r)→∃ n,r=b.drop n
  | [],f,acc,t,r,h=>by cases f <;> simp [qd] at h
  | c :: b,true,acc,t,r,h=>by
    simp only [qd] at h
    obtain ⟨n,e⟩:=zng b _ _ _ _ h
    exact ⟨n + 1,e⟩
  | c :: b,false,acc,t,r,h=>by
    simp only [qd] at h
    by_cases h1:c=34
    · simp only [zDT h1,cond_true] at h
      by_cases h2:hd b=34
      · simp only [zDT h2,cond_true] at h
        obtain ⟨n,e⟩:=zng b _ _ _ _ h
        exact ⟨n + 1,e⟩
      · simp only [zDF h2,cond_false] at h
        cases hv:Lib.validD acc with
        | true=>rw [hv] at h;simp at h;exact ⟨1,h.2.symm⟩
        | false=>rw [hv] at h;cases h
    · simp only [zDF h1,cond_false] at h
      obtain ⟨n,e⟩:=zng b _ _ _ _ h
      exact ⟨n + 1,e⟩
theorem zrl {b t r:List UInt8} {k:Int} (h:oneS b=some (k,t,r)):∃ n,r=b.drop n:=by
  unfold oneS at h
  simp only at h
  cases h1:zci (hd b) with
  | true =>
    rw [h1,cond_true] at h
    cases h2:nmBad b with
    | true=>rw [h2] at h;cases h
    | false =>
      rw [h2] at h
      simp only [cond_false,Option.some.injEq,Prod.mk.injEq] at h
      exact ⟨_,h.2.2.symm⟩
  | false =>
    rw [h1,cond_false] at h
    cases h2:isDigit (hd b) || (decide (hd b=45) && isDigit (hd (b.drop 1))) with
    | true =>
      rw [h2,cond_true] at h
      cases h3:numLen b with
      | none=>rw [h3] at h;cases h
      | some n =>
        rw [h3] at h
        simp only [Option.some.injEq,Prod.mk.injEq] at h
        exact ⟨_,h.2.2.symm⟩
    | false =>
      rw [h2,cond_false] at h
      by_cases h3:hd b=39
      · rw [zDT h3,cond_true] at h
        cases h4:hexBad (b.drop 1) with
        | true=>rw [h4] at h;cases h
        | false =>
          rw [h4] at h
          simp only [cond_false,Option.some.injEq,Prod.mk.injEq,List.drop_drop] at h
          exact ⟨_,h.2.2.symm⟩
      · rw [zDF h3,cond_false] at h
        by_cases h4:hd b=34
        · rw [zDT h4,cond_true] at h
          cases h5:qd false (b.drop 1) [] with
          | none=>rw [h5] at h;cases h
          | some q =>
            rw [h5] at h
            obtain ⟨t',r'⟩:=q
            simp only [Option.some.injEq,Prod.mk.injEq] at h
            obtain ⟨n,e⟩:=zng _ _ _ _ _ h5
            rw [List.drop_drop] at e
            exact ⟨_,h.2.2.symm.trans e⟩
        · rw [zDF h4,cond_false] at h
          by_cases h5:0 < sg b
          · rw [zDT h5,cond_true] at h
            simp only [Option.some.injEq,Prod.mk.injEq] at h
            exact ⟨_,h.2.2.symm⟩
          · rw [zDF h5] at h;cases h
theorem zn9 {b r:List UInt8} {n:Nat} (h:r=b.drop n):b.drop (b.length - r.length)=r:=by
  subst h
  rw [List.length_drop]
  rcases Nat.lt_or_ge b.length n with h2 | h2
  · rw [List.drop_eq_nil_of_le (show b.length ≤ n by omega),List.drop_eq_nil_of_le (by omega)]
  · congr 1;omega

theorem zpB (s:Str):zdH s=some (toks s.b):=by
  refine tx ?_
  unfold zdH toks
  refine T.br (fun h=>T.some ?_) fun h=>?_
  · have h:=zOT h
    rw [zDT (show 8000 < s.b.length by omega)];rfl
  have hl:=zOF h
  rw [zDF (show ¬ 8000 < s.b.length by omega),cond_false]
  refine T.lp (ι:=List GTok × Int) (fun (q:List GTok × Int)=>0 ≤ q.2∧q.2 ≤ (s.b.length:Int)∧(q.1.length:Int) ≤ q.2∧∃ f,(s.b.drop q.2.toNat).length < f∧toksF s.b.length (s.b.length + 1) s.b []=toksF s.b.length f (s.b.drop q.2.toNat) q.1) (fun (q:List GTok × Int)=>((s.b.length:Int) - q.2).toNat) ⟨Int.le_refl _,by dsimp only;omega,by simp,s.b.length + 1,by simp,rfl⟩ (by dsimp only;omega) fun L q hq hL=>?_
  obtain ⟨l,k⟩:=q
  obtain ⟨h1,h2,h3,f,h4,h5⟩:=hq
  simp only at h1 h2 h3 h4 h5 ⊢
  rw [h5] at hL ⊢
  cases f with
  | zero=>omega
  | succ f =>
    have hwl:=zip (s.b.drop k.toNat) .out
    rw [List.length_drop] at hwl h4
    obtain ⟨nw,hw⟩:=zii (s.b.drop k.toNat) .out
    rw [List.drop_drop] at hw
    have hsw:=zn9 hw
    refine T.eq (zq3 s k h1 h2 (by omega)) ?_
    rw [zoz] at hL ⊢
    cases hwh:wh .out (s.b.drop k.toNat) with
    | nil =>
      simp only [hwh] at hL ⊢
      refine T.br (fun _=>T.abl (by simp only [List.length_cons,List.length_nil];omega) (T.some rfl)) fun h6=>?_
      have:=zOF h6
      simp at this
    | cons c r =>
      simp only [hwh] at hL ⊢ 
      rw [hwh] at hwl hsw
      have hcl:0 < (c :: r).length:=by simp
      refine T.br (fun h6=>by have:=zOT h6;omega) fun _=>?_
      have hi:((s.b.length:Int) - ((c :: r).length:Int)).toNat=s.b.length - (c :: r).length:=by omega
      refine T.cal (zsn s ((s.b.length:Int) - ((c :: r).length:Int)) (by omega) (by omega) (by omega)) fun q _ hq=>?_
      rw [hi,hsw] at hq
      cases ho:oneS (c :: r) with
      | none =>
        rw [ho] at hq
        simp only [ho] at hL ⊢
        simp only at hq
        exact T.br (fun _=>T.some rfl) fun h7=>by have:=zOF h7;omega
      | some p =>
        obtain ⟨kd,t,r'⟩:=p
        rw [ho] at hq
        simp only [ho] at hL ⊢
        simp only at hq
        subst hq
        have hol:=zru ho
        obtain ⟨no,hso⟩:=zrl ho
        have hso2:r'=s.b.drop (s.b.length - (c :: r).length + no):=by rw [hso,← List.drop_drop,hsw]
        have hsd:=zn9 hso2
        refine T.br (fun h7=>by have:=zOT h7;dsimp only at this;omega) fun _=>T.abl (by simp only [List.length_cons,List.length_nil];omega) (hL _ ⟨by dsimp only;omega,by dsimp only;omega,?_,f,?_,?_⟩ (by dsimp only;omega))
        · dsimp only;rw [List.length_append,List.length_singleton];omega
        · dsimp only
          rw [show ((s.b.length:Int) - (r'.length:Int)).toNat=s.b.length - r'.length by omega,hsd]
          omega
        · dsimp only
          rw [show ((s.b.length:Int) - (r'.length:Int)).toNat=s.b.length - r'.length by omega,hsd]
end Go.Proofs.Q


namespace Go.Proofs.Q
open Go.Sy
set_option maxRecDepth 4000
def tokF (s:Str):Option (List GTok × Int × Int):=some (toks s.b)
theorem zrI:zdH=tokF:=funext zpB
def zjE (zbg:Str):Option (GMod × Int × Int) :=
  cal (tokF zbg) fun y2=>br (!decide (y2.2.2=(0:Int))) (some ((GMod.mk (Str.mk []) (0:Int) ([]:(List Str)) ([]:(List Int)) ([]:(List GNode))),y2.2.1,y2.2.2)) (cal (zbi (GPar.mk y2.1 (0:Int) (GMod.mk (Str.mk []) (0:Int) ([]:(List Str)) ([]:(List Int)) ([]:(List GNode))) (0:Int) (0:Int)) (1:Int)) fun y7=>cal (zab (GPar.mk y7.2.l y7.2.at_ (GMod.mk y7.1 y7.2.m.tagging y7.2.m.names y7.2.m.types y7.2.m.nodes) y7.2.e y7.2.p) (Str.mk [68,69,70,73,78,73,84,73,79,78,83])) fun y10=>jp (ι:=GPar) (fun J14=>cal (zU y10 (Str.mk [69,88,80,76,73,67,73,84])) fun y15=>br y15.1 (cal (zab y15.2 (Str.mk [84,65,71,83])) fun y18=>J14 (y18)) (cal (zU y15.2 (Str.mk [73,77,80,76,73,67,73,84])) fun y21=>br y21.1 (cal (zab (GPar.mk y21.2.l y21.2.at_ (GMod.mk y21.2.m.name (1:Int) y21.2.m.names y21.2.m.types y21.2.m.nodes) y21.2.e y21.2.p) (Str.mk [84,65,71,83])) fun y24=>J14 (y24)) (cal (zU y21.2 (Str.mk [65,85,84,79,77,65,84,73,67])) fun y27=>br y27.1 (cal (zab (GPar.mk y27.2.l y27.2.at_ (GMod.mk y27.2.m.name (2:Int) y27.2.m.names y27.2.m.types y27.2.m.nodes) y27.2.e y27.2.p) (Str.mk [84,65,71,83])) fun y30=>J14 (y30)) (J14 (y27.2))))) (fun q13=>cal (zab q13 (Str.mk [58,58,61])) fun y33=>cal (zab y33 (Str.mk [66,69,71,73,78])) fun y36=>lp (ι:=GPar) (fun L40 q39=>jp (ι:=Bool × GPar) (fun J92=>br (decide (q39.e=(0:Int))) (cal (zU q39 (Str.mk [69,78,68])) fun y94=>J92 ((!y94.1),y94.2)) (J92 (false,q39))) (fun q91=>br q91.1 (cal (zaJ q91.2) fun y97=>cal (zbi y97.2 (1:Int)) fun y101=>jp (ι:=Bool) (fun J105=>br (decide (y101.2.e=(0:Int))) (J105 ((decide ((40:Int) ≤ (y101.2.m.names.length:Int))))) (J105 (false))) (fun q104=>jp (ι:=GPar) (fun J108=>br q104 (cal (zaT y101.2 (5:Int) y97.1) fun y109=>J108 (y109)) (J108 (y101.2))) (fun q107=>cal (zab q107 (Str.mk [58,58,61])) fun y112=>cal (zbH fuel y112 (0:Int)) fun y115=>asr (Nat.ble (y115.2.m.names.length + ([y101.1]:(List Str)).length) 68719476736) <| asr (Nat.ble (y115.2.m.types.length + ([y115.1]:(List Int)).length) 68719476736) <| L40 ((GPar.mk y115.2.l y115.2.at_ (GMod.mk y115.2.m.name y115.2.m.tagging (y115.2.m.names ++ ([y101.1]:(List Str))) (y115.2.m.types ++ ([y115.1]:(List Int))) y115.2.m.nodes) y115.2.e y115.2.p))))) (jp (ι:=Bool × GPar) (fun J126=>br (decide (q91.2.e=(0:Int))) (cal (zaJ q91.2) fun y128=>J126 ((!decide (y128.1.kind=(0:Int))),y128.2)) (J126 (false,q91.2))) (fun q125=>jp (ι:=GPar) (fun J132=>br q125.1 (cal (zaJ q125.2) fun y133=>cal (zaT y133.2 (7:Int) y133.1) fun y136=>J132 (y136)) (J132 (q125.2))) (fun q131=>br (!decide (q131.e=(0:Int))) (some ((GMod.mk (Str.mk []) (0:Int) ([]:(List Str)) ([]:(List Int)) ([]:(List GNode))),q131.p,q131.e)) (some (q131.m,(0:Int),(0:Int)))))))) ((y36))))
theorem zmi:zft=zjE:=by
  funext zbg
  unfold zft zjE
  rw [zrI]
def zfp (zbg:Str):Option (GTab × Bool) :=
  br (decide ((3000:Int) < (zbg.b.length:Int))) (some ((GTab.mk (Str.mk []) ([]:(List Str)) ([]:(List Int)) ([]:(List GTyp))),false)) (cal (zjE zbg) fun y2=>br (!decide (y2.2.2=(0:Int))) (some ((GTab.mk (Str.mk []) ([]:(List Str)) ([]:(List Int)) ([]:(List GTyp))),false)) (cal (zhf y2.1) fun y4=>jp (ι:=Bool) (fun J7=>br (decide (y4.2.2=(0:Int))) (J7 ((decide ((y4.1.types.length:Int) ≤ (120:Int))))) (J7 (false))) (fun q6=>some (y4.1,q6))))
theorem zjb:zb4=zfp:=by
  funext zbg
  unfold zb4 zfp
  rw [zmi]
def zkj:Option (Bool) :=
  cal (zfp (Str.mk [77,32,68,69,70,73,78,73,84,73,79,78,83,32,58,58,61,32,66,69,71,73,78,32,65,32,58,58,61,32,73,78,84,69,71,69,82,32,40,48,46,46,55,41,32,69,78,68])) fun y1=>jp (ι:=Bool) (fun J4=>br y1.2 (cal (zdk y1.1 (0:Int) (Val.mk (2:Int) (7:Int) ([]:(List UInt8)) ([]:(List Val)) (0:Int) ([]:(List Raw)))) fun y6=>J4 (y6)) (J4 (false))) (fun q3=>jp (ι:=Bool) (fun J8=>br q3 (cal (zdk y1.1 (0:Int) (Val.mk (2:Int) (8:Int) ([]:(List UInt8)) ([]:(List Val)) (0:Int) ([]:(List Raw)))) fun y10=>J8 ((!y10))) (J8 (false))) (fun q7=>jp (ι:=Bool) (fun J12=>br q7 (cal (zdP fuel (Val.mk (4:Int) (0:Int) ([]:(List UInt8)) ([]:(List Val)) (0:Int) ([]:(List Raw)))) fun y14=>J12 ((decide (y14=(1:Int))))) (J12 (false))) (fun q11=>some (q11))))
theorem zk4:zdG=zkj:=by
  unfold zdG zkj
  rw [zjb]
end Go.Proofs.Q


namespace Go.Proofs.Q
open Go.Sy
set_option maxRecDepth 4000
theorem awake12:zdG=some true:=by
  rw [zk4];kernel_rfl
end Go.Proofs.Q


namespace Go.Proofs.Q
open Go.Sy
set_option linter.unusedVariables false

theorem zrf {t:GTab} (ht:TabOk t) (w:Int):T (fun _=>True) (zdQ t w):=by
  unfold zdQ
  have h1:=ht.names
  have h2:=ht.roots
  refine T.br (fun _=>T.some trivial) fun h=>?_
  have h:=zOF h
  have hn:(UInt64.ofNat ((t.roots.length:Int) % 18446744073709551616).toNat).toNat=t.roots.length:=by rw [UInt64.toNat_ofNat'];omega
  have hz:¬ (UInt64.ofNat ((t.roots.length:Int) % 18446744073709551616).toNat)=0:=fun e=>by
    have:=congrArg UInt64.toNat e
    rw [hn] at this
    exact h (by rw [this];rfl)
  have hlt:((UInt64.ofNat (w % 18446744073709551616).toNat) % (UInt64.ofNat ((t.roots.length:Int) % 18446744073709551616).toNat)).toNat < t.roots.length:=by
    rw [UInt64.toNat_mod,hn];exact Nat.mod_lt _ (by omega)
  exact T.asr (by rw [zDF hz];rfl) (T.ck (by omega) (T.get (by omega) (by omega) fun y _=>T.some trivial))
theorem zpY {t:GTab} (ht:TabOk t) (i:Int) {v:Val} (hf:Fine v) (hc:cnt v ≤ 100000):T (fun r=>r=true→Fit t 17 i v∧cnt v ≤ 5000) (zgh t i v):=by
  unfold zgh
  refine T.eq (zo3 (by unfold fuel;omega) (by omega) hf) (T.jp (fun b=>b=true→Fit t 17 i v∧cnt v ≤ 5000) (fun J kk=>T.br (fun h=>T.cal (zp7 ht (h:=17) (by decide) (by decide) (by unfold fuel;decide) hf hc) fun y _ hy=>kk _ fun h2=>⟨hy h2,by have:=zOT h;omega⟩) fun _=>kk _ fun h=>by cases h) fun b hb=>T.some hb)
theorem zrj {t:GTab} (ht:TabOk t) (i:Int) {v:Val} (hf:Fine v) (h1:Fit t 17 i v) (h2:cnt v ≤ 5000) (h3:bare (strip v)=true):zdk t i (strip v)=some true:=by
  refine T.eqs ?_
  unfold zdk
  have hc:=zkG 5000 v h2
  refine T.eq (zq4 ht (b:=false) (h:=17) (by decide) (by decide) (by unfold fuel;decide) hf (by omega) h1 h3) (T.jp (fun b=>b=true) (fun J kk=>T.br (fun _=>T.eq (zpN (by unfold fuel;omega) (by omega) (zjp 5000 v h2 hf)) (kk _ (zDT (by omega)))) fun h=>by cases h) fun b hb=>T.some hb)
theorem zoO (s:Str) (w:Int) (v:Val) (hm:FineM v):zdS s w v=some true:=by
  refine T.eqs ?_
  unfold zdS
  refine T.cal (zpw s) fun t _ ht=>T.cal (zrf ht w) fun r _ _=>T.or' ?_
  refine T.jp (fun b=>b=false→cnt v ≤ 2000∧Fine v) (fun J kk=>T.br (fun _=>kk _ fun h=>by cases h) fun _=>T.cal (zqn hm) fun y _ hy=>kk _ fun h=>hy (by simpa using h)) fun b hb=>T.br (fun _=>T.eq awake12 (T.some rfl)) fun h=>?_
  obtain ⟨hc,hf⟩:=hb h
  have hs2:=zjp 2000 v hc hf
  have hcs:=zkG 2000 v hc
  refine T.eq (zmk (by unfold fuel;omega) hf) (T.eq awake12 ?_)
  refine T.orJ (d:=false) (fun J hh=>T.eq (zmk (by unfold fuel;omega) hs2) ?_) ?_
  · rw [zns 2000 v hc]
    refine T.cal (zhD (k:=2000) (by omega) (by unfold fuel;omega) hs2 _) fun r _ hr=>?_
    rw [hr.2 rfl];exact hh
  have hF:T (fun q=>q=true→Fit t.1 17 r.1 v∧cnt v ≤ 5000) (zgh t.1 r.1 v):=zpY ht _ hf (by omega)
  obtain ⟨q,hq1,hq2⟩:=hF
  refine T.orJ (d:=false) (fun J hh=>T.eq hq1 ?_) (T.br (fun h=>by cases h) fun _=>T.eq hq1 ?_)
  · refine T.andJ (d:=bare v) (fun J2 h2=>T.eq (zmG (by unfold fuel;omega) hf) h2) ?_
    refine T.jp (fun b=>b=false) (fun J3 k3=>T.br (fun h4=>?_) fun _=>k3 _ rfl) fun b hb=>by rw [hb];exact hh
    rw [Bool.and_eq_true] at h4
    refine T.cal (zhD (k:=2000) (by omega) (by unfold fuel;omega) hs2 _) fun z _ hz=>k3 _ ?_
    rw [hz.2 (zqt (hq2 h4.1).1 h4.2)];rfl
  · refine T.orJ (d:=!bare (strip v)) (fun J hh=>T.eq (zmG (by unfold fuel;omega) hs2) hh) ?_
    refine T.jp (fun b=>b=true) (fun J kk=>T.br (fun _=>kk _ rfl) fun h4=>?_) fun b hb=>T.some hb
    rw [Bool.or_eq_false_iff] at h4
    have g1:q=true:=by simpa using h4.1
    have g2:bare (strip v)=true:=by simpa using h4.2
    obtain ⟨g3,g4⟩:=hq2 g1
    exact T.eq (zrj ht _ hf g3 g4 g2) (kk _ rfl)
end Go.Proofs.Q


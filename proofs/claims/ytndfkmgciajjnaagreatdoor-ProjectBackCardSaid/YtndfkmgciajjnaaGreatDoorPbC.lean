/- Handing on: the slots of a later version. No condition: general lemmas. -/
import Derived.Test.YtndfkmgciajjnaaGreatDoorPbA
import Derived.Test.YtndfkmgciajjnaaGreatDoorPbB
set_option linter.unusedVariables false
set_option linter.unusedSimpArgs false

namespace Go.Proofs.Q
open Go.Sy
set_option linter.unusedVariables false

def fl (x:GMk) (e:Int):GMk:=if x.e=0 then GMk.mk x.m x.l e else x
theorem fail10 (x:GMk) (e:Int):zaY x e=some (fl x e):=zlC x e
theorem zuZ (x:GMk) (e:Int):(fl x e).m=x.m:=by unfold fl;split <;> rfl
theorem zuV (x:GMk) (e:Int):(fl x e).l=x.l:=by unfold fl;split <;> rfl
theorem ztq {x:GMk} {e:Int} (h:e ≠ 0):(fl x e).e ≠ 0:=by
  unfold fl
  split
  · exact h
  · assumption
structure Sm (x y:GMk):Prop where
  m:y.m=x.m
  l:y.l=x.l
  e:y.e=0→x.e=0
theorem Sm.refl (x:GMk):Sm x x:=⟨rfl,rfl,fun h=>h⟩
theorem Sm.trans {x y z:GMk} (h:Sm x y) (k:Sm y z):Sm x z:=⟨k.m.trans h.m,k.l.trans h.l,fun e=>h.e (k.e e)⟩
theorem Sm.fl {x:GMk} {e:Int} (h:e ≠ 0):Sm x (fl x e):=⟨zuZ x e,zuV x e,fun k=>absurd k (ztq h)⟩
theorem zmA {x:GMk} {i:Nat} {t:GTyp} (v:Val) (ht:x.l[i]?=some t) (hv:DOk v) (r0:0 ≤ t.root) (r1:t.kind=3→t.root ≤ t.items.length) (hi:t.items.length ≤ 8001) :
    T (fun r=>Sm x r.2∧DOk r.1) (zcA x (i:Int) v):=by
  unfold zcA
  have hlt:=(List.getElem?_eq_some_iff.1 ht).1
  have hti:(i:Int).toNat=i:=Int.toNat_natCast i
  refine T.asd ⟨by omega,by omega⟩ ?_
  rw [hti]
  refine T.eq ht (T.jp (ι:=Bool × Val) (fun q=>DOk q.2) (fun J k=>?_) fun q hq=>T.jp (ι:=GMk) (fun y=>Sm x y) (fun J k=>T.br (fun _=>T.eq (fail10 _ _) (k _ (Sm.fl (by decide)))) fun _=>k _ (Sm.refl x)) fun y hy=>T.some ⟨hy,hq⟩)
  refine T.jp (fun _=>True) (fun J1 k1=>T.br (fun _=>k1 _ trivial) fun _=>k1 _ trivial) fun b1 _=>T.br (fun _=>k _ hv) fun _=>?_
  refine T.br (fun _=>T.jp (fun _=>True) (fun J1 k1=>T.br (fun _=>T.cal (zmm _ _) fun _ _ _=>k1 _ trivial) fun _=>k1 _ trivial) fun b2 _=>k _ hv) fun _=>?_
  refine T.jp (fun _=>True) (fun J1 k1=>T.br (fun _=>k1 _ trivial) fun _=>k1 _ trivial) fun b3 _=>T.br (fun _=>?_) fun _=>?_
  · refine T.jp (fun _=>True) (fun J1 k1=>T.br (fun _=>T.cal (zmm _ _) fun _ _ _=>k1 _ trivial) fun _=>k1 _ trivial) fun b4 _=>?_
    refine T.jp (fun _=>True) (fun J1 k1=>T.br (fun _=>T.jp (fun _=>True) (fun J2 k2=>T.br (fun _=>k2 _ trivial) fun _=>T.cal (zpi _ (by have:=hv.1;omega)) fun _ _ _=>k2 _ trivial) fun b5 _=>k1 _ trivial) fun _=>k1 _ trivial) fun b6 _=>k _ hv
  · refine T.br (fun h3=>T.br (fun _=>?_) fun _=>k _ hv) fun _=>k _ hv
    have h3:=zOT h3
    have r2:=r1 h3
    refine T.lp (ι:=Bool × Int × Val) (fun q=>0 ≤ q.2.1∧q.2.1 ≤ t.root∧DOk q.2.2) (fun q=>(t.root - q.2.1).toNat) ⟨Int.le_refl _,r0,hv⟩ (by dsimp only;omega) fun L q ⟨q1,q2,q3⟩ hL=>?_
    obtain ⟨b,j,w⟩:=q
    dsimp only at q1 q2 q3 hL ⊢
    refine T.jp (fun b'=>b'=true→j < t.root) (fun J1 k1=>T.br (fun h4=>k1 _ fun _=>zOT h4) fun _=>k1 _ fun h=>by cases h) fun b' hb'=>T.br (fun h5=>?_) fun _=>k _ q3
    have h5:=hb' h5
    refine T.jp (ι:=Bool × Val) (fun p=>DOk p.2) (fun J2 k2=>T.get q1 (by omega) fun y _=>T.br (fun _=>T.get q1 (by omega) fun y2 _=>k2 _ ⟨Nat.zero_le _,rfl,rfl,zOT rfl,zOT rfl,rfl⟩) fun _=>k2 _ q3) fun p hp=>T.ck (by omega) (hL _ ⟨by dsimp only;omega,by dsimp only;omega,hp⟩ (by dsimp only;omega))
theorem zmY {x:GMk} {i:Nat} (hi:i < x.l.length):T (fun r=>r.2=x) (zc7 x (i:Int)):=by
  unfold zc7
  have hti:(i:Int).toNat=i:=Int.toNat_natCast i
  refine T.asd ⟨by omega,by omega⟩ ?_
  rw [hti]
  exact T.eq (List.getElem?_eq_getElem hi) (T.br (fun _=>T.some rfl) fun _=>T.some rfl)
theorem zrE (tags:List Tag) (n mode:Int) (hl:tags.length ≤ 1000000):T (fun r=>r.2=0→r.1 ≠ []∧r.1.length ≤ tags.length + 1) (zjd tags n mode):=by
  unfold zjd
  refine T.jp (fun _=>True) (fun J k=>T.br (fun _=>k _ trivial) fun _=>k _ trivial) fun b1 _=>?_
  refine T.jp (fun b=>b=false→(mode=1→0 < tags.length)) (fun J k=>T.br (fun _=>k _ fun h=>by cases h) fun _=>?_) fun b2 hb2=>T.br (fun _=>T.some fun h=>by cases h) fun h2=>?_
  · refine T.jp (fun b=>b=false→(mode=1→0 < tags.length)) (fun J2 k2=>T.br (fun _=>k2 _ fun h _=>?_) fun h=>k2 _ fun _ hm=>absurd hm (zOF h)) fun b hb=>k _ hb
    have:=zOF h
    omega
  · have h2:=hb2 h2
    rw [tkl]
    refine T.br (fun h3=>T.asd ⟨by omega,by have:=h2 (zOT h3);omega,Int.le_refl _⟩ (T.abl (by rw [List.length_drop,List.length_singleton];omega) (T.some fun _=>⟨by simp,by dsimp only;rw [List.length_append,List.length_drop,List.length_singleton];omega⟩))) fun h3=>T.abl (by rw [List.length_singleton];omega) (T.some fun _=>⟨by simp,by dsimp only;rw [List.length_append,List.length_singleton];omega⟩)
def Wp1 (x y:GMk) (i:Nat):Prop:=y.m=x.m∧y.l.length=x.l.length∧(y.e=0→x.e=0∧∀ t,x.l[i]?=some t→∃ tg:List Tag,y.l=x.l.set i { t with tags:=tg }∧tg ≠ []∧tg.length ≤ t.tags.length + 1)
theorem zmJ {x:GMk} {i:Nat} {t:GTyp} (n mode:Int) (ht:x.e=0→x.l[i]?=some t∧t.tags.length ≤ 100000):T (fun y=>Wp1 x y i) (zdh x (i:Int) n mode):=by
  unfold zdh
  refine T.br (fun he=>T.some ⟨rfl,rfl,fun h=>absurd h (by simpa using he)⟩) fun he=>?_
  have he:x.e=0:=by simpa using he
  obtain ⟨h1,h2⟩:=ht he
  have hlt:=(List.getElem?_eq_some_iff.1 h1).1
  have hti:(i:Int).toNat=i:=Int.toNat_natCast i
  refine T.asd ⟨by omega,by omega⟩ ?_
  rw [hti]
  refine T.eq h1 (T.cal (zrE _ _ _ (by omega)) fun r _ hr=>T.br (fun hr2=>T.eq (fail10 _ _) (T.some ⟨zuZ _ _,by rw [zuV],fun h=>absurd h (ztq (by simpa using hr2))⟩)) fun hr2=>?_)
  have hr2:r.2=0:=by simpa using hr2
  obtain ⟨h3,h4⟩:=hr hr2
  refine T.asd ⟨by omega,by omega⟩ (T.eq h1 (T.some ⟨rfl,by dsimp only;rw [List.length_set],fun _=>⟨he,fun t' ht'=>?_⟩⟩))
  rw [h1] at ht';cases ht'
  exact ⟨r.1,rfl,h3,h4⟩
theorem TypOk.tag {t:GTyp} (h:TypOk t) {tg:List Tag} (h1:tg ≠ []) (h2:tg.length ≤ 100000):TypOk { t with tags:=tg } :=
  ⟨fun _=>h1,h2,h.root0,h.rootF,h.rootI,h.fields,h.items,h.ilen,h.nums,h.dflt,h.rootZ⟩
end Go.Proofs.Q


namespace Go.Proofs.Q
open Go.Sy
set_option linter.unusedVariables false

def Dn (m:GMod) (a:Int) (k j:Nat):Prop:=∀ (p:Nat) (n:GNode),k ≤ p→p < j→m.nodes[p]?=some n→n.kind=11→0 ≤ fnd m.names n.name∧Ed (gr m) a (fnd m.names n.name)
structure Env (m:GMod) (rk:Int→Nat):Prop where
  wf:WF m
  rk40:∀ i,rk i ≤ 40
  ed:∀ i j,Ed (gr m) i j→rk j < rk i
  root:∀ b:Int,0 ≤ b→b < m.names.length→∃ c d:Nat,m.types[b.toNat]?=some (c:Int)∧Sub 17 m.nodes c d∧d ≤ m.nodes.length∧Dn m b c d
structure Gk (x y:GMk):Prop where
  m:y.m=x.m
  le:x.l.length ≤ y.l.length
  lim:y.l.length ≤ 300
  e:y.e=0→x.e=0
  pre:y.e=0→∀ k,k < x.l.length→y.l[k]?=x.l[k]?
theorem Gk.refl {x:GMk} (h:x.l.length ≤ 300):Gk x x:=⟨rfl,Nat.le_refl _,h,fun e=>e,fun _ _ _=>rfl⟩
theorem Gk.sm {x y:GMk} (h:Sm x y) (k:x.l.length ≤ 300):Gk x y:=⟨h.m,by rw [h.l];exact Nat.le_refl _,by rw [h.l];exact k,h.e,fun _ _ _=>by rw [h.l]⟩
theorem Gk.trans {x y z:GMk} (h:Gk x y) (k:Gk y z):Gk x z :=
  ⟨k.m.trans h.m,Nat.le_trans h.le k.le,k.lim,fun e=>h.e (k.e e),fun e p hp=>(k.pre e p (Nat.lt_of_lt_of_le hp h.le)).trans (h.pre (k.e e) p hp)⟩
theorem Gk.wp {x y:GMk} {i:Nat} (h:Wp1 x y i) (hl:x.l.length ≤ 300) (hi:i < x.l.length):y.m=x.m∧y.l.length=x.l.length:=⟨h.1,h.2.1⟩

def NodeS (m:GMod) (rk:Int→Nat) (f:GMk→Int→Int→Option (Int × GMk)) (N:Nat):Prop :=
  ∀ (x:GMk) (k j h:Nat) (a d:Int),x.m=m→x.l.length ≤ 300→Sub h m.nodes k j→j ≤ m.nodes.length→Dn m a k j→rk a * 301 + (j - k) ≤ N→0 ≤ d→d ≤ 17 →
  T (fun r=>Gk x r.2∧(r.2.e=0→r.1=(x.l.length:Int)∧SubT (17 - d).toNat r.2.l x.l.length r.2.l.length∧∃ t,r.2.l[x.l.length]?=some t∧t.tags.length ≤ N + 1)) (f x (k:Int) d)
def MadeS (m:GMod) (rk:Int→Nat) (f:GMk→GNode→Int→Option (Int × GMk)) (N:Nat):Prop :=
  ∀ (x:GMk) (n:GNode) (k j h:Nat) (a d:Int),x.m=m→x.l.length ≤ 300→m.nodes[k]?=some n→n.kind ≠ 11→Sub h m.nodes k j→j ≤ m.nodes.length→Dn m a k j→rk a * 301 + (j - k) ≤ N→0 ≤ d→d ≤ 17 →
  T (fun r=>Gk x r.2∧(r.2.e=0→r.1=(x.l.length:Int)∧SubT (17 - d).toNat r.2.l x.l.length r.2.l.length∧∃ t,r.2.l[x.l.length]?=some t∧t.tags.length ≤ 1)) (f x n d)
def FieldsT (m:GMod) (rk:Int→Nat) (f:GMk→Int→GNode→Int→Option GMk) (N:Nat):Prop :=
  ∀ (x:GMk) (n:GNode) (k j h:Nat) (a d:Int) (l0:List GTyp) (t:GTyp),x.m=m→x.l=l0 ++ [t]→x.l.length ≤ 300→m.nodes[k]?=some n→Kids (Sub h m.nodes) (n.fields.map fun f=>f.ty) (k + 1) j→j ≤ m.nodes.length→Dn m a k j→rk a * 301 + (j - k) ≤ N→0 ≤ d→d ≤ 16 →
    (n.kind=7 ∨ n.kind=8 ∨ n.kind=9)→t.kind=n.kind→t.root=n.root →
  T (fun y=>y.m=m∧x.l.length ≤ y.l.length∧y.l.length ≤ 300∧(y.e=0→x.e=0∧(∀ p,p < l0.length→y.l[p]?=x.l[p]?)∧∃ fs,y.l[l0.length]?=some { t with fields:=fs }∧fs.length=n.fields.length∧Kids (SubT (16 - d).toNat y.l) (fs.map fun f=>f.ty) x.l.length y.l.length∧∀ f ∈ fs,DOk f.dflt)) (f x (l0.length:Int) n d)

theorem Kids.subs {h:Nat} {l:List GNode} {k:Int} {r:List Int} {a b:Nat} (hk:Kids (Sub h l) r a b) (hm:k ∈ r):∃ (c d:Nat),k=(c:Int)∧Sub h l c d∧a ≤ c∧d ≤ b:=Kids.mem3 (fun x y h=>Nat.le_of_lt h.lt) hk hm
theorem Dn.part {m:GMod} {a:Int} {k j c d:Nat} (h:Dn m a k j) (h1:k ≤ c) (h2:d ≤ j):Dn m a c d:=fun p n hp hq=>h p n (by omega) (by omega)

theorem zkL {m : GMod} {rk:Int→Nat} {Fs Nd Md} {N:Nat} (E:Env m rk) (hN:N ≤ 50000) (hnd:∀ N',N' + 1=N→NodeS m rk Nd N'):FieldsT m rk (zcz Fs Nd Md) N:=by
  intro x n k j h a d l0 t hm hxl hx3 hk hkid hj hdn hN2 hd0 hd hkind htk htr
  unfold zcz
  have hok:=E.wf.ok n (List.mem_of_getElem? hk)
  have hkl:=Kids.length hkid
  have hnl:=E.wf.nodes
  rw [List.length_map] at hkl
  have hxlen:x.l.length=l0.length + 1:=by rw [hxl,List.length_append,List.length_singleton]
  have hsub:∀ f ∈ n.fields,∃ c d:Nat,f.ty=(c:Int)∧Sub h m.nodes c d∧k + 1 ≤ c∧d ≤ j:=fun f hf=>by
    obtain ⟨c,d,h1,h2,h3,h4⟩:=Kids.subs hkid (List.mem_map.2 ⟨f,hf,rfl⟩)
    exact ⟨c,d,h1,h2,h3,h4⟩
  refine T.lp (ι:=Bool × Int) (fun q=>0 ≤ q.2∧q.2 ≤ n.fields.length) (fun q=>((n.fields.length:Int) - q.2).toNat) ⟨Int.le_refl _,by dsimp only;omega⟩ (by dsimp only;omega) fun L q ⟨q1,q2⟩ hL=>?_
  obtain ⟨mk,i⟩:=q
  dsimp only at q1 q2 hL ⊢
  refine T.br (fun hb=>?_) fun hb=>?_
  · have hb:=zOT hb
    refine T.get q1 hb fun f hf=>?_
    obtain ⟨c,dd,h1,h2,h3,h4⟩:=hsub f (List.mem_of_getElem? hf)
    have:=h2.lt
    refine T.jp (fun _=>True) (fun J kk=>T.br (fun _=>kk _ trivial) fun _=>T.get (by omega) (by rw [hm];omega) fun _ _=>kk _ trivial) fun b _=>T.ck (by omega) (hL _ ⟨by dsimp only;omega,by dsimp only;omega⟩ (by dsimp only;omega))
  refine T.jp (fun _=>True) (fun J kk=>T.br (fun _=>kk _ trivial) fun _=>kk _ trivial) fun b1 _=>T.jp (fun _=>True) (fun J kk=>T.br (fun _=>kk _ trivial) fun _=>kk _ trivial) fun b2 _=>?_
  refine T.jp (ι:=GMk) (fun y=>Sm x y) (fun J kk=>T.br (fun _=>T.eq (fail10 _ _) (kk _ (Sm.fl (by decide)))) fun _=>kk _ (Sm.refl x)) fun x1 hx1=>?_
  -- the fields, one behind the other
  have hD:(17 - (d + 1)).toNat=(16 - d).toNat:=by omega
  refine T.lp (ι:=List GFld × Int × GMk) (fun q=>0 ≤ q.2.1∧q.2.1 ≤ n.fields.length∧Gk x q.2.2∧(q.1.length:Int)=q.2.1∧(q.2.2.e=0→Kids (SubT (16 - d).toNat q.2.2.l) (q.1.map fun f=>f.ty) x.l.length q.2.2.l.length∧∀ f ∈ q.1,DOk f.dflt)) (fun q=>((n.fields.length:Int) - q.2.1).toNat)
    ⟨Int.le_refl _,by dsimp only;omega,Gk.sm hx1 hx3,rfl,fun _=>⟨by dsimp only;rw [hx1.l];rfl,by simp⟩⟩ (by dsimp only;omega) fun L2 q ⟨p1,p2,p3,p4,p5⟩ hL2=>?_
  obtain ⟨out,i2,y⟩:=q
  dsimp only at p1 p2 p3 p4 p5 hL2 ⊢
  refine T.jp (fun b=>(b=true→i2 < n.fields.length)∧(b=false→y.e=0→¬ i2 < n.fields.length)) (fun J kk=>T.br (fun h1=>kk _ ⟨fun _=>zOT h1,fun h2 h3=>absurd h3 (zOF h2)⟩) fun h1=>kk _ ⟨(fun h=>by cases h),fun _ _=>zOF h1⟩) fun b hb2=>T.br (fun hb3=>?_) fun hb3=>?_
  · have hb3 := hb2.1 hb3
    refine T.get p1 hb3 fun f hf=>?_
    obtain ⟨c,dd,h1,h2,h3,h4⟩:=hsub f (List.mem_of_getElem? hf)
    have hclt:=h2.lt
    have hN1:N - 1 + 1 < 100000:=by omega
    have hA:∀ p:GFld,(out ++ [p]).length ≤ 100000∧((out ++ [p]).length:Int)=i2 + 1:=fun p=>by rw [List.length_append,List.length_singleton];omega
    have hA2:0 ≤ i2 + 1∧i2 + 1 ≤ (n.fields.length:Int)∧i2 + 1 ≤ 100000:=by omega
    have hA4:-9223372036854775808 ≤ i2 + 1∧i2 + 1 ≤ 9223372036854775807:=by omega
    have hA3:((n.fields.length:Int) - (i2 + 1)).toNat < ((n.fields.length:Int) - i2).toNat:=by omega
    have hfd:DOk f.dflt:=hok.dflt f (List.mem_of_getElem? hf)
    refine T.lp (ι:=Int × GMk) (fun p=>0 ≤ p.1∧p.1 ≤ i2∧Sm y p.2) (fun p=>(i2 - p.1).toNat) ⟨Int.le_refl _,p1,Sm.refl y⟩ (by dsimp only;omega) fun L3 p ⟨s1,s2,s3⟩ hL3=>?_
    obtain ⟨i3,y2⟩:=p
    dsimp only at s1 s2 s3 hL3 ⊢
    refine T.br (fun hb4=>?_) fun hb4=>?_
    · have hb4:=zOT hb4
      refine T.jp (ι:=GMk) (fun z=>Sm y z) (fun J kk=>T.get s1 (by omega) fun g _=>T.br (fun _=>T.eq (fail10 _ _) (kk _ (s3.trans (Sm.fl (by decide))))) fun _=>kk _ s3) fun z hz=>T.ck (by omega) (hL3 _ ⟨by dsimp only;omega,by dsimp only;omega,hz⟩ (by dsimp only;omega))
    refine T.ck (by omega) ?_
    rw [h1]
    have hy2l:y2.l.length=y.l.length:=by rw [s3.l]
    have hlim:=p3.lim
    refine T.cal (hnd (N - 1) (by omega) y2 c dd h a (d + 1) (s3.m.trans (p3.m.trans hm)) (by omega) h2 (by omega) (hdn.part (by omega) h4) (by omega) (by omega) (by omega)) fun r _ ⟨r1,r2⟩=>?_
    have g1:Gk x r.2:=p3.trans ((Gk.sm s3 hlim).trans r1)
    refine T.jp (fun b=>b=true→r.2.e=0) (fun J kk=>T.br (fun h5=>kk _ fun _=>zOT h5) fun _=>kk _ fun h=>by cases h) fun b5 hb5=>?_
    -- the default
    refine T.jp (ι:=GFld × GMk) (fun p=>Sm r.2 p.2∧p.1.ty=r.1∧DOk p.1.dflt) (fun J kk=>T.br (fun h6=>?_) fun _=>kk _ ⟨Sm.refl _,rfl,hfd⟩) fun p ⟨u1,u2,u3⟩=>?_
    · have h6:=hb5 h6
      obtain ⟨e1,e2,t1,e3,e4⟩:=r2 h6
      rw [e1]
      have hto:TypOk t1:=by
        have:0 < (17 - (d + 1)).toNat:=by
          rcases Nat.eq_zero_or_pos (17 - (d + 1)).toNat with h | h
          · rw [h] at e2;exact e2.elim
          · exact h
        obtain ⟨D',hD'⟩:∃ D',(17 - (d + 1)).toNat=D' + 1:=⟨_,(Nat.succ_pred_eq_of_pos this).symm⟩
        rw [hD'] at e2
        obtain ⟨t2,k1,k2,_⟩:=e2
        rw [e3] at k1;cases k1;exact k2
      exact T.cal (zmA f.dflt e3 hfd hto.root0 hto.rootI hto.ilen) fun s _ hs=>kk _ ⟨hs.1,e1.symm,hs.2⟩
    refine T.jp (fun b=>b=true→p.2.e=0) (fun J kk=>T.br (fun h5=>kk _ fun _=>zOT h5) fun _=>kk _ fun h=>by cases h) fun b6 hb6=>?_
    -- a tag of its own
    have hfin : ∀ z:GMk,z.m=r.2.m→z.l.length=r.2.l.length→(z.e=0→r.2.e=0∧((z.l=r.2.l) ∨ ∃ t1 tg,r.2.l[y2.l.length]?=some t1∧z.l=r.2.l.set y2.l.length { t1 with tags:=tg }∧tg ≠ []∧tg.length ≤ t1.tags.length + 1)) →
        Gk x z∧(z.e=0→Kids (SubT (16 - d).toNat z.l) ((out ++ [p.1]).map fun f=>f.ty) x.l.length z.l.length∧∀ f ∈ out ++ [p.1],DOk f.dflt):=by
      intro z z1 z2 z3
      have hpre:z.e=0→∀ q,q < y2.l.length→z.l[q]?=r.2.l[q]?:=fun ez q hq=>by
        rcases (z3 ez).2 with h | ⟨t1,tg,_,h,_⟩
        · rw [h]
        · rw [h,List.getElem?_set_ne (by omega)]
      refine ⟨⟨z1.trans g1.m,by rw [z2];exact g1.le,by rw [z2];exact g1.lim,fun ez=>g1.e (z3 ez).1,fun ez q hq=>?_⟩,fun ez=>?_⟩
      · have:=p3.le
        rw [hpre ez q (by omega)]
        exact g1.pre (z3 ez).1 q hq
      · have er := (z3 ez).1
        obtain ⟨e1,e2,t1,e3,e4⟩:=r2 er
        have ey:y.e=0:=s3.e (r1.e er)
        obtain ⟨k1,k2⟩:=p5 ey
        rw [hD] at e2
        have e2z:SubT (16 - d).toNat z.l y2.l.length z.l.length:=by
          rw [z2]
          rcases (z3 ez).2 with h | ⟨t2,tg,k3,h,k4,k5⟩
          · rw [h];exact e2
          · rw [h]
            rw [e3] at k3;cases k3
            have hto:TypOk t1:=by
              cases hDz:(16 - d).toNat with
              | zero=>rw [hDz] at e2;exact e2.elim
              | succ D' =>
                rw [hDz] at e2
                obtain ⟨t3,k6,k7,_⟩:=e2
                rw [e3] at k6;cases k6;exact k7
            exact e2.set e3 (hto.tag k4 (Nat.le_trans k5 (Nat.succ_le_of_lt (Nat.lt_of_le_of_lt e4 hN1)))) rfl
        rw [hy2l] at e2z
        refine ⟨?_,fun f' hf'=>?_⟩
        · rw [List.map_append,List.map_singleton,u2,e1,hy2l]
          refine Kids.snoc (KidsT.monoL (fun q hq1 hq2=>?_) k1) e2z
          rw [hpre ez q (by omega),r1.pre er q (by omega),s3.l]
        · rcases List.mem_append.1 hf' with h | h
          · exact k2 f' h
          · rw [List.mem_singleton.1 h];exact u3
    refine T.jp (ι:=GMk) (fun z=>Gk x z∧(z.e=0→Kids (SubT (16 - d).toNat z.l) ((out ++ [p.1]).map fun f=>f.ty) x.l.length z.l.length∧∀ f ∈ out ++ [p.1],DOk f.dflt)) (fun J kk=>T.br (fun h6=>?_) fun _=>kk _ (hfin p.2 u1.m (by rw [u1.l]) fun ez=>⟨u1.e ez,.inl u1.l⟩)) fun z ⟨v1,v2⟩=>?_
    · have h6:=hb6 h6
      have er:=u1.e h6
      obtain ⟨e1,e2,t1,e3,e4⟩:=r2 er
      have hlt:=(List.getElem?_eq_some_iff.1 e3).1
      rw [u2,e1]
      refine T.cal (zmY (x:=p.2) (i:=y2.l.length) (by rw [u1.l];exact hlt)) fun s _ hs=>?_
      rw [hs]
      refine T.cal (zmJ (t:=t1) _ _ (fun _=>⟨by rw [u1.l];exact e3,by omega⟩)) fun z _ ⟨w1,w2,w3⟩=>kk _ (hfin z (w1.trans u1.m) (by rw [w2,u1.l]) fun ez=>⟨er,?_⟩)
      obtain ⟨tg,k1,k2,k3⟩:=(w3 ez).2 t1 (by rw [u1.l];exact e3)
      exact .inr ⟨t1,tg,e3,by rw [k1,u1.l],k2,k3⟩
    · exact T.abl (by have:=(hA p.1).1;rw [List.length_append] at this;exact Nat.le_trans this (by decide)) (T.ck hA4 (hL2 _ ⟨hA2.1,hA2.2.1,v1,(hA _).2,v2⟩ hA3))
  · -- all are there
    refine T.br (fun he=>?_) fun he=>T.some ⟨p3.m.trans hm,p3.le,p3.lim,fun h=>absurd h (zOF he)⟩
    have he:=zOT he
    have hfin:=hb2.2 hb3 he
    obtain ⟨k1,k2⟩:=p5 he
    have hti:((l0.length:Nat):Int).toNat=l0.length:=Int.toNat_natCast _
    have hle:=p3.le
    have hlim:=p3.lim
    have hget:y.l[l0.length]?=some t:=by
      rw [p3.pre he l0.length (by omega),hxl,List.getElem?_append_right (Nat.le_refl _),Nat.sub_self];rfl
    have hget2:(y.l.set l0.length { t with fields:=out })[l0.length]?=some { t with fields:=out }:=List.getElem?_set_self (by omega)
    have hmono:∀ q,l0.length + 1 ≤ q→(y.l.set l0.length { t with fields:=out })[q]?=y.l[q]?:=fun q hq=>List.getElem?_set_ne (by omega)
    have hkids:Kids (SubT (16 - d).toNat (y.l.set l0.length { t with fields:=out })) (out.map fun f=>f.ty) x.l.length y.l.length:=KidsT.monoL (fun q hq1 hq2=>hmono q (by omega)) k1
    refine T.asd ⟨by omega,by omega⟩ ?_
    rw [hti]
    refine T.eq hget (T.asd ⟨by omega,by rw [List.length_set];omega⟩ (T.eq hget2 ?_))
    have hpost:∀ z:GMk,Sm (GMk.mk y.m (y.l.set l0.length { t with fields:=out }) y.e) z→(z.m=m∧x.l.length ≤ z.l.length∧z.l.length ≤ 300∧(z.e=0→x.e=0∧(∀ p,p < l0.length→z.l[p]?=x.l[p]?)∧∃ fs,z.l[l0.length]?=some { t with fields:=fs }∧fs.length=n.fields.length∧Kids (SubT (16 - d).toNat z.l) (fs.map fun f=>f.ty) x.l.length z.l.length∧∀ f ∈ fs,DOk f.dflt)):=by
      intro z hz
      have zl:=hz.l
      dsimp only at zl
      refine ⟨hz.m.trans (p3.m.trans hm),by rw [zl,List.length_set];exact hle,by rw [zl,List.length_set];exact hlim,fun ez=>⟨p3.e (hz.e ez),fun q hq=>?_,out,by rw [zl];exact hget2,by omega,by rw [zl,List.length_set];exact hkids,k2⟩⟩
      rw [zl,List.getElem?_set_ne (by omega)]
      exact p3.pre he q (by omega)
    refine T.cal (zrA (h:=(16 - d).toNat) (a:=x.l.length) (b:=y.l.length) (x:=GMk.mk y.m (y.l.set l0.length { t with fields:=out }) y.e) (t:={ t with fields:=out }) hkids (by omega) (by dsimp only;rw [List.length_set];omega) (by dsimp only;rw [List.length_set];exact Nat.le_refl _) (by dsimp only;rw [htr];exact hok.root0) (fun h7=>by dsimp only;rw [htr];have:=hok.fields (by omega);omega)) fun r _ hr=>?_
    rw [hr]
    exact T.br (fun _=>T.eq (fail10 _ _) (T.some (hpost _ (Sm.fl (by decide))))) fun _=>T.some (hpost _ (Sm.refl _))
end Go.Proofs.Q


namespace Go.Proofs.Q
open Go.Sy
set_option linter.unusedVariables false

theorem zsZ {U V N p q c:Nat} (h:U + (c + 1) ≤ V) (h2:V + p ≤ N) (hp:0 < p) (hq:q ≤ c):U + q ≤ N - 1:=by omega
theorem zsX (c:Nat) {u v N p q:Nat} (h:u < v) (h2:v * (c + 1) + p ≤ N) (hp:0 < p) (hq:q ≤ c):u * (c + 1) + q ≤ N - 1:=by
  have h3:=Nat.mul_le_mul_right (c + 1) (Nat.succ_le_of_lt h)
  rw [Nat.succ_mul] at h3
  exact zsZ h3 h2 hp hq
theorem ztw {u v N p q:Nat} (h:u < v) (h2:v * 301 + p ≤ N) (hp:0 < p) (hq:q ≤ 300):u * 301 + q ≤ N - 1:=zsX 300 h h2 hp hq
theorem zmZ {m:GMod} {rk:Int→Nat} {Fs Nd Md} {N:Nat} (E:Env m rk) (hN:N ≤ 50000) (hnd:∀ N',N' + 1=N→NodeS m rk Nd N') (hmd:MadeS m rk Md N):NodeS m rk (zc6 Fs Nd Md) N:=by
  intro x k j h a d hm hx3 hs hj hdn hN2 hd0 hd
  unfold zc6
  have hlt:=hs.lt
  obtain ⟨n,hn⟩:∃ n,m.nodes[k]?=some n:=⟨_,List.getElem?_eq_getElem (by omega)⟩
  refine T.br (fun hb=>T.some ⟨Gk.refl hx3,fun e=>absurd e (by simpa using hb)⟩) fun hb=>?_
  refine T.get (Int.natCast_nonneg _) (by rw [hm];omega) fun n' hn'=>?_
  rw [hm,Int.toNat_natCast,hn] at hn'
  cases hn'
  have hN0:1 ≤ N:=by omega
  refine T.jp (ι:=Int × GMk) (fun r=>Gk x r.2∧(r.2.e=0→r.1=(x.l.length:Int)∧SubT (17 - d).toNat r.2.l x.l.length r.2.l.length∧∃ t,r.2.l[x.l.length]?=some t∧t.tags.length ≤ N)) (fun J kk=>T.br (fun hk=>?_) fun hk=>?_) fun q ⟨q1,q2⟩=>?_
  · have hk:=zOT hk
    obtain ⟨f0,f1⟩:=hdn k n (Nat.le_refl _) hlt hn hk
    have hf2:fnd m.names n.name < m.names.length:=by
      rcases zi3 m.names n.name with h | h
      · omega
      · exact h.2.1
    obtain ⟨c,dd,c1,c2,c3,c4⟩:=E.root _ f0 (by omega)
    have hrk:=E.ed _ _ f1
    have hwn:=E.wf.nodes
    have hc:=c2.lt
    have hNN:rk (fnd m.names n.name) * 301 + (dd - c) ≤ N - 1:=ztw hrk hN2 (Nat.sub_pos_of_lt hlt) (Nat.le_trans (Nat.sub_le _ _) (Nat.le_trans c3 hwn))
    refine T.eq (zpf x.m n.name (by rw [hm];have:=E.wf.names;omega)) (T.get (by rw [hm];exact f0) (by rw [hm,E.wf.types];omega) fun y hy=>?_)
    rw [hm,c1] at hy
    cases hy
    exact T.cal (hnd (N - 1) (by omega) x c dd 17 _ d hm hx3 c2 c3 c4 hNN hd0 hd) fun r _ ⟨r1,r2⟩=>kk _ ⟨r1,fun e=>by
      obtain ⟨e1,e2,t,e3,e4⟩:=r2 e
      exact ⟨e1,e2,t,e3,Nat.le_trans e4 (by rw [Nat.sub_add_cancel hN0];exact Nat.le_refl _)⟩⟩
  · have hk:=zOF hk
    exact T.cal (hmd x n k j h a d hm hx3 hn hk hs hj hdn hN2 hd0 hd) fun r _ ⟨r1,r2⟩=>kk _ ⟨r1,fun e=>by
      obtain ⟨e1,e2,t,e3,e4⟩:=r2 e
      exact ⟨e1,e2,t,e3,Nat.le_trans e4 hN0⟩⟩
  have hNb:N < 100000:=by omega
  refine T.jp (fun b=>b=true→q.2.e=0) (fun J kk=>T.br (fun h5=>kk _ fun _=>zOT h5) fun _=>kk _ fun h=>by cases h) fun b hb3=>?_
  refine T.jp (ι:=GMk) (fun z=>Gk x z∧(z.e=0→q.1=(x.l.length:Int)∧SubT (17 - d).toNat z.l x.l.length z.l.length∧∃ t,z.l[x.l.length]?=some t∧t.tags.length ≤ N + 1)) (fun J kk=>T.br (fun h6=>?_) fun _=>kk _ ⟨q1,fun e=>?_⟩) fun z ⟨z1,z2⟩=>T.some ⟨z1,z2⟩
  · have h6:=hb3 h6
    obtain ⟨e1,e2,t,e3,e4⟩:=q2 h6
    have hl1:=(List.getElem?_eq_some_iff.1 e3).1
    have hto:TypOk t:=by
      cases hD:(17 - d).toNat with
      | zero=>rw [hD] at e2;exact e2.elim
      | succ D' =>
        rw [hD] at e2
        obtain ⟨t3,k6,k7,_⟩:=e2
        rw [e3] at k6;cases k6;exact k7
    refine T.jp (ι:=Int × GMk) (fun p=>p.2=q.2) (fun J2 k2=>T.br (fun _=>k2 _ rfl) fun _=>T.jp (fun _=>True) (fun J3 k3=>T.br (fun _=>k3 _ trivial) fun _=>k3 _ trivial) fun b4 _=>T.br (fun _=>?_) fun _=>k2 _ rfl) fun p hp=>?_
    · rw [e1]
      exact T.cal (zmY hl1) fun s _ hs=>k2 _ hs
    · rw [hp,e1]
      refine T.cal (zmJ (t:=t) _ _ (fun _=>⟨e3,Nat.le_of_lt (Nat.lt_of_le_of_lt e4 hNb)⟩)) fun z _ ⟨w1,w2,w3⟩=>kk _ ⟨⟨w1.trans q1.m,by rw [w2];exact q1.le,by rw [w2];exact q1.lim,fun ez=>q1.e (w3 ez).1,fun ez p hp=>?_⟩,fun ez=>?_⟩
      · obtain ⟨tg,k1,k2,k3⟩:=(w3 ez).2 t e3
        rw [k1,List.getElem?_set_ne (Nat.ne_of_gt hp)]
        exact q1.pre h6 p hp
      · obtain ⟨tg,k1,k2,k3⟩:=(w3 ez).2 t e3
        rw [w2,k1]
        exact ⟨e1,e2.set e3 (hto.tag k2 (Nat.le_trans k3 (Nat.succ_le_of_lt (Nat.lt_of_le_of_lt e4 hNb)))) rfl,_,List.getElem?_set_self hl1,Nat.le_trans k3 (Nat.succ_le_succ e4)⟩
  · obtain ⟨e1,e2,t,e3,e4⟩:=q2 e
    exact ⟨e1,e2,t,e3,Nat.le_succ_of_le e4⟩
structure New (n:GNode) (t:GTyp):Prop where
  kind:t.kind=n.kind
  root:t.root=n.root
  items:t.items=[]
  fields:t.fields=[]
  tags:t.kind ≠ 9→t.tags ≠ []
  tlen:t.tags.length ≤ 1
theorem New.ok {n:GNode} {t:GTyp} (h:New n t) (hn:NodeOk n) (h3:n.kind ≠ 3) (h7:n.kind ≠ 7) (h8:n.kind ≠ 8) (h9:n.kind ≠ 9) (o:Int):TypOk { t with of:=o }:=by
  have hk:=h.kind
  exact ⟨h.tags,by have:=h.tlen;show t.tags.length ≤ _;omega,by rw [h.root];exact hn.root0,fun e=>by rcases e with e | e | e <;> (rw [hk] at e;contradiction),fun e=>by rw [hk] at e;contradiction,fun _=>h.fields,fun _=>h.items,by show t.items.length ≤ _;rw [h.items];decide,fun it hit=>(by dsimp only at hit;rw [h.items] at hit;cases hit),fun f hf=>(by dsimp only at hf;rw [h.fields] at hf;cases hf),fun _ _=>(by dsimp only;rw [h.root];exact hn.rootZ h3 (by omega))⟩
theorem zkF {α:Type} (l:List α) (t:α):(l ++ [t])[l.length]?=some t:=by rw [List.getElem?_append_right (Nat.le_refl _),Nat.sub_self];rfl
theorem znb {m:GMod} {rk:Int→Nat} {Fs Nd Md} {N:Nat} (E:Env m rk) (hN:N ≤ 50000) (hnd:∀ N',N' + 1=N→NodeS m rk Nd N') (hfs:FieldsT m rk Fs N):MadeS m rk (zdc Fs Nd Md) N:=by
  intro x n k j h a d hm hx3 hn hk11 hs hj hdn hN2 hd0 hd
  unfold zdc
  have hlt:=hs.lt
  have hok:=E.wf.ok n (List.mem_of_getElem? hn)
  obtain ⟨h',rfl,hkid⟩:∃ h',h=h' + 1∧Kids (Sub h' m.nodes) (kidsOf n) (k + 1) j:=by
    cases h with
    | zero=>exact hs.elim
    | succ h' =>
      obtain ⟨n',e1,e2⟩:=hs
      rw [hn] at e1;cases e1
      exact ⟨h',rfl,e2⟩
  refine T.jp (fun b=>b=false→d ≤ 16∧x.l.length < 300) (fun J kk=>T.br (fun _=>kk _ fun h=>by cases h) fun h1=>kk _ fun h2=>?_) fun b hb=>T.br (fun _=>T.eq (fail10 _ _) (T.some ⟨Gk.sm (Sm.fl (by decide)) hx3,fun e=>absurd e (ztq (by decide))⟩)) fun hb1=>?_
  · have h1:=zOF h1
    have h2:=zOF h2
    omega
  obtain ⟨hd16,hx300⟩:=hb hb1
  obtain ⟨D,hD,hD2⟩:∃ D,(17 - d).toNat=D + 1∧(16 - d).toNat=D:=⟨(16 - d).toNat,by omega,rfl⟩
  refine T.jp (ι:=GTyp) (fun t=>New n t) (fun J kk=>T.br (fun _=>T.cal (zsN _) fun u _ _=>kk _ ⟨rfl,rfl,rfl,rfl,fun _=>by simp,by simp⟩) fun h9=>kk _ ⟨rfl,rfl,rfl,rfl,fun h=>absurd (by simpa using h9) h,by simp⟩) fun t ht=>?_
  refine T.jp (ι:=GMk) (fun y=>y=GMk.mk x.m (x.l ++ [t]) x.e) (fun J kk=>T.abl (by rw [List.length_singleton];omega) (kk _ rfl)) fun y hy=>?_
  subst hy
  have hxl1:(x.l ++ [t]).length=x.l.length + 1:=by rw [List.length_append,List.length_singleton]
  have hkind:=ht.kind
  have g0:∀ y:GMk,Sm (GMk.mk x.m (x.l ++ [t]) x.e) y→Gk x y:=fun y hy=>⟨hy.m,by rw [hy.l];dsimp only;omega,by rw [hy.l];dsimp only;omega,hy.e,fun _ q hq=>by rw [hy.l];exact List.getElem?_append_left hq⟩
  have hti:((x.l.length:Nat):Int).toNat=x.l.length:=Int.toNat_natCast _
  have hleaf:n.kind ≠ 3→n.kind ≠ 7→n.kind ≠ 8→n.kind ≠ 9→n.kind ≠ 10→∀ y:GMk,Sm (GMk.mk x.m (x.l ++ [t]) x.e) y→(y.e=0→SubT (17 - d).toNat y.l x.l.length y.l.length∧∃ t,y.l[x.l.length]?=some t∧t.tags.length ≤ 1):=fun h3 h7 h8 h9 h10 y hy _=>by
    have hl:=hy.l
    dsimp only at hl
    rw [hl,hD,hxl1]
    refine ⟨⟨t,zkF _ _,ht.ok hok h3 h7 h8 h9 t.of,?_⟩,t,zkF _ _,ht.tlen⟩
    unfold kidsT
    rw [ht.fields,if_neg (by rw [hkind];exact h10)]
    rfl
  refine T.jp (ι:=GMk) (fun y=>Gk x y∧(y.e=0→SubT (17 - d).toNat y.l x.l.length y.l.length∧∃ t,y.l[x.l.length]?=some t∧t.tags.length ≤ 1)) (fun J kk=>?_) fun y ⟨y1,y2⟩=>T.some ⟨y1,fun e=>⟨rfl,y2 e⟩⟩
  refine T.jp (fun b=>b=decide (n.kind=2 ∨ n.kind=5 ∨ n.kind=6 ∨ n.kind=10)) (fun J1 k1=>T.br (fun h1=>k1 _ ?_) fun h1=>T.br (fun h2=>k1 _ ?_) fun h2=>T.br (fun h3=>k1 _ ?_) fun h3=>k1 _ ?_) fun b hb=>?_
  · have h1:=zOT h1
    rw [zDT h1,zDT (.inl h1)]
  · have h2:=zOT h2
    rw [zDT h2,zDT (.inr (.inl h2))]
  · have h3:=zOT h3
    rw [zDT h3,zDT (.inr (.inr (.inl h3)))]
  · have h1:=zOF h1
    have h2:=zOF h2
    have h3:=zOF h3
    rw [decide_eq_decide];omega
  subst hb
  refine T.br (fun hb=>?_) fun hb=>?_
  · -- a leaf with bounds, or a list
    have hb:=zOT hb
    refine T.cal (zr5 _ _) fun ce _ _=>T.jp (ι:=GMk) (fun y=>Sm (GMk.mk x.m (x.l ++ [t]) x.e) y) (fun J1 k1=>T.br (fun hc=>T.eq (fail10 _ _) (k1 _ (Sm.fl (by simpa using hc)))) fun _=>k1 _ (Sm.refl _)) fun y hy=>T.br (fun h10=>?_) fun h10=>kk _ ⟨g0 y hy,hleaf (by omega) (by omega) (by omega) (by omega) (zOF h10) y hy⟩
    have h10:=zOT h10
    have hko:kidsOf n=n.fields.map (fun f=>f.ty) ++ [n.of]:=by unfold kidsOf;rw [if_neg hk11,if_pos h10]
    obtain ⟨c,dd,c1,c2,c3,c4⟩:=Kids.subs hkid (k:=n.of) (by rw [hko];simp)
    have hc:=c2.lt
    have hyl:=hy.l
    dsimp only at hyl
    refine T.ck (by omega) ?_
    rw [c1]
    refine T.cal (hnd (N - 1) (by omega) y c dd h' a (d + 1) (hy.m.trans hm) (by rw [hyl];omega) c2 (by omega) (hdn.part (by omega) c4) (by omega) (by omega) (by omega)) fun r _ ⟨r1,r2⟩=>?_
    have g1:Gk x r.2:=(g0 y hy).trans r1
    refine T.br (fun he=>?_) fun he=>kk _ ⟨g1,fun e=>absurd e (zOF he)⟩
    have he:=zOT he
    have hpre:=r1.pre he x.l.length (by rw [hyl];omega)
    rw [hyl,zkF] at hpre
    have hl1:=(List.getElem?_eq_some_iff.1 hpre).1
    have hr:=r2 he
    clear r2
    obtain ⟨e1,e2,_⟩:=hr
    refine T.asd ⟨by omega,by omega⟩ ?_
    rw [hti]
    refine T.eq hpre (kk _ ⟨⟨g1.m,by rw [List.length_set];exact g1.le,by rw [List.length_set];exact g1.lim,g1.e,fun e q hq=>by dsimp only;rw [List.getElem?_set_ne (by omega)];exact g1.pre he q hq⟩,fun _=>?_⟩)
    dsimp only
    rw [hD,List.length_set]
    refine ⟨⟨_,List.getElem?_set_self hl1,ht.ok hok (by omega) (by omega) (by omega) (by omega) r.1,?_⟩,_,List.getElem?_set_self hl1,ht.tlen⟩
    unfold kidsT
    dsimp only
    rw [ht.fields,if_pos (by rw [hkind];exact h10)]
    have hD3:(17 - (d + 1)).toNat=D:=by omega
    rw [hD3,hyl,hxl1] at e2
    rw [e1,hyl,hxl1]
    exact ⟨_,rfl,SubT.mono (fun q hq _=>List.getElem?_set_ne (by omega)) e2,rfl⟩
  have hb:=zOF hb
  refine T.br (fun h3=>?_) fun h3=>?_
  · -- an enumerated type
    have h3:=zOT h3
    refine T.cal (zoX (GMk.mk x.m (x.l ++ [t]) x.e) n hok (hok.items h3)) fun r _ ⟨r1,r2,r3⟩=>?_
    dsimp only at r1 r2 r3 ⊢
    refine T.asd (by rw [r2]) (T.asd ⟨by omega,by omega⟩ ?_)
    rw [hti]
    have hget:r.2.l[x.l.length]?=some t:=by rw [r2];exact zkF _ _
    have hrl:r.2.l.length=x.l.length + 1:=by rw [r2];exact hxl1
    refine T.eq hget (kk _ ⟨⟨r1,by dsimp only;rw [List.length_set];omega,by dsimp only;rw [List.length_set];omega,fun e=>(r3 e).1,fun e q hq=>by dsimp only;rw [List.getElem?_set_ne (by omega),r2];exact List.getElem?_append_left hq⟩,fun e=>?_⟩)
    obtain ⟨e1,e2,e3⟩:=r3 e
    have hil:=hok.ilen
    dsimp only
    rw [hD,List.length_set]
    refine ⟨⟨_,List.getElem?_set_self (by omega),⟨ht.tags,by have:=ht.tlen;dsimp only;omega,by dsimp only;rw [ht.root];exact hok.root0,fun e=>by dsimp only at e;rw [hkind] at e;omega,fun _=>by dsimp only;rw [ht.root,e2];exact hok.items h3,fun _=>ht.fields,fun e=>by dsimp only at e;rw [hkind] at e;contradiction,by dsimp only;rw [e2];exact hil,e3,fun f hf=>(by dsimp only at hf;rw [ht.fields] at hf;cases hf),fun e=>absurd (by dsimp only;rw [hkind];exact h3) e⟩,?_⟩,_,List.getElem?_set_self (by omega),ht.tlen⟩
    unfold kidsT
    dsimp only
    rw [ht.fields,if_neg (by rw [hkind];omega),hrl]
    rfl
  have h3:=zOF h3
  refine T.jp (fun b=>b=decide (n.kind=7 ∨ n.kind=8 ∨ n.kind=9)) (fun J1 k1=>T.br (fun h1=>k1 _ ?_) fun h1=>T.br (fun h2=>k1 _ ?_) fun h2=>k1 _ ?_) fun b hb2=>?_
  · have h1:=zOT h1
    rw [zDT h1,zDT (.inl h1)]
  · have h2:=zOT h2
    rw [zDT h2,zDT (.inr (.inl h2))]
  · have h1:=zOF h1
    have h2:=zOF h2
    rw [decide_eq_decide];omega
  subst hb2
  refine T.br (fun hb2=>?_) fun hb2=>kk _ ⟨g0 _ (Sm.refl _),?_⟩
  · -- fields
    have hb2:=zOT hb2
    have hko:kidsOf n=n.fields.map (fun f=>f.ty):=by unfold kidsOf;rw [if_neg hk11,if_neg (by omega),List.append_nil]
    rw [hko] at hkid
    refine T.cal (hfs (GMk.mk x.m (x.l ++ [t]) x.e) n k j h' a d x.l t hm rfl (by dsimp only;omega) hn hkid hj hdn hN2 hd0 hd16 hb2 hkind ht.root) fun y _ ⟨y1,y2,y3,y4⟩=>kk _ ⟨⟨y1.trans hm.symm,by dsimp only at y2;omega,y3,fun e=>(y4 e).1,fun e q hq=>?_⟩,fun e=>?_⟩
    · rw [(y4 e).2.1 q hq];exact List.getElem?_append_left hq
    obtain ⟨e1,e2,fs,e3,e4,e5,e6⟩:=y4 e
    dsimp only at e5
    rw [hD]
    refine ⟨⟨_,e3,⟨ht.tags,by have:=ht.tlen;dsimp only;omega,by dsimp only;rw [ht.root];exact hok.root0,fun _=>by dsimp only;rw [ht.root,e4];exact hok.fields hb2,fun e=>by dsimp only at e;rw [hkind] at e;contradiction,fun e=>absurd (by dsimp only;rw [hkind];exact hb2) e,fun _=>ht.items,by dsimp only;rw [ht.items];decide,fun it hit=>(by dsimp only at hit;rw [ht.items] at hit;cases hit),e6,fun _ e=>absurd (by dsimp only;rw [hkind];exact hb2) e⟩,?_⟩,_,e3,ht.tlen⟩
    unfold kidsT
    dsimp only
    rw [if_neg (by rw [hkind];omega),List.append_nil]
    rw [hD2,hxl1] at e5
    exact e5
  · have hb2:=zOF hb2
    exact hleaf h3 (by omega) (by omega) (by omega) (by omega) _ (Sm.refl _)
theorem zr1 {m:GMod} {rk:Int→Nat} (E:Env m rk):∀ N,N ≤ 30000 →
    (∀ n,3 * N + 1 ≤ n→FieldsT m rk (zef n) N)∧(∀ n,3 * N + 2 ≤ n→MadeS m rk (zfx n) N)∧(∀ n,3 * N + 3 ≤ n→NodeS m rk (ze7 n) N):=by
  intro N
  induction N with
  | zero =>
    intro _
    have hf:∀ n,1 ≤ n→FieldsT m rk (zef n) 0:=fun n hn=>by
      obtain ⟨n,rfl⟩:∃ n',n=n' + 1:=⟨n - 1,by omega⟩
      exact zkL (Fs:=(zZ n).1) (Nd:=(zZ n).2.1) (Md:=(zZ n).2.2) E (by omega) fun N' h=>by omega
    have hm:∀ n,2 ≤ n→MadeS m rk (zfx n) 0:=fun n hn=>by
      obtain ⟨n,rfl⟩:∃ n',n=n' + 1:=⟨n - 1,by omega⟩
      exact znb (Fs:=(zZ n).1) (Nd:=(zZ n).2.1) (Md:=(zZ n).2.2) E (by omega) (fun N' h=>by omega) (hf n (by omega))
    refine ⟨fun n hn=>hf n (by omega),fun n hn=>hm n (by omega),fun n hn=>?_⟩
    obtain ⟨n,rfl⟩:∃ n',n=n' + 1:=⟨n - 1,by omega⟩
    exact zmZ (Fs:=(zZ n).1) (Nd:=(zZ n).2.1) (Md:=(zZ n).2.2) E (by omega) (fun N' h=>by omega) (hm n (by omega))
  | succ N ih =>
    intro hN
    obtain ⟨_,_,ihn⟩:=ih (by omega)
    have hf:∀ n,3 * (N + 1) + 1 ≤ n→FieldsT m rk (zef n) (N + 1):=fun n hn=>by
      obtain ⟨n,rfl⟩:∃ n',n=n' + 1:=⟨n - 1,by omega⟩
      exact zkL (Fs:=(zZ n).1) (Nd:=(zZ n).2.1) (Md:=(zZ n).2.2) E (by omega) fun N' h=>by
        have:N'=N:=by omega
        subst this;exact ihn n (by omega)
    have hm:∀ n,3 * (N + 1) + 2 ≤ n→MadeS m rk (zfx n) (N + 1):=fun n hn=>by
      obtain ⟨n,rfl⟩:∃ n',n=n' + 1:=⟨n - 1,by omega⟩
      exact znb (Fs:=(zZ n).1) (Nd:=(zZ n).2.1) (Md:=(zZ n).2.2) E (by omega) (fun N' h=>by
        have:N'=N:=by omega
        subst this;exact ihn n (by omega)) (hf n (by omega))
    refine ⟨hf,hm,fun n hn=>?_⟩
    obtain ⟨n,rfl⟩:∃ n',n=n' + 1:=⟨n - 1,by omega⟩
    exact zmZ (Fs:=(zZ n).1) (Nd:=(zZ n).2.1) (Md:=(zZ n).2.2) E (by omega) (fun N' h=>by
        have:N'=N:=by omega
        subst this;exact ihn n (by omega)) (hm n (by omega))
end Go.Proofs.Q


namespace Go.Proofs.Q
open Go.Sy
set_option linter.unusedVariables false

theorem Kids.find {S:Nat→Nat→Prop} {p:Nat}:∀ {r:List Int} {a b:Nat},Kids S r a b→a ≤ p→p < b→∃ (k:Int) (c d:Nat),k ∈ r∧k=(c:Int)∧S c d∧c ≤ p∧p < d:=by
  intro r
  induction r with
  | nil=>intro a b h h1 h2;cases h;omega
  | cons x r ih =>
    intro a b ⟨c,h0,h1,h2⟩ ha hb
    rcases Nat.lt_or_ge p c with h | h
    · exact ⟨x,a,c,List.mem_cons_self,h0,h1,ha,h⟩
    · obtain ⟨k,c',d',k1,k2,k3,k4,k5⟩:=ih h2 h hb
      exact ⟨k,c',d',List.mem_cons_of_mem _ k1,k2,k3,k4,k5⟩
theorem ztx:∀ {h:Nat} {l:List GNode} {c d p:Nat} {n:GNode},Sub h l c d→c ≤ p→p < d→l[p]?=some n→n.kind=11→n.name ∈ nmx l h (c:Int):=by
  intro h
  induction h with
  | zero=>intro l c d p n hs;exact hs.elim
  | succ h ih =>
    intro l c d p n ⟨n0,h1,h2⟩ hc hd hn hk
    rw [zmg h1]
    rcases Nat.eq_or_lt_of_le hc with e | e
    · subst e
      rw [h1] at hn;cases hn
      rw [if_pos hk];exact List.mem_singleton.2 rfl
    · by_cases h0:n0.kind=11
      · have:kidsOf n0=[]:=by unfold kidsOf;rw [if_pos h0]
        rw [this] at h2
        cases h2
        omega
      · rw [if_neg h0]
        obtain ⟨k,c',d',k1,k2,k3,k4,k5⟩:=Kids.find h2 e hd
        refine List.mem_flatMap.2 ⟨k,k1,?_⟩
        rw [k2]
        exact ih k3 k4 k5 hn hk
theorem ztO {m:GMod} (h:(wr m).2=0):first (zkN m) m.names.length 0=none:=by
  unfold wr at h
  split at h
  · cases h
  · split at h
    · cases h
    · assumption
theorem zsS {m:GMod} (h:(wr m).2=0):first (twice m) m.names.length 0=none:=by
  unfold wr at h
  split at h
  · cases h
  · assumption
theorem zuE {m:GMod} (w:WF m) (h:(wr m).2=0):∃ rk:Int→Nat,Env m rk:=by
  obtain ⟨rk,r1,r2⟩:=ranks w h
  have hn:=w.names
  have ht:=w.types
  refine ⟨rk,w,fun i=>Nat.le_trans (r1 i) hn,r2,fun b b0 b1=>?_⟩
  obtain ⟨t,hbt⟩:∃ t,m.types[b.toNat]?=some t:=⟨_,List.getElem?_eq_getElem (by omega)⟩
  obtain ⟨c,d,e1,e2,e3,e4⟩:=Kids.subs w.forest (List.mem_of_getElem? hbt)
  subst e1
  refine ⟨c,d,hbt,e2,e4,fun p n hp hq hpn hk=>?_⟩
  have hmem:n.name ∈ nms m (c:Int):=ztx e2 hp hq hpn hk
  have hno:=zg4 (ztO h) b b0 (by omega)
  unfold zkN at hno
  rw [hbt] at hno
  have hno:lost m (c:Int)=false:=hno
  unfold lost at hno
  have h1:=List.any_eq_false.1 hno _ hmem
  have h2:0 ≤ fnd m.names n.name:=by
    refine Classical.byContradiction fun hc=>h1 (zDT (by omega))
  refine ⟨h2,b0,uses m (c:Int),by unfold gr;rw [List.getElem?_map,hbt];rfl,?_⟩
  unfold uses
  refine zpr.2 (.inr (List.mem_filterMap.2 ⟨_,hmem,?_⟩))
  unfold idx
  rw [if_neg (by omega)]
theorem SubT.sub:∀ {h:Nat} {l:List GTyp} {r:List Int} {a b:Nat},Kids (SubT h l) r a b→∀ i,a ≤ i→i < b→∃ j,SubT h l i j:=by
  intro h
  induction h with
  | zero =>
    intro l r a b hk i h1 h2
    cases r with
    | nil=>cases hk;omega
    | cons k r=>obtain ⟨c,_,h,_⟩:=hk;exact h.elim
  | succ h ih =>
    intro l r a b hk i h1 h2
    obtain ⟨k,c,d,_,_,k3,k4,k5⟩:=Kids.find hk h1 h2
    rcases Nat.eq_or_lt_of_le k4 with e | e
    · subst e;exact ⟨d,k3⟩
    · obtain ⟨t,_,_,h3⟩:=k3
      obtain ⟨j,hj⟩:=ih h3 i e k5
      exact ⟨j,hj.up⟩
structure TabOk (t:GTab):Prop where
  names:t.names.length ≤ 40
  roots:t.roots.length=t.names.length
  types:t.types.length ≤ 300
  kids:Kids (SubT 17 t.types) t.roots 0 t.types.length
  fnds:∀ (p:Nat) (s:Str),t.names[p]?=some s→fnd t.names s=(p:Int)
theorem TabOk.empty (s:Str):TabOk (GTab.mk s [] [] []):=⟨Nat.zero_le _,rfl,Nat.zero_le _,rfl,fun p s h=>by simp at h⟩
theorem zsk {m:GMod} (w:WF m):T (fun r=>TabOk r.1∧(r.2.2=0→r.1.names=m.names∧r.1.name=m.name)) (zhH m):=by
  unfold zhH
  have hn:=w.names
  have ht:=w.types
  refine T.eq (zrX w) (T.br (fun hb=>T.some ⟨TabOk.empty _,fun h=>absurd h (by simpa using hb)⟩) fun hb=>?_)
  have hw:(wr m).2=0:=by
    have hb:(ordr m).2.2=0:=by simpa using hb
    unfold ordr at hb
    split at hb
    · assumption
    · exact hb
  obtain ⟨rk,E⟩:=zuE w hw
  have hfn:∀ (p:Nat) (s:Str),m.names[p]?=some s→fnd m.names s=(p:Int):=fun p s hp=>by
    have hlt:=(List.getElem?_eq_some_iff.1 hp).1
    have h1:=zg4 (zsS hw) (p:Int) (by omega) (by omega)
    unfold twice at h1
    rw [Int.toNat_natCast,hp] at h1
    have h2:=zOF h1
    rcases zi3 m.names s with h3 | h3
    · exact absurd (List.mem_of_getElem? hp) h3.2
    · rcases Int.lt_or_le (p:Int) (fnd m.names s) with h4 | h4
      · exact absurd hp (h3.2.2.2 p (by omega))
      · omega
  have hnode:=(zr1 E 12400 (by omega)).2.2 fuel (by unfold fuel;omega)
  refine T.jp (ι:=GTab) (fun t=>t=GTab.mk m.name m.names [] []) (fun J kk=>T.abl (by rw [List.length_nil];omega) (kk _ (by rw [List.nil_append]))) fun t htb=>?_
  subst htb
  refine T.lp (ι:=Int × GTab × GMk) (fun q=>0 ≤ q.1∧q.1 ≤ m.names.length∧q.2.1.names=m.names∧q.2.1.name=m.name∧(q.2.1.roots.length:Int)=q.1∧q.2.2.m=m∧q.2.2.l.length ≤ 300∧Kids (SubT 17 q.2.2.l) q.2.1.roots 0 q.2.2.l.length) (fun q=>((m.names.length:Int) - q.1).toNat) ⟨Int.le_refl _,by dsimp only;omega,rfl,rfl,rfl,rfl,Nat.zero_le _,rfl⟩ (by dsimp only;omega) fun L q ⟨q1,q2,q3,q4,q5,q6,q7,q8⟩ hL=>?_
  obtain ⟨i,t,y⟩:=q
  dsimp only at q1 q2 q3 q4 q5 q6 q7 q8 hL ⊢
  refine T.br (fun hi=>?_) fun hi=>T.some ⟨⟨by dsimp only;rw [q3];exact hn,by dsimp only;rw [q3];have:=zOF hi;omega,q7,q8,fun p s h=>(by rw [q3] at h ⊢;exact hfn p s h)⟩,fun _=>⟨q3,q4⟩⟩
  have hi:=zOT hi
  obtain ⟨c,d,e1,e2,e3,e4⟩:=E.root i q1 hi
  have hwn:=w.nodes
  have hrk:=E.rk40 i
  have hcd:=e2.lt
  refine T.jp (ι:=GTab × GMk) (fun p=>p.1.names=m.names∧p.1.name=m.name∧(p.1.roots.length:Int)=i + 1∧p.2.m=m∧p.2.l.length ≤ 300∧(p.2.e=0→Kids (SubT 17 p.2.l) p.1.roots 0 p.2.l.length)) (fun J kk=>T.get q1 (by omega) fun y36 h36=>?_) fun p ⟨p1,p2,p3,p4,p5,p6⟩=>?_
  · rw [e1] at h36;cases h36
    have hNN:rk i * 301 + (d - c) ≤ 12400:=by
      have:=Nat.mul_le_mul_right 301 hrk
      have h2:d - c ≤ 300:=Nat.le_trans (Nat.sub_le _ _) (Nat.le_trans e3 hwn)
      exact Nat.le_trans (Nat.add_le_add this h2) (by decide)
    refine T.cal (hnode y c d 17 i 0 q6 q7 e2 e3 e4 hNN (Int.le_refl _) (by decide)) fun r _ ⟨r1,r2⟩=>T.abl (by rw [List.length_singleton];omega) (kk _ ⟨q3,q4,by dsimp only;rw [List.length_append,List.length_singleton];omega,r1.m.trans q6,r1.lim,fun e=>?_⟩)
    obtain ⟨k1,k2,_⟩:=r2 e
    dsimp only
    rw [k1]
    exact Kids.snoc (KidsT.monoL (fun k _ hk=>r1.pre e k hk) q8) k2
  · refine T.br (fun he=>T.some ⟨TabOk.empty _,fun h=>absurd h (by simpa using he)⟩) fun he=>T.ck (by omega) (hL _ ⟨by dsimp only;omega,by dsimp only;omega,p1,p2,p3,p4,p5,p6 (by simpa using he)⟩ (by dsimp only;omega))
theorem znI (s:Str):T (fun r=>TabOk r.1) (zbE s):=by
  unfold zbE
  refine T.br (fun _=>T.some (TabOk.empty _)) fun _=>T.cal (zrc s) fun r _ hr=>T.br (fun _=>T.some (TabOk.empty _)) fun _=>T.cal (zsk hr) fun t _ ht=>T.jp (fun _=>True) (fun J kk=>T.br (fun _=>kk _ trivial) fun _=>kk _ trivial) fun b _=>T.some ht.1
end Go.Proofs.Q


namespace Go.Proofs.Q
open Go.Sy
set_option maxRecDepth 4000
def zd5 (a_t:GTab) (zcP:Int):Option (Int × Bool) :=
  br (decide ((a_t.roots.length:Int)=(0:Int))) (some ((0:Int),false)) (asr (!decide ((UInt64.ofNat ((a_t.roots.length:Int) % 18446744073709551616).toNat)=0)) <| ck ((((UInt64.ofNat (zcP % 18446744073709551616).toNat) % (UInt64.ofNat ((a_t.roots.length:Int) % 18446744073709551616).toNat)).toNat:Int)) <| cal (getI a_t.roots (((UInt64.ofNat (zcP % 18446744073709551616).toNat) % (UInt64.ofNat ((a_t.roots.length:Int) % 18446744073709551616).toNat)).toNat:Int)) fun y3=>some (y3,true))

def zhA (a_t:GTab) (zif:Str):Option (Int) :=
  lp (ι:=Int) (fun L2 q1=>jp (ι:=Bool) (fun J10=>br (decide (q1 < (a_t.names.length:Int))) (J10 ((decide (q1 < (a_t.roots.length:Int))))) (J10 (false))) (fun q9=>br q9 (cal (getI a_t.names q1) fun y12=>br (decide (y12=zif)) (cal (getI a_t.roots q1) fun y13=>some (y13)) (ck ((q1 + (1:Int))) <| L2 ((q1 + (1:Int))))) (some ((-1:Int))))) (((0:Int)))

def zeF (a_x:Tag) (a_y:Tag):Option (Bool) :=
  some ((decide (a_x=a_y)))

def ze1 (a_a:(List Tag)) (a_b:(List Tag)):Option (Bool) :=
  br (!decide ((a_a.length:Int)=(a_b.length:Int))) (some (false)) (lp (ι:=Int) (fun L2 q1=>br (decide (q1 < (a_a.length:Int))) (cal (getI a_a q1) fun y7=>cal (getI a_b q1) fun y8=>cal (zeF y7 y8) fun y9=>br (!y9) (some (false)) (ck ((q1 + (1:Int))) <| L2 ((q1 + (1:Int))))) (some (true))) (((0:Int))))

def zdy (a_a:(List Tag)) (a_b:(List Tag)):Option (Bool) :=
  cal (ze1 a_a a_b) fun y1=>some (y1)

def zek (a_x:GItem) (a_y:GItem):Option (Bool) :=
  some ((decide (a_x=a_y)))

def zew (a_a:(List GItem)) (a_b:(List GItem)):Option (Bool) :=
  br (!decide ((a_a.length:Int)=(a_b.length:Int))) (some (false)) (lp (ι:=Int) (fun L2 q1=>br (decide (q1 < (a_a.length:Int))) (cal (getI a_a q1) fun y7=>cal (getI a_b q1) fun y8=>cal (zek y7 y8) fun y9=>br (!y9) (some (false)) (ck ((q1 + (1:Int))) <| L2 ((q1 + (1:Int))))) (some (true))) (((0:Int))))

def zdd (a_a:(List GItem)) (a_b:(List GItem)):Option (Bool) :=
  cal (zew a_a a_b) fun y1=>some (y1)

def zlg (a_a:(List UInt8)) (a_b:(List UInt8)):Option (Bool) :=
  some ((decide ((Str.mk a_a)=(Str.mk a_b))))

def zoG (a_a:Raw) (a_b:Raw):Option (Bool) :=
  jp (ι:=Bool) (fun J2=>br (decide (a_a.n=a_b.n)) (cal (zlg a_a.b a_b.b) fun y4=>J2 (y4)) (J2 (false))) (fun q1=>some (q1))

def zdS (a_a:(List Raw)) (a_b:(List Raw)):Option (Bool) :=
  br (!decide ((a_a.length:Int)=(a_b.length:Int))) (some (false)) (lp (ι:=Int) (fun L2 q1=>br (decide (q1 < (a_a.length:Int))) (cal (getI a_a q1) fun y7=>cal (getI a_b q1) fun y8=>cal (zoG y7 y8) fun y9=>br (!y9) (some (false)) (ck ((q1 + (1:Int))) <| L2 ((q1 + (1:Int))))) (some (true))) (((0:Int))))

def zbH (zbz:(List Val)→(List Val)→Option (Bool)) (zfX:Val→Val→Option (Bool)) (a_a:(List Val)) (a_b:(List Val)):Option (Bool) :=
  br (!decide ((a_a.length:Int)=(a_b.length:Int))) (some (false)) (lp (ι:=Int) (fun L2 q1=>br (decide (q1 < (a_a.length:Int))) (cal (getI a_a q1) fun y7=>cal (getI a_b q1) fun y8=>cal (zfX y7 y8) fun y9=>br (!y9) (some (false)) (ck ((q1 + (1:Int))) <| L2 ((q1 + (1:Int))))) (some (true))) (((0:Int))))
def zfM (zbz:(List Val)→(List Val)→Option (Bool)) (zfX:Val→Val→Option (Bool)) (a_a:Val) (a_b:Val):Option (Bool) :=
  jp (ι:=Bool) (fun J2=>br (decide (a_a.kind=a_b.kind)) (J2 ((decide (a_a.n=a_b.n)))) (J2 (false))) (fun q1=>jp (ι:=Bool) (fun J5=>br q1 (cal (zlg a_a.b a_b.b) fun y7=>J5 (y7)) (J5 (false))) (fun q4=>jp (ι:=Bool) (fun J9=>br q4 (cal (zbz a_a.l a_b.l) fun y11=>J9 (y11)) (J9 (false))) (fun q8=>jp (ι:=Bool) (fun J13=>br q8 (J13 ((decide (a_a.rule=a_b.rule)))) (J13 (false))) (fun q12=>jp (ι:=Bool) (fun J16=>br q12 (cal (zdS a_a.more a_b.more) fun y18=>J16 (y18)) (J16 (false))) (fun q15=>some (q15))))))
def zdR:Nat→((List Val)→(List Val)→Option (Bool)) × (Val→Val→Option (Bool))
  | 0=>(fun _ _=>none,fun _ _=>none)
  | n + 1=>let p:=zdR n;(zbH p.1 p.2,zfM p.1 p.2)
def zda (n:Nat):(List Val)→(List Val)→Option (Bool):=(zdR n).1
def zey (n:Nat):Val→Val→Option (Bool):=(zdR n).2

def zfh (zdm:GTab→Int→GTab→Int→Option (Bool)) (zec:GTab→Int→GTab→Int→Option (Bool)) (a_a:GTab) (a_i:Int) (a_b:GTab) (a_k:Int):Option (Bool) :=
  jp (ι:=GTyp × GTyp) (fun J2=>cal (getI a_a.types a_i) fun y3=>cal (getI a_b.types a_k) fun y4=>J2 (y3,y4)) (fun q1=>jp (ι:=Bool) (fun J10=>br (!decide (q1.1.root=q1.2.root)) (J10 (true)) (J10 ((decide ((q1.2.fields.length:Int) < (q1.1.fields.length:Int)))))) (fun q9=>jp (ι:=Bool) (fun J13=>br q9 (J13 (true)) (jp (ι:=Bool) (fun J16=>br (!q1.1.more) (J16 ((!decide ((q1.2.fields.length:Int)=(q1.1.fields.length:Int))))) (J16 (false))) (fun q15=>J13 (q15)))) (fun q12=>br q12 (some (false)) (lp (ι:=Int) (fun L19 q18=>br (decide (q18 < (q1.1.fields.length:Int))) (jp (ι:=GFld × GFld) (fun J60=>cal (getI q1.1.fields q18) fun y61=>cal (getI q1.2.fields q18) fun y62=>J60 (y61,y62)) (fun q59=>jp (ι:=Bool) (fun J68=>br (!decide (q59.1.name=q59.2.name)) (J68 (true)) (J68 ((!decide (q59.1.optional=q59.2.optional))))) (fun q67=>jp (ι:=Bool) (fun J71=>br q67 (J71 (true)) (J71 ((!decide (q59.1.has=q59.2.has))))) (fun q70=>jp (ι:=Bool) (fun J74=>br q70 (J74 (true)) (cal (zey fuel q59.1.dflt q59.2.dflt) fun y76=>J74 ((!y76)))) (fun q73=>jp (ι:=Bool) (fun J78=>br q73 (J78 (true)) (J78 ((!decide (q59.1.group=q59.2.group))))) (fun q77=>jp (ι:=Bool) (fun J81=>br q77 (J81 (true)) (cal (zec a_a q59.1.ty a_b q59.2.ty) fun y83=>J81 ((!y83)))) (fun q80=>br q80 (some (false)) (ck ((q18 + (1:Int))) <| L19 ((q18 + (1:Int))))))))))) (jp (ι:=Bool) (fun J86=>br (decide ((q1.2.fields.length:Int)=(q1.1.fields.length:Int))) (J86 (true)) (J86 ((decide ((q1.1.fields.length:Int)=(0:Int)))))) (fun q85=>jp (ι:=Bool) (fun J89=>br q85 (J89 (true)) (cal (getI q1.2.fields (q1.1.fields.length:Int)) fun y91=>J89 ((decide (y91.group=(0:Int)))))) (fun q88=>jp (ι:=Bool) (fun J93=>br q88 (J93 (true)) (cal (getI q1.2.fields (q1.1.fields.length:Int)) fun y95=>ck (((q1.1.fields.length:Int) - (1:Int))) <| cal (getI q1.1.fields ((q1.1.fields.length:Int) - (1:Int))) fun y97=>J93 ((!decide (y95.group=y97.group))))) (fun q92=>some (q92)))))) (((0:Int)))))))
def zeM (zdm:GTab→Int→GTab→Int→Option (Bool)) (zec:GTab→Int→GTab→Int→Option (Bool)) (a_a:GTab) (a_i:Int) (a_b:GTab) (a_k:Int):Option (Bool) :=
  jp (ι:=Bool) (fun J2=>br (decide (a_i < (0:Int))) (J2 (true)) (J2 ((decide ((a_a.types.length:Int) ≤ a_i))))) (fun q1=>jp (ι:=Bool) (fun J5=>br q1 (J5 (true)) (J5 ((decide (a_k < (0:Int)))))) (fun q4=>jp (ι:=Bool) (fun J8=>br q4 (J8 (true)) (J8 ((decide ((a_b.types.length:Int) ≤ a_k))))) (fun q7=>br q7 (some (false)) (jp (ι:=GTyp × GTyp) (fun J11=>cal (getI a_a.types a_i) fun y12=>cal (getI a_b.types a_k) fun y13=>J11 (y12,y13)) (fun q10=>jp (ι:=Bool) (fun J19=>br (!decide (q10.1.kind=q10.2.kind)) (J19 (true)) (cal (zdy q10.1.tags q10.2.tags) fun y21=>J19 ((!y21)))) (fun q18=>jp (ι:=Bool) (fun J23=>br q18 (J23 (true)) (J23 ((!decide (q10.1.con=q10.2.con))))) (fun q22=>jp (ι:=Bool) (fun J26=>br q22 (J26 (true)) (J26 ((!decide (q10.1.more=q10.2.more))))) (fun q25=>br q25 (some (false)) (br (decide (q10.1.kind=(10:Int))) (cal (zec a_a q10.1.of a_b q10.2.of) fun y28=>some (y28)) (br (decide (q10.1.kind=(3:Int))) (jp (ι:=Bool) (fun J30=>br (decide (q10.1.root=q10.2.root)) (J30 ((decide ((q10.1.items.length:Int) ≤ (q10.2.items.length:Int))))) (J30 (false))) (fun q29=>jp (ι:=Bool) (fun J33=>br q29 (asr (decide (0 ≤ (0:Int)∧(0:Int) ≤ (q10.1.items.length:Int)∧(q10.1.items.length:Int) ≤ (q10.2.items.length:Int))) <| cal (zdd ((q10.2.items.take ((q10.1.items.length:Int)).toNat).drop (0:Int).toNat) q10.1.items) fun y36=>J33 (y36)) (J33 (false))) (fun q32=>jp (ι:=Bool) (fun J38=>br q32 (jp (ι:=Bool) (fun J41=>br q10.1.more (J41 (true)) (J41 ((decide ((q10.1.items.length:Int)=(q10.2.items.length:Int)))))) (fun q40=>J38 (q40))) (J38 (false))) (fun q37=>some (q37))))) (jp (ι:=Bool) (fun J44=>br (decide (q10.1.kind=(7:Int))) (J44 ((decide (q10.1.kind=(7:Int))))) (br (decide (q10.1.kind=(8:Int))) (J44 ((decide (q10.1.kind=(8:Int))))) (J44 ((decide (q10.1.kind=(9:Int))))))) (fun q43=>br q43 (cal (zdm a_a a_i a_b a_k) fun y45=>some (y45)) (some (true))))))))))))))
def zgy:Nat→(GTab→Int→GTab→Int→Option (Bool)) × (GTab→Int→GTab→Int→Option (Bool))
  | 0=>(fun _ _ _ _=>none,fun _ _ _ _=>none)
  | n + 1=>let p:=zgy n;(zfh p.1 p.2,zeM p.1 p.2)
def zik (n:Nat):GTab→Int→GTab→Int→Option (Bool):=(zgy n).1
def zf8 (n:Nat):GTab→Int→GTab→Int→Option (Bool):=(zgy n).2

def zk9 (a_a:GTab) (a_b:GTab):Option (Int × Int) :=
  br (!decide (a_a.name=a_b.name)) (some ((0:Int),(14:Int))) (lp (ι:=Int) (fun L2 q1=>jp (ι:=Bool) (fun J12=>br (decide (q1 < (a_a.names.length:Int))) (J12 ((decide (q1 < (a_a.roots.length:Int))))) (J12 (false))) (fun q11=>br q11 (cal (getI a_a.roots q1) fun y14=>cal (getI a_a.names q1) fun y15=>cal (zhA a_b y15) fun y16=>cal (zf8 fuel a_a y14 a_b y16) fun y17=>br (!y17) (some (q1,(14:Int))) (ck ((q1 + (1:Int))) <| L2 ((q1 + (1:Int))))) (some ((0:Int),(0:Int))))) (((0:Int))))

def zdV (zgn:Str) (zft:Str) (zcP:Int):Option (GTab × Int × GTab × Int × Bool) :=
  cal (zbE zgn) fun y3=>cal (zbE zft) fun y5=>cal (zd5 y3.1 zcP) fun y7=>jp (ι:=Bool) (fun J9=>br (!y3.2) (J9 (true)) (J9 ((!y5.2)))) (fun q8=>jp (ι:=Bool) (fun J12=>br q8 (J12 (true)) (J12 ((!y7.2)))) (fun q11=>br q11 (some (y3.1,(0:Int),y5.1,(0:Int),false)) (cal (zk9 y3.1 y5.1) fun y14=>asr (!decide ((UInt64.ofNat ((y3.1.roots.length:Int) % 18446744073709551616).toNat)=0)) <| ck ((((UInt64.ofNat (zcP % 18446744073709551616).toNat) % (UInt64.ofNat ((y3.1.roots.length:Int) % 18446744073709551616).toNat)).toNat:Int)) <| cal (getI y3.1.names (((UInt64.ofNat (zcP % 18446744073709551616).toNat) % (UInt64.ofNat ((y3.1.roots.length:Int) % 18446744073709551616).toNat)).toNat:Int)) fun y17=>cal (zhA y5.1 y17) fun y18=>jp (ι:=Bool) (fun J20=>br (decide (y14.2=(0:Int))) (J20 ((decide ((0:Int) ≤ y18)))) (J20 (false))) (fun q19=>some (y3.1,y7.1,y5.1,y18,q19)))))

def zht (zkU:Val→Int→Option (Bool × Int)) (a_v:Val) (zcy:Int):Option (Bool × Int) :=
  asr (!decide ((50:Int)=0)) <| ck (((a_v.b.length:Int).tdiv (50:Int))) <| ck ((zcy - (1:Int))) <| ck (((zcy - (1:Int)) - ((a_v.b.length:Int).tdiv (50:Int)))) <| ck ((((zcy - (1:Int)) - ((a_v.b.length:Int).tdiv (50:Int))) - (a_v.more.length:Int))) <| lp (ι:=Int × Int) (fun L7 q6=>jp (ι:=Bool) (fun J26=>br (decide (q6.1 < (a_v.more.length:Int))) (J26 ((decide ((0:Int) ≤ q6.2)))) (J26 (false))) (fun q25=>br q25 (cal (getI a_v.more q6.1) fun y28=>asr (!decide ((50:Int)=0)) <| ck (((y28.b.length:Int).tdiv (50:Int))) <| ck ((q6.2 - ((y28.b.length:Int).tdiv (50:Int)))) <| ck ((q6.1 + (1:Int))) <| L7 ((q6.1 + (1:Int)),(q6.2 - ((y28.b.length:Int).tdiv (50:Int))))) (br (decide (q6.2 < (0:Int))) (some (false,q6.2)) (lp (ι:=Int × Int) (fun L34 q33=>br (decide (q33.1 < (a_v.l.length:Int))) (cal (getI a_v.l q33.1) fun y38=>cal (zkU y38 q33.2) fun y39=>br (!y39.1) (some (false,y39.2)) (ck ((q33.1 + (1:Int))) <| L34 ((q33.1 + (1:Int)),y39.2))) (some (true,q33.2))) (((0:Int),q6.2)))))) (((0:Int),(((zcy - (1:Int)) - ((a_v.b.length:Int).tdiv (50:Int))) - (a_v.more.length:Int))))
def zlS:Nat→(Val→Int→Option (Bool × Int))
  | 0=>(fun _ _=>none)
  | n + 1=>let p:=zlS n;(zht p)
def zkO (n:Nat):Val→Int→Option (Bool × Int):=(zlS n)

def zkG (a_v:Val) (zm7:Int):Option (Bool) :=
  cal (zkO fuel a_v zm7) fun y2=>some (y2.1)

def zgb (zib:Val→Option (Int)) (a_v:Val):Option (Int) :=
  lp (ι:=Int × Int) (fun L2 q1=>br (decide (q1.2 < (a_v.l.length:Int))) (cal (getI a_v.l q1.2) fun y7=>cal (zib y7) fun y8=>ck ((q1.1 + y8)) <| ck ((q1.2 + (1:Int))) <| L2 ((q1.1 + y8),(q1.2 + (1:Int)))) (some (q1.1))) (((1:Int),(0:Int)))
def zj3:Nat→(Val→Option (Int))
  | 0=>(fun _=>none)
  | n + 1=>let p:=zj3 n;(zgb p)
def zhQ (n:Nat):Val→Option (Int):=(zj3 n)

def zjI (a_t:GTab) (a_i:Int):Option (Bool) :=
  jp (ι:=Bool) (fun J2=>br (decide ((0:Int) ≤ a_i)) (J2 ((decide (a_i < (a_t.types.length:Int))))) (J2 (false))) (fun q1=>some (q1))

def zfE (a_t:GTab) (a_i:Int):Option ((List (List Int))) :=
  cal (zjI a_t a_i) fun y3=>br (!y3) (some (([]:(List (List Int))))) (cal (getI a_t.types a_i) fun y6=>jp (ι:=Bool) (fun J9=>br (!decide (y6.kind=(7:Int))) (J9 ((!decide (y6.kind=(8:Int))))) (J9 (false))) (fun q8=>jp (ι:=Bool) (fun J12=>br q8 (J12 ((!decide (y6.kind=(9:Int))))) (J12 (false))) (fun q11=>br q11 (some (([]:(List (List Int))))) (lp (ι:=(List (List Int)) × Int) (fun L19 q18=>br (decide (q18.2 < (y6.fields.length:Int))) (jp (ι:=(List (List Int))) (fun J50=>cal (getI y6.fields q18.2) fun y51=>jp (ι:=Bool) (fun J53=>br (!decide (y6.kind=(9:Int))) (J53 ((decide ((0:Int) < y51.group)))) (J53 (false))) (fun q52=>jp (ι:=Bool) (fun J56=>br q52 (J56 ((decide (y6.root < q18.2)))) (J56 (false))) (fun q55=>jp (ι:=Bool) (fun J59=>br q55 (ck ((q18.2 - (1:Int))) <| cal (getI y6.fields (q18.2 - (1:Int))) fun y62=>J59 ((decide (y62.group=y51.group)))) (J59 (false))) (fun q58=>br q58 (ck ((((q18.1.length:Nat):Int) - (1:Int))) <| ck ((((q18.1.length:Nat):Int) - (1:Int))) <| asr (decide (0 ≤ (((q18.1.length:Nat):Int) - (1:Int))∧(((q18.1.length:Nat):Int) - (1:Int)) < ((q18.1.length:Nat):Int))) <| asr (decide ((((q18.1.length:Nat):Int) - (1:Int)).toNat + 1=q18.1.length)) <| cal (q18.1[(((q18.1.length:Nat):Int) - (1:Int)).toNat]?) fun y67=>asr (Nat.ble (y67.length + ([q18.2]:(List Int)).length) 68719476736) <| asr (decide (0 ≤ (((q18.1.length:Nat):Int) - (1:Int))∧(((q18.1.length:Nat):Int) - (1:Int)) < ((q18.1.length:Nat):Int))) <| asr (decide ((((q18.1.length:Nat):Int) - (1:Int)).toNat + 1=q18.1.length)) <| cal (q18.1[(((q18.1.length:Nat):Int) - (1:Int)).toNat]?) fun y73=>J50 ((q18.1.set ((((q18.1.length:Nat):Int) - (1:Int)).toNat) (y67 ++ ([q18.2]:(List Int)))))) (asr (Nat.ble (q18.1.length + ([([q18.2]:(List Int))]:(List (List Int))).length) 68719476736) <| J50 ((q18.1 ++ [([q18.2]:(List Int))]))))))) (fun q49=>ck ((q18.2 + (1:Int))) <| L19 (q49,(q18.2 + (1:Int))))) (some (q18.1))) ((([]:(List (List Int))),y6.root))))))

def zd0 (a_b:(List UInt8)):Option (UInt64 × Int × Int) :=
  lp (ι:=UInt64 × Int) (fun L2 q1=>br (decide (q1.2 < (a_b.length:Int))) (jp (ι:=Bool) (fun J16=>br (decide (q1.2=(0:Int))) (cal (getI a_b (0:Int)) fun y18=>J16 ((decide (y18=(128:UInt8))))) (J16 (false))) (fun q15=>jp (ι:=Bool) (fun J20=>br q15 (J20 (true)) (J20 ((decide ((144115188075855872:UInt64) ≤ q1.1))))) (fun q19=>br q19 (some ((0:UInt64),(0:Int),(4:Int))) (asr (Nat.ble (7:UInt64).toNat 64) <| cal (getI a_b q1.2) fun y23=>cal (getI a_b q1.2) fun y24=>br (decide (y24 < (128:UInt8))) (ck ((q1.2 + (1:Int))) <| some (((shl64 q1.1 (7:UInt64).toNat) ||| (y23 &&& (127:UInt8)).toUInt64),(q1.2 + (1:Int)),(0:Int))) (ck ((q1.2 + (1:Int))) <| L2 (((shl64 q1.1 (7:UInt64).toNat) ||| (y23 &&& (127:UInt8)).toUInt64),(q1.2 + (1:Int)))))))) (some ((0:UInt64),(0:Int),(3:Int)))) (((0:UInt64),(0:Int)))

def zfp (a_v:UInt64):Option ((List UInt8)) :=
  lp (ι:=UInt64 × (List UInt8)) (fun L3 q2=>br (decide ((255:UInt64) < q2.1)) (asr (Nat.ble (([(q2.1 >>> (8:UInt64)).toUInt8]:(List UInt8)).length + q2.2.length) 68719476736) <| L3 ((q2.1 >>> (8:UInt64)),(([(q2.1 >>> (8:UInt64)).toUInt8]:(List UInt8)) ++ q2.2))) (some (q2.2))) ((a_v,([a_v.toUInt8]:(List UInt8))))

def zdf (a_b:(List UInt8)):Option (UInt64 × Int) :=
  br (decide ((a_b.length:Int)=(0:Int))) (some ((0:UInt64),(3:Int))) (br (decide ((8:Int) < (a_b.length:Int))) (some ((0:UInt64),(4:Int))) (lp (ι:=UInt64 × Int) (fun L2 q1=>br (decide (q1.2 < (a_b.length:Int))) (asr (Nat.ble (8:UInt64).toNat 64) <| cal (getI a_b q1.2) fun y9=>ck ((q1.2 + (1:Int))) <| L2 (((shl64 q1.1 (8:UInt64).toNat) ||| y9.toUInt64),(q1.2 + (1:Int)))) (cal (zfp q1.1) fun y11=>cal (zlg y11 a_b) fun y12=>br (!y12) (some ((0:UInt64),(4:Int))) (some (q1.1,(0:Int))))) (((0:UInt64),(0:Int)))))

def zfj (a_b:(List UInt8)):Option (Tag × Bool × Int × Int × Int) :=
  br (decide ((a_b.length:Int)=(0:Int))) (some ((Tag.mk (0:Int) (0:Int)),false,(0:Int),(0:Int),(3:Int))) (cal (getI a_b (0:Int)) fun y2=>asr (Nat.ble (6:UInt64).toNat 8) <| cal (getI a_b (0:Int)) fun y4=>cal (getI a_b (0:Int)) fun y6=>jp (ι:=Int × Tag) (fun J8=>br (decide (((y4 &&& (31:UInt8)).toNat:Int)=(31:Int))) (asr (decide (0 ≤ (1:Int)∧(1:Int) ≤ (a_b.length:Int)∧(a_b.length:Int) ≤ (a_b.length:Int))) <| cal (zd0 ((a_b.take ((a_b.length:Int)).toNat).drop ((1:Int)).toNat)) fun y10=>br (!decide (y10.2.2=(0:Int))) (some ((Tag.mk (0:Int) (0:Int)),false,(0:Int),(0:Int),y10.2.2)) (jp (ι:=Bool) (fun J12=>br (decide (y10.1 < (31:UInt64))) (J12 (true)) (J12 ((decide ((268435456:UInt64) < y10.1))))) (fun q11=>br q11 (some ((Tag.mk (0:Int) (0:Int)),false,(0:Int),(0:Int),(4:Int))) (ck ((y10.1.toNat:Int)) <| ck (((1:Int) + y10.2.1)) <| J8 (((1:Int) + y10.2.1),(Tag.mk ((shr8 y2 (6:UInt64).toNat).toNat:Int) (y10.1.toNat:Int))))))) (J8 ((1:Int),(Tag.mk ((shr8 y2 (6:UInt64).toNat).toNat:Int) ((y4 &&& (31:UInt8)).toNat:Int))))) (fun q7=>br (decide ((a_b.length:Int) ≤ q7.1)) (some ((Tag.mk (0:Int) (0:Int)),false,(0:Int),(0:Int),(3:Int))) (cal (getI a_b q7.1) fun y16=>ck ((q7.1 + (1:Int))) <| jp (ι:=Int × Int) (fun J19=>br (decide ((128:Int) ≤ (y16.toNat:Int))) (ck (((y16.toNat:Int) - (128:Int))) <| jp (ι:=Bool) (fun J22=>br (decide (((y16.toNat:Int) - (128:Int))=(0:Int))) (J22 (true)) (J22 ((decide ((8:Int) < ((y16.toNat:Int) - (128:Int))))))) (fun q21=>br q21 (some ((Tag.mk (0:Int) (0:Int)),false,(0:Int),(0:Int),(4:Int))) (ck (((a_b.length:Int) - (q7.1 + (1:Int)))) <| br (decide (((a_b.length:Int) - (q7.1 + (1:Int))) < ((y16.toNat:Int) - (128:Int)))) (some ((Tag.mk (0:Int) (0:Int)),false,(0:Int),(0:Int),(3:Int))) (ck (((q7.1 + (1:Int)) + ((y16.toNat:Int) - (128:Int)))) <| asr (decide (0 ≤ (q7.1 + (1:Int))∧(q7.1 + (1:Int)) ≤ ((q7.1 + (1:Int)) + ((y16.toNat:Int) - (128:Int)))∧((q7.1 + (1:Int)) + ((y16.toNat:Int) - (128:Int))) ≤ (a_b.length:Int))) <| cal (zdf ((a_b.take (((q7.1 + (1:Int)) + ((y16.toNat:Int) - (128:Int)))).toNat).drop ((q7.1 + (1:Int))).toNat)) fun y27=>jp (ι:=Bool) (fun J29=>br (!decide (y27.2=(0:Int))) (J29 (true)) (J29 ((decide (y27.1 < (128:UInt64)))))) (fun q28=>jp (ι:=Bool) (fun J32=>br q28 (J32 (true)) (J32 ((decide ((2147483647:UInt64) < y27.1))))) (fun q31=>br q31 (some ((Tag.mk (0:Int) (0:Int)),false,(0:Int),(0:Int),(4:Int))) (ck ((y27.1.toNat:Int)) <| ck (((q7.1 + (1:Int)) + ((y16.toNat:Int) - (128:Int)))) <| J19 (((q7.1 + (1:Int)) + ((y16.toNat:Int) - (128:Int))),(y27.1.toNat:Int))))))))) (J19 ((q7.1 + (1:Int)),(y16.toNat:Int)))) (fun q18=>some (q7.2,(!decide ((y6 &&& (32:UInt8))=(0:UInt8))),q18.2,q18.1,(0:Int))))))

def zhb (a_b:(List UInt8)):Option ((List UInt8)) :=
  asr (Nat.ble (([]:(List UInt8)).length + a_b.length) 68719476736) <| some ((([]:(List UInt8)) ++ a_b))

def ziX (a_b:(List UInt8)):Option (Tag × Bool × (List UInt8) × Int × Int) :=
  cal (zfj a_b) fun y2=>br (!decide (y2.2.2.2.2=(0:Int))) (some ((Tag.mk (0:Int) (0:Int)),false,([]:(List UInt8)),(0:Int),y2.2.2.2.2)) (ck (((a_b.length:Int) - y2.2.2.2.1)) <| br (decide (((a_b.length:Int) - y2.2.2.2.1) < y2.2.2.1)) (some ((Tag.mk (0:Int) (0:Int)),false,([]:(List UInt8)),(0:Int),(3:Int))) (ck ((y2.2.2.2.1 + y2.2.2.1)) <| asr (decide (0 ≤ y2.2.2.2.1∧y2.2.2.2.1 ≤ (y2.2.2.2.1 + y2.2.2.1)∧(y2.2.2.2.1 + y2.2.2.1) ≤ (a_b.length:Int))) <| ck ((y2.2.2.2.1 + y2.2.2.1)) <| cal (zhb ((a_b.take ((y2.2.2.2.1 + y2.2.2.1)).toNat).drop (y2.2.2.2.1).toNat)) fun y8=>some (y2.1,y2.2.1,y8,(y2.2.2.2.1 + y2.2.2.1),(0:Int))))

def zd3 (zfU:(List GTyp)→Int→Option ((List Tag))) (a_l:(List GTyp)) (a_i:Int):Option ((List Tag)) :=
  cal (getI a_l a_i) fun y1=>br (decide ((0:Int) < (y1.tags.length:Int))) (cal (getI a_l a_i) fun y2=>asr (decide (0 ≤ (0:Int)∧(0:Int) ≤ (1:Int)∧(1:Int) ≤ (y2.tags.length:Int))) <| some (((y2.tags.take ((1:Int)).toNat).drop (0:Int).toNat))) (lp (ι:=(List Tag) × Int) (fun L5 q4=>cal (getI a_l a_i) fun y13=>br (decide (q4.2 < (y13.fields.length:Int))) (cal (getI a_l a_i) fun y14=>cal (getI y14.fields q4.2) fun y15=>cal (zfU a_l y15.ty) fun y16=>asr (Nat.ble (q4.1.length + y16.length) 68719476736) <| ck ((q4.2 + (1:Int))) <| L5 ((q4.1 ++ y16),(q4.2 + (1:Int)))) (some (q4.1))) ((([]:(List Tag)),(0:Int))))
def zh2:Nat→((List GTyp)→Int→Option ((List Tag)))
  | 0=>(fun _ _=>none)
  | n + 1=>let p:=zh2 n;(zd3 p)
def ze8 (n:Nat):(List GTyp)→Int→Option ((List Tag)):=(zh2 n)

def zgJ (a_t:GTab) (a_i:Int):Option ((List Tag)) :=
  jp (ι:=Bool) (fun J2=>br (decide (a_i < (0:Int))) (J2 (true)) (J2 ((decide ((a_t.types.length:Int) ≤ a_i))))) (fun q1=>br q1 (some (([]:(List Tag)))) (cal (ze8 fuel a_t.types a_i) fun y4=>asr (Nat.ble (([]:(List Tag)).length + y4.length) 68719476736) <| some ((([]:(List Tag)) ++ y4))))

def zfC (a_t:GTab) (a_i:Int) (a_b:(List UInt8)):Option (Tag × Bool) :=
  cal (ziX a_b) fun y2=>jp (ι:=Bool) (fun J5=>br (!decide (y2.2.2.2.2=(0:Int))) (J5 (true)) (J5 ((!decide (y2.2.2.2.1=(a_b.length:Int)))))) (fun q4=>br q4 (some (y2.1,false)) (cal (getI a_t.types a_i) fun y7=>jp (ι:=Int) (fun J9=>br (decide (y7.kind=(7:Int))) (cal (getI a_t.types a_i) fun y10=>cal (zhX y10) fun y11=>J9 (y11)) (J9 ((0:Int)))) (fun q8=>lp (ι:=Int) (fun L13 q12=>cal (getI a_t.types a_i) fun y20=>br (decide (q12 < (y20.fields.length:Int))) (cal (getI a_t.types a_i) fun y21=>cal (getI y21.fields q12) fun y22=>cal (zgJ a_t y22.ty) fun y23=>cal (zeg y23 y2.1) fun y24=>br y24 (some (y2.1,false)) (ck ((q12 + (1:Int))) <| L13 ((q12 + (1:Int))))) (some (y2.1,true))) ((q8)))))

def zf5 (a_x:GTyp) (a_n_:Int):Option (Int) :=
  lp (ι:=Int) (fun L2 q1=>br (decide (q1 < (a_x.items.length:Int))) (cal (getI a_x.items q1) fun y5=>br (decide (y5.number=a_n_)) (some (q1)) (ck ((q1 + (1:Int))) <| L2 ((q1 + (1:Int))))) (some ((-1:Int)))) (((0:Int)))

def zhK (a_b:(List UInt8)):Option (Bool) :=
  jp (ι:=Bool) (fun J2=>br (decide ((1:Int) ≤ (a_b.length:Int))) (J2 ((decide ((a_b.length:Int) ≤ (70000:Int))))) (J2 (false))) (fun q1=>some (q1))

def zfY (a_t:GTab) (a_i:Int) (a_v:Val):Option (Bool) :=
  cal (getI a_t.types a_i) fun y1=>jp (ι:=Bool) (fun J4=>br (!y1.more) (J4 (true)) (jp (ι:=Bool) (fun J7=>br (!decide (y1.kind=(9:Int))) (J7 ((!decide (y1.kind=(3:Int))))) (J7 (false))) (fun q6=>J4 (q6)))) (fun q3=>jp (ι:=Bool) (fun J10=>br q3 (J10 (true)) (J10 ((decide ((0:Int) < (a_v.l.length:Int)))))) (fun q9=>jp (ι:=Bool) (fun J13=>br q9 (J13 (true)) (J13 ((decide ((0:Int) < (a_v.more.length:Int)))))) (fun q12=>br q12 (some (false)) (ck (((y1.items.length:Int) - y1.root)) <| jp (ι:=Int) (fun J17=>br (decide (y1.kind=(9:Int))) (cal (zfE a_t a_i) fun y18=>J17 ((y18.length:Int))) (J17 (((y1.items.length:Int) - y1.root)))) (fun q16=>jp (ι:=Bool) (fun J20=>br (decide (a_v.rule=(1:Int))) (J20 ((decide (y1.kind=(9:Int))))) (J20 (false))) (fun q19=>br q19 (cal (zfC a_t a_i a_v.b) fun y22=>jp (ι:=Bool) (fun J25=>br y22.2 (J25 ((decide (a_v.n=(0:Int))))) (J25 (false))) (fun q24=>some (q24))) (br (decide (a_v.rule=(1:Int))) (jp (ι:=Bool) (fun J28=>br (decide ((a_v.b.length:Int)=(0:Int))) (cal (zf5 y1 a_v.n) fun y30=>J28 ((decide (y30 < (0:Int))))) (J28 (false))) (fun q27=>some (q27))) (br (decide (a_v.rule=(2:Int))) (jp (ι:=Bool) (fun J32=>br (decide (q16 ≤ a_v.n)) (J32 ((decide (a_v.n < (1000:Int))))) (J32 (false))) (fun q31=>jp (ι:=Bool) (fun J35=>br q31 (jp (ι:=Bool) (fun J38=>br (decide (y1.kind=(9:Int))) (cal (zhK a_v.b) fun y40=>J38 (y40)) (J38 (false))) (fun q37=>jp (ι:=Bool) (fun J42=>br q37 (J42 (true)) (jp (ι:=Bool) (fun J45=>br (decide (y1.kind=(3:Int))) (J45 ((decide ((a_v.b.length:Int)=(0:Int))))) (J45 (false))) (fun q44=>J42 (q44)))) (fun q41=>J35 (q41)))) (J35 (false))) (fun q34=>some (q34)))) (some (false))))))))))

def zcI (a_v:Val) (a_n_:Bool) (a_b:Bool) (a_l:Bool) (zoh:Bool):Option (Bool) :=
  jp (ι:=Bool) (fun J2=>br a_n_ (J2 (true)) (J2 ((decide (a_v.n=(0:Int)))))) (fun q1=>jp (ι:=Bool) (fun J5=>br q1 (jp (ι:=Bool) (fun J8=>br a_b (J8 (true)) (J8 ((decide ((a_v.b.length:Int)=(0:Int)))))) (fun q7=>J5 (q7))) (J5 (false))) (fun q4=>jp (ι:=Bool) (fun J11=>br q4 (jp (ι:=Bool) (fun J14=>br a_l (J14 (true)) (J14 ((decide ((a_v.l.length:Int)=(0:Int)))))) (fun q13=>J11 (q13))) (J11 (false))) (fun q10=>jp (ι:=Bool) (fun J17=>br q10 (jp (ι:=Bool) (fun J20=>br zoh (J20 (true)) (jp (ι:=Bool) (fun J23=>br (decide (a_v.rule=(0:Int))) (J23 ((decide ((a_v.more.length:Int)=(0:Int))))) (J23 (false))) (fun q22=>J20 (q22)))) (fun q19=>J17 (q19))) (J17 (false))) (fun q16=>some (q16)))))

def zjl (a_a:Tag) (a_b:Tag):Option (Bool) :=
  jp (ι:=Bool) (fun J2=>br (decide (a_a.cls < a_b.cls)) (J2 (true)) (jp (ι:=Bool) (fun J5=>br (decide (a_a.cls=a_b.cls)) (J5 ((decide (a_a.num < a_b.num)))) (J5 (false))) (fun q4=>J2 (q4)))) (fun q1=>some (q1))

def zg3 (a_t:GTab) (a_i:Int) (a_v:Val):Option (Bool) :=
  br (decide ((a_v.more.length:Int)=(0:Int))) (some ((decide (a_v.rule=(0:Int))))) (cal (getI a_t.types a_i) fun y1=>jp (ι:=Bool) (fun J3=>br (!y1.more) (J3 (true)) (jp (ι:=Bool) (fun J6=>br (!decide (a_v.rule=(1:Int))) (J6 ((!decide (a_v.rule=(2:Int))))) (J6 (false))) (fun q5=>J3 (q5)))) (fun q2=>br q2 (some (false)) (lp (ι:=Int × Tag) (fun L10 q9=>br (decide (q9.1 < (a_v.more.length:Int))) (jp (ι:=Tag) (fun J46=>cal (getI a_v.more q9.1) fun y47=>br (decide (a_v.rule=(2:Int))) (cal (zfE a_t a_i) fun y49=>jp (ι:=Int) (fun J51=>br (decide ((0:Int) < q9.1)) (ck ((q9.1 - (1:Int))) <| cal (getI a_v.more (q9.1 - (1:Int))) fun y53=>ck ((y53.n + (1:Int))) <| J51 ((y53.n + (1:Int)))) (J51 ((y49.length:Int)))) (fun q50=>jp (ι:=Bool) (fun J56=>br (decide (y47.n < q50)) (J56 (true)) (J56 ((decide ((1000:Int) ≤ y47.n))))) (fun q55=>jp (ι:=Bool) (fun J59=>br q55 (J59 (true)) (cal (zhK y47.b) fun y61=>J59 ((!y61)))) (fun q58=>br q58 (some (false)) (J46 (q9.2)))))) (cal (zfC a_t a_i y47.b) fun y62=>jp (ι:=Bool) (fun J65=>br (!y62.2) (J65 (true)) (J65 ((!decide (y47.n=(0:Int)))))) (fun q64=>jp (ι:=Bool) (fun J68=>br q64 (J68 (true)) (cal (getI a_t.types a_i) fun y70=>jp (ι:=Bool) (fun J72=>br (decide (y70.kind=(8:Int))) (J72 ((decide ((0:Int) < q9.1)))) (J72 (false))) (fun q71=>jp (ι:=Bool) (fun J75=>br q71 (cal (zjl q9.2 y62.1) fun y77=>J75 ((!y77))) (J75 (false))) (fun q74=>J68 (q74))))) (fun q67=>br q67 (some (false)) (J46 (y62.1)))))) (fun q45=>ck ((q9.1 + (1:Int))) <| L10 ((q9.1 + (1:Int)),q45))) (some (true))) (((0:Int),Tag.zero)))))

def zd9 (zdn:GTab→Int→Val→Int→Option (Bool)) (zdD:GTab→Int→Val→Int→Option (Bool)) (a_t:GTab) (a_i:Int) (a_v:Val) (zL:Int):Option (Bool) :=
  cal (getI a_t.types a_i) fun y1=>cal (zcI a_v false false true true) fun y3=>jp (ι:=Bool) (fun J5=>br (!y3) (J5 (true)) (J5 ((!decide ((a_v.l.length:Int)=(y1.fields.length:Int)))))) (fun q4=>jp (ι:=Bool) (fun J8=>br q4 (J8 (true)) (cal (zg3 a_t a_i a_v) fun y10=>J8 ((!y10)))) (fun q7=>br q7 (some (false)) (lp (ι:=Int) (fun L12 q11=>br (decide (q11 < (y1.fields.length:Int))) (jp (ι:=Unit) (fun J164=>cal (getI y1.fields q11) fun y165=>jp (ι:=Bool) (fun J168=>br y165.optional (J168 (true)) (J168 (y165.has))) (fun q167=>cal (getI a_v.l q11) fun y170=>br (decide (y170.kind=(0:Int))) (cal (getI a_v.l q11) fun y171=>cal (zey fuel y171 (Val.mk (0:Int) (0:Int) ([]:(List UInt8)) ([]:(List Val)) (0:Int) ([]:(List Raw)))) fun y172=>jp (ι:=Bool) (fun J174=>br (!y172) (J174 (true)) (jp (ι:=Bool) (fun J177=>br (!q167) (J177 ((decide (q11 < y1.root)))) (J177 (false))) (fun q176=>J174 (q176)))) (fun q173=>br q173 (some (false)) (J164 ()))) (cal (getI a_v.l q11) fun y179=>ck ((zL + (1:Int))) <| cal (zdD a_t y165.ty y179 (zL + (1:Int))) fun y181=>jp (ι:=Bool) (fun J183=>br (!y181) (J183 (true)) (jp (ι:=Bool) (fun J186=>br y165.has (cal (getI a_v.l q11) fun y188=>cal (zey fuel y188 y165.dflt) fun y189=>J186 (y189)) (J186 (false))) (fun q185=>J183 (q185)))) (fun q182=>br q182 (some (false)) (J164 ()))))) (fun q163=>ck ((q11 + (1:Int))) <| L12 ((q11 + (1:Int))))) (cal (zfE a_t a_i) fun y191=>lp (ι:=Int) (fun L193 q192=>br (decide (q192 < (y191.length:Int))) (lp (ι:=Bool × Bool × Int) (fun L254 q253=>cal (getI y191 q192) fun y280=>br (decide (q253.2.2 < (y280.length:Int))) (cal (getI y191 q192) fun y281=>cal (getI y281 q253.2.2) fun y282=>cal (getI y1.fields y282) fun y283=>cal (getI y191 q192) fun y285=>cal (getI y285 q253.2.2) fun y286=>cal (getI a_v.l y286) fun y287=>jp (ι:=Bool) (fun J289=>br q253.1 (J289 (true)) (J289 ((!decide (y287.kind=(0:Int)))))) (fun q288=>jp (ι:=Bool) (fun J292=>br q253.2.1 (J292 (true)) (jp (ι:=Bool) (fun J295=>br (!(!decide (y287.kind=(0:Int)))) (J295 ((!y283.optional))) (J295 (false))) (fun q294=>jp (ι:=Bool) (fun J298=>br q294 (J298 ((!y283.has))) (J298 (false))) (fun q297=>J292 (q297))))) (fun q291=>ck ((q253.2.2 + (1:Int))) <| L254 (q288,q291,(q253.2.2 + (1:Int)))))) (cal (getI y191 q192) fun y301=>cal (getI y301 (0:Int)) fun y302=>cal (getI y1.fields y302) fun y303=>jp (ι:=Bool) (fun J305=>br (decide ((0:Int) < y303.group)) (J305 (q253.1)) (J305 (false))) (fun q304=>jp (ι:=Bool) (fun J308=>br q304 (J308 (q253.2.1)) (J308 (false))) (fun q307=>br q307 (some (false)) (ck ((q192 + (1:Int))) <| L193 ((q192 + (1:Int)))))))) ((false,false,(0:Int)))) (some (true))) (((0:Int))))) (((0:Int))))))
def zeK (zdn:GTab→Int→Val→Int→Option (Bool)) (zdD:GTab→Int→Val→Int→Option (Bool)) (a_t:GTab) (a_i:Int) (a_v:Val) (zL:Int):Option (Bool) :=
  jp (ι:=Bool) (fun J2=>br (decide (a_i < (0:Int))) (J2 (true)) (J2 ((decide ((a_t.types.length:Int) ≤ a_i))))) (fun q1=>jp (ι:=Bool) (fun J5=>br q1 (J5 (true)) (J5 ((decide ((17:Int) < zL))))) (fun q4=>br q4 (some (false)) (cal (getI a_t.types a_i) fun y7=>br (decide (a_v.kind=(12:Int))) (cal (zfY a_t a_i a_v) fun y9=>some (y9)) (br (!decide (a_v.kind=y7.kind)) (some (false)) (br (decide (y7.kind=(1:Int))) (cal (zcI a_v true false false false) fun y10=>jp (ι:=Bool) (fun J12=>br y10 (jp (ι:=Bool) (fun J15=>br (decide (a_v.n=(0:Int))) (J15 (true)) (J15 ((decide (a_v.n=(1:Int)))))) (fun q14=>J12 (q14))) (J12 (false))) (fun q11=>some (q11))) (br (decide (y7.kind=(2:Int))) (cal (zcI a_v true false false false) fun y17=>jp (ι:=Bool) (fun J19=>br y17 (jp (ι:=Bool) (fun J22=>br y7.con.more (J22 (true)) (cal (zcC y7.con a_v.n) fun y24=>J22 (y24))) (fun q21=>J19 (q21))) (J19 (false))) (fun q18=>some (q18))) (br (decide (y7.kind=(3:Int))) (cal (zcI a_v true false false false) fun y25=>jp (ι:=Bool) (fun J27=>br y25 (cal (zf5 y7 a_v.n) fun y29=>J27 ((decide ((0:Int) ≤ y29)))) (J27 (false))) (fun q26=>some (q26))) (br (decide (y7.kind=(4:Int))) (cal (zcI a_v false false false false) fun y30=>some (y30)) (jp (ι:=Bool) (fun J32=>br (decide (y7.kind=(5:Int))) (J32 ((decide (y7.kind=(5:Int))))) (J32 ((decide (y7.kind=(6:Int)))))) (fun q31=>br q31 (cal (zcI a_v false true false false) fun y33=>jp (ι:=Bool) (fun J35=>br y33 (J35 ((decide ((a_v.b.length:Int) ≤ (70000:Int))))) (J35 (false))) (fun q34=>jp (ι:=Bool) (fun J38=>br q34 (jp (ι:=Bool) (fun J41=>br y7.con.more (J41 (true)) (cal (zcC y7.con (a_v.b.length:Int)) fun y43=>J41 (y43))) (fun q40=>J38 (q40))) (J38 (false))) (fun q37=>jp (ι:=Bool) (fun J45=>br q37 (jp (ι:=Bool) (fun J48=>br (decide (y7.kind=(5:Int))) (J48 (true)) (cal (zcW a_v.b) fun y50=>J48 (y50))) (fun q47=>J45 (q47))) (J45 (false))) (fun q44=>some (q44))))) (br (decide (y7.kind=(10:Int))) (cal (zcI a_v false false true false) fun y51=>jp (ι:=Bool) (fun J53=>br (!y51) (J53 (true)) (jp (ι:=Bool) (fun J56=>br (!y7.con.more) (cal (zcC y7.con (a_v.l.length:Int)) fun y58=>J56 ((!y58))) (J56 (false))) (fun q55=>J53 (q55)))) (fun q52=>br q52 (some (false)) (lp (ι:=Int) (fun L60 q59=>br (decide (q59 < (a_v.l.length:Int))) (cal (getI a_v.l q59) fun y65=>ck ((zL + (1:Int))) <| cal (zdD a_t y7.of y65 (zL + (1:Int))) fun y67=>br (!y67) (some (false)) (ck ((q59 + (1:Int))) <| L60 ((q59 + (1:Int))))) (some (true))) (((0:Int)))))) (br (decide (y7.kind=(9:Int))) (cal (zcI a_v true false true false) fun y70=>jp (ι:=Bool) (fun J72=>br y70 (J72 ((decide ((0:Int) ≤ a_v.n)))) (J72 (false))) (fun q71=>jp (ι:=Bool) (fun J75=>br q71 (J75 ((decide (a_v.n < (y7.fields.length:Int))))) (J75 (false))) (fun q74=>jp (ι:=Bool) (fun J78=>br q74 (J78 ((decide ((a_v.l.length:Int)=(1:Int))))) (J78 (false))) (fun q77=>jp (ι:=Bool) (fun J81=>br q77 (cal (getI y7.fields a_v.n) fun y83=>cal (getI a_v.l (0:Int)) fun y84=>ck ((zL + (1:Int))) <| cal (zdD a_t y83.ty y84 (zL + (1:Int))) fun y86=>J81 (y86)) (J81 (false))) (fun q80=>some (q80)))))) (jp (ι:=Bool) (fun J88=>br (decide (y7.kind=(7:Int))) (J88 ((decide (y7.kind=(7:Int))))) (J88 ((decide (y7.kind=(8:Int)))))) (fun q87=>br q87 (cal (zdn a_t a_i a_v zL) fun y89=>some (y89)) (some (false))))))))))))))))
def zgQ:Nat→(GTab→Int→Val→Int→Option (Bool)) × (GTab→Int→Val→Int→Option (Bool))
  | 0=>(fun _ _ _ _=>none,fun _ _ _ _=>none)
  | n + 1=>let p:=zgQ n;(zd9 p.1 p.2,zeK p.1 p.2)
def ziz (n:Nat):GTab→Int→Val→Int→Option (Bool):=(zgQ n).1
def zfZ (n:Nat):GTab→Int→Val→Int→Option (Bool):=(zgQ n).2

def ziS (a_t:GTab) (a_i:Int) (a_v:Val):Option (Bool) :=
  cal (zhQ fuel a_v) fun y1=>jp (ι:=Bool) (fun J3=>br (decide (y1 ≤ (5000:Int))) (cal (zfZ fuel a_t a_i a_v (1:Int)) fun y5=>J3 (y5)) (J3 (false))) (fun q2=>some (q2))

def zgz (zjJ:Val→Option (Bool)) (a_v:Val):Option (Bool) :=
  jp (ι:=Bool) (fun J2=>br (decide (a_v.kind=(12:Int))) (J2 (true)) (J2 ((decide ((0:Int) < (a_v.more.length:Int)))))) (fun q1=>br q1 (some (false)) (lp (ι:=Int) (fun L5 q4=>br (decide (q4 < (a_v.l.length:Int))) (cal (getI a_v.l q4) fun y9=>cal (zjJ y9) fun y10=>br (!y10) (some (false)) (ck ((q4 + (1:Int))) <| L5 ((q4 + (1:Int))))) (some (true))) (((0:Int)))))
def zld:Nat→(Val→Option (Bool))
  | 0=>(fun _=>none)
  | n + 1=>let p:=zld n;(zgz p)
def zi4 (n:Nat):Val→Option (Bool):=(zld n)

def zfe (a_b:(List UInt8)):Option (UInt64 × Int × Int) :=
  lp (ι:=UInt64 × Int) (fun L2 q1=>br (decide (q1.2 < (a_b.length:Int))) (cal (getI a_b q1.2) fun y13=>jp (ι:=Bool) (fun J15=>br (decide (q1.2=(0:Int))) (J15 ((decide (y13=(128:UInt8))))) (J15 (false))) (fun q14=>jp (ι:=Bool) (fun J18=>br q14 (J18 (true)) (J18 ((!decide ((q1.1 >>> (57:UInt64))=(0:UInt64)))))) (fun q17=>br q17 (some ((0:UInt64),(0:Int),(4:Int))) (asr (Nat.ble (7:UInt64).toNat 64) <| br (decide (y13 < (128:UInt8))) (ck ((q1.2 + (1:Int))) <| some (((shl64 q1.1 (7:UInt64).toNat) ||| (y13 &&& (127:UInt8)).toUInt64),(q1.2 + (1:Int)),(0:Int))) (ck ((q1.2 + (1:Int))) <| L2 (((shl64 q1.1 (7:UInt64).toNat) ||| (y13 &&& (127:UInt8)).toUInt64),(q1.2 + (1:Int)))))))) (some ((0:UInt64),(0:Int),(3:Int)))) (((0:UInt64),(0:Int)))

def zkg (a_b:(List UInt8)):Option (Int × Int × Int) :=
  cal (getI a_b (0:Int)) fun y1=>br (decide (((y1 &&& (31:UInt8)).toNat:Int) < (31:Int))) (some (((y1 &&& (31:UInt8)).toNat:Int),(0:Int),(0:Int))) (asr (decide (0 ≤ (1:Int)∧(1:Int) ≤ (a_b.length:Int)∧(a_b.length:Int) ≤ (a_b.length:Int))) <| cal (zfe ((a_b.take ((a_b.length:Int)).toNat).drop ((1:Int)).toNat)) fun y3=>br (!decide (y3.2.2=(0:Int))) (some ((0:Int),(0:Int),y3.2.2)) (jp (ι:=Bool) (fun J5=>br (decide (y3.1 < (31:UInt64))) (J5 (true)) (J5 ((decide ((268435456:UInt64) < y3.1))))) (fun q4=>br q4 (some ((0:Int),(0:Int),(4:Int))) (ck ((y3.1.toNat:Int)) <| some ((y3.1.toNat:Int),y3.2.1,(0:Int))))))

def zij (a_b:(List UInt8)):Option (UInt64) :=
  lp (ι:=UInt64 × Int) (fun L2 q1=>br (decide (q1.2 < (a_b.length:Int))) (cal (getI a_b q1.2) fun y6=>asr (Nat.ble (8:UInt64).toNat 64) <| ck ((q1.2 + (1:Int))) <| L2 (((shl64 q1.1 (8:UInt64).toNat) ||| y6.toUInt64),(q1.2 + (1:Int)))) (some (q1.1))) (((0:UInt64),(0:Int)))

def zel (a_b:(List UInt8)):Option (UInt64 × Int) :=
  br (decide ((a_b.length:Int)=(0:Int))) (some ((0:UInt64),(3:Int))) (jp (ι:=Bool) (fun J2=>br (decide ((8:Int) < (a_b.length:Int))) (J2 (true)) (jp (ι:=Bool) (fun J5=>br (decide ((1:Int) < (a_b.length:Int))) (cal (getI a_b (0:Int)) fun y7=>J5 ((decide (y7=(0:UInt8))))) (J5 (false))) (fun q4=>J2 (q4)))) (fun q1=>br q1 (some ((0:UInt64),(4:Int))) (cal (zij a_b) fun y8=>some (y8,(0:Int)))))

def zkw (a_b:(List UInt8)):Option (Int × Int × Int) :=
  br (decide ((a_b.length:Int)=(0:Int))) (some ((0:Int),(0:Int),(3:Int))) (cal (getI a_b (0:Int)) fun y1=>br (decide (y1 < (128:UInt8))) (cal (getI a_b (0:Int)) fun y2=>some ((y2.toNat:Int),(1:Int),(0:Int))) (cal (getI a_b (0:Int)) fun y3=>jp (ι:=Bool) (fun J5=>br (decide (((y3 &&& ~~~(128:UInt8)).toNat:Int)=(0:Int))) (J5 (true)) (J5 ((decide ((8:Int) < ((y3 &&& ~~~(128:UInt8)).toNat:Int)))))) (fun q4=>br q4 (some ((0:Int),(0:Int),(4:Int))) (br (decide ((a_b.length:Int) ≤ ((y3 &&& ~~~(128:UInt8)).toNat:Int))) (some ((0:Int),(0:Int),(3:Int))) (ck (((1:Int) + ((y3 &&& ~~~(128:UInt8)).toNat:Int))) <| asr (decide (0 ≤ (1:Int)∧(1:Int) ≤ ((1:Int) + ((y3 &&& ~~~(128:UInt8)).toNat:Int))∧((1:Int) + ((y3 &&& ~~~(128:UInt8)).toNat:Int)) ≤ (a_b.length:Int))) <| cal (zel ((a_b.take (((1:Int) + ((y3 &&& ~~~(128:UInt8)).toNat:Int))).toNat).drop ((1:Int)).toNat)) fun y9=>jp (ι:=Bool) (fun J11=>br (!decide (y9.2=(0:Int))) (J11 (true)) (J11 ((decide (y9.1 < (128:UInt64)))))) (fun q10=>jp (ι:=Bool) (fun J14=>br q10 (J14 (true)) (J14 ((decide ((2147483647:UInt64) < y9.1))))) (fun q13=>br q13 (some ((0:Int),(0:Int),(4:Int))) (ck ((y9.1.toNat:Int)) <| ck (((1:Int) + ((y3 &&& ~~~(128:UInt8)).toNat:Int))) <| some ((y9.1.toNat:Int),((1:Int) + ((y3 &&& ~~~(128:UInt8)).toNat:Int)),(0:Int))))))))))

def zih (a_b:(List UInt8)):Option (Tag × Bool × Int × Int × Int) :=
  br (decide ((a_b.length:Int)=(0:Int))) (some ((Tag.mk (0:Int) (0:Int)),false,(0:Int),(0:Int),(3:Int))) (cal (zkg a_b) fun y2=>br (!decide (y2.2.2=(0:Int))) (some ((Tag.mk (0:Int) (0:Int)),false,(0:Int),(0:Int),y2.2.2)) (ck (((1:Int) + y2.2.1)) <| asr (decide (0 ≤ ((1:Int) + y2.2.1)∧((1:Int) + y2.2.1) ≤ (a_b.length:Int)∧(a_b.length:Int) ≤ (a_b.length:Int))) <| cal (zkw ((a_b.take ((a_b.length:Int)).toNat).drop (((1:Int) + y2.2.1)).toNat)) fun y5=>br (!decide (y5.2.2=(0:Int))) (some ((Tag.mk (0:Int) (0:Int)),false,(0:Int),(0:Int),y5.2.2)) (cal (getI a_b (0:Int)) fun y6=>asr (Nat.ble (6:UInt64).toNat 8) <| cal (getI a_b (0:Int)) fun y8=>ck (((1:Int) + y2.2.1)) <| ck ((((1:Int) + y2.2.1) + y5.2.1)) <| some ((Tag.mk ((shr8 y6 (6:UInt64).toNat).toNat:Int) y2.1),(!decide ((y8 &&& (32:UInt8))=(0:UInt8))),y5.1,(((1:Int) + y2.2.1) + y5.2.1),(0:Int)))))

def zml (a_b:(List UInt8)):Option (Tag × Bool × (List UInt8) × Int × Int) :=
  cal (zih a_b) fun y2=>jp (ι:=Bool) (fun J5=>br (decide (y2.2.2.2.2=(0:Int))) (ck (((a_b.length:Int) - y2.2.2.2.1)) <| J5 ((decide (((a_b.length:Int) - y2.2.2.2.1) < y2.2.2.1)))) (J5 (false))) (fun q4=>jp (ι:=Int) (fun J9=>br q4 (J9 ((3:Int))) (J9 (y2.2.2.2.2))) (fun q8=>br (!decide (q8=(0:Int))) (some ((Tag.mk (0:Int) (0:Int)),false,([]:(List UInt8)),(0:Int),q8)) (ck ((y2.2.2.2.1 + y2.2.2.1)) <| asr (decide (0 ≤ y2.2.2.2.1∧y2.2.2.2.1 ≤ (y2.2.2.2.1 + y2.2.2.1)∧(y2.2.2.2.1 + y2.2.2.1) ≤ (a_b.length:Int))) <| ck ((y2.2.2.2.1 + y2.2.2.1)) <| asr (Nat.ble (([]:(List UInt8)).length + ((a_b.take ((y2.2.2.2.1 + y2.2.2.1)).toNat).drop (y2.2.2.2.1).toNat).length) 68719476736) <| some (y2.1,y2.2.1,(([]:(List UInt8)) ++ ((a_b.take ((y2.2.2.2.1 + y2.2.2.1)).toNat).drop (y2.2.2.2.1).toNat)),(y2.2.2.2.1 + y2.2.2.1),(0:Int)))))

def zeX (a_t:GTyp) (a_k:Int):Option (Bool) :=
  cal (getI a_t.fields a_k) fun y1=>jp (ι:=Bool) (fun J3=>br y1.optional (J3 (true)) (cal (getI a_t.fields a_k) fun y5=>J3 (y5.has))) (fun q2=>jp (ι:=Bool) (fun J7=>br q2 (J7 (true)) (J7 ((decide (a_t.root ≤ a_k))))) (fun q6=>some (q6)))

def zkc (a_t:GTyp):Option (Int) :=
  lp (ι:=Int) (fun L2 q1=>jp (ι:=Bool) (fun J10=>br (decide ((0:Int) < q1)) (ck ((q1 - (1:Int))) <| cal (zeX a_t (q1 - (1:Int))) fun y13=>J10 (y13)) (J10 (false))) (fun q9=>br q9 (ck ((q1 - (1:Int))) <| L2 ((q1 - (1:Int)))) (some (q1)))) (((min (max a_t.root (0:Int)) (a_t.fields.length:Int))))

def zdE (a_x:GTyp) (a_a1:(List Tag)):Option ((List Tag)) :=
  br (decide ((0:Int) < (a_x.tags.length:Int))) (cal (getI a_x.tags (0:Int)) fun y2=>asr (Nat.ble (a_a1.length + ([y2]:(List Tag)).length) 68719476736) <| some ((a_a1 ++ ([y2]:(List Tag))))) (some (a_a1))

def zej (zdt:GTys→Int→Int→(List Tag)→Option (GTys × Int × (List Tag))) (a_t:GTys) (ziG:Int) (zcy:Int) (zjD:(List Tag)):Option (GTys × Int × (List Tag)) :=
  jp (ι:=Bool) (fun J3=>br (decide (ziG < (0:Int))) (J3 (true)) (J3 ((decide ((a_t.l.length:Int) ≤ ziG))))) (fun q2=>jp (ι:=Bool) (fun J6=>br q2 (J6 (true)) (J6 ((decide (zcy=(0:Int)))))) (fun q5=>br q5 (some (a_t,zcy,zjD)) (ck ((zcy - (1:Int))) <| cal (getI a_t.l ziG) fun y9=>cal (zdE y9 zjD) fun y11=>br (decide ((0:Int) < (y9.tags.length:Int))) (some (a_t,(zcy - (1:Int)),y11)) (lp (ι:=Int × (List Tag) × Int × GTys) (fun L14 q13=>br (decide (q13.1 < (y9.fields.length:Int))) (cal (getI y9.fields q13.1) fun y20=>cal (zdt q13.2.2.2 y20.ty q13.2.2.1 q13.2.1) fun y22=>ck ((q13.1 + (1:Int))) <| L14 ((q13.1 + (1:Int)),y22.2.2,y22.2.1,y22.1)) (some (q13.2.2.2,q13.2.2.1,q13.2.1))) (((0:Int),y11,(zcy - (1:Int)),a_t))))))
def zfA:Nat→(GTys→Int→Int→(List Tag)→Option (GTys × Int × (List Tag)))
  | 0=>(fun _ _ _ _=>none)
  | n + 1=>let p:=zfA n;(zej p)
def zfd (n:Nat):GTys→Int→Int→(List Tag)→Option (GTys × Int × (List Tag)):=(zfA n)

def zeC (a_t:GTys) (ziG:Int):Option ((List Tag) × GTys) :=
  cal (zfd fuel a_t ziG (300:Int) ([]:(List Tag))) fun y4=>some (y4.2.2,y4.1)

def zix (a_t:GTab) (a_i:Int):Option ((List Tag)) :=
  cal (zeC (GTys.mk a_t.types) a_i) fun y2=>some (y2.1)

def zch (a_s:(List Tag)) (a_v:Tag):Option (Int) :=
  lp (ι:=Int) (fun L2 q1=>br (decide (q1 < (a_s.length:Int))) (cal (getI a_s q1) fun y5=>br (decide (a_v=y5)) (some (q1)) (ck ((q1 + (1:Int))) <| L2 ((q1 + (1:Int))))) (some ((-1:Int)))) (((0:Int)))

def zbT (a_s:(List Tag)) (a_v:Tag):Option (Bool) :=
  cal (zch a_s a_v) fun y1=>some ((decide ((0:Int) ≤ y1)))

def zcY (a_f:GFld) (a_a1:GChk) (a_a2:Tag):Option (Bool × GChk) :=
  cal (zix a_a1.tabled.t a_f.ty) fun y1=>cal (zbT y1 a_a2) fun y2=>some (y2,a_a1)

def zbv (a_s:(List GFld)) (zdl:GChk) (zep:Tag):Option (Int × GChk) :=
  lp (ι:=Int × GChk) (fun L2 q1=>br (decide (q1.1 < (a_s.length:Int))) (cal (getI a_s q1.1) fun y6=>cal (zcY y6 q1.2 zep) fun y7=>br y7.1 (some (q1.1,y7.2)) (ck ((q1.1 + (1:Int))) <| L2 ((q1.1 + (1:Int)),y7.2))) (some ((-1:Int),q1.2))) (((0:Int),zdl))

def zbd (a_s:(List GFld)) (zdl:GChk) (zep:Tag):Option (Bool × GChk) :=
  cal (zbv a_s zdl zep) fun y1=>some ((decide ((0:Int) ≤ y1.1)),y1.2)

def zcE (a_c:GChk) (a_i:Int) (a_b:(List UInt8)):Option (Tag × Bool × GChk) :=
  cal (zml a_b) fun y2=>jp (ι:=Bool) (fun J5=>br (!decide (y2.2.2.2.2=(0:Int))) (J5 (true)) (J5 ((!decide (y2.2.2.2.1=(a_b.length:Int)))))) (fun q4=>br q4 (some ((Tag.mk (0:Int) (0:Int)),false,a_c)) (cal (getI a_c.tabled.t.types a_i) fun y7=>jp (ι:=Int) (fun J10=>br (decide (y7.kind=(7:Int))) (cal (zkc y7) fun y11=>J10 (y11)) (J10 ((0:Int)))) (fun q9=>asr (decide (0 ≤ q9∧q9 ≤ (y7.fields.length:Int)∧(y7.fields.length:Int) ≤ (y7.fields.length:Int))) <| cal (zbd ((y7.fields.take ((y7.fields.length:Int)).toNat).drop (q9).toNat) a_c y2.1) fun y13=>some (y2.1,(!y13.1),y13.2))))

def zhm (a_y:GItem) (a_a1:Int):Option (Bool) :=
  some ((decide (a_y.number=a_a1)))

def zaK (a_s:(List GItem)) (zdl:Int):Option (Int) :=
  lp (ι:=Int) (fun L2 q1=>br (decide (q1 < (a_s.length:Int))) (cal (getI a_s q1) fun y6=>cal (zhm y6 zdl) fun y7=>br y7 (some (q1)) (ck ((q1 + (1:Int))) <| L2 ((q1 + (1:Int))))) (some ((-1:Int)))) (((0:Int)))

def zdr (a_x:GTyp) (a_n_:Int):Option (Int) :=
  cal (zaK a_x.items a_n_) fun y1=>some (y1)

def ziy (a_b:(List UInt8)):Option (Bool) :=
  jp (ι:=Bool) (fun J2=>br (decide ((0:Int) < (a_b.length:Int))) (J2 ((decide ((a_b.length:Int) ≤ (70000:Int))))) (J2 (false))) (fun q1=>some (q1))

def zcF (a_c:GChk) (a_i:Int) (a_v:Val):Option (Bool × GChk) :=
  cal (getI a_c.tabled.t.types a_i) fun y1=>jp (ι:=Bool) (fun J4=>br (!y1.more) (J4 (true)) (jp (ι:=Bool) (fun J7=>br (!(decide (y1.kind=(9:Int)))) (J7 ((!decide (y1.kind=(3:Int))))) (J7 (false))) (fun q6=>J4 (q6)))) (fun q3=>jp (ι:=Bool) (fun J10=>br q3 (J10 (true)) (ck (((a_v.l.length:Int) + (a_v.more.length:Int))) <| J10 ((decide ((0:Int) < ((a_v.l.length:Int) + (a_v.more.length:Int))))))) (fun q9=>br q9 (some (false,a_c)) (br a_c.bare (jp (ι:=Bool) (fun J14=>br (decide (a_v.n=(0:Int))) (J14 ((decide ((a_v.b.length:Int)=(0:Int))))) (J14 (false))) (fun q13=>jp (ι:=Bool) (fun J17=>br q13 (J17 ((decide (a_v.rule=(0:Int))))) (J17 (false))) (fun q16=>some (q16,a_c)))) (ck (((y1.items.length:Int) + (y1.fields.length:Int))) <| ck ((((y1.items.length:Int) + (y1.fields.length:Int)) - y1.root)) <| jp (ι:=Bool) (fun J22=>br (decide (a_v.rule=(1:Int))) (J22 ((decide (y1.kind=(9:Int))))) (J22 (false))) (fun q21=>br q21 (cal (zcE a_c a_i a_v.b) fun y24=>jp (ι:=Bool) (fun J27=>br y24.2.1 (J27 ((decide (a_v.n=(0:Int))))) (J27 (false))) (fun q26=>some (q26,y24.2.2))) (br (decide (a_v.rule=(1:Int))) (jp (ι:=Bool) (fun J30=>br (decide ((a_v.b.length:Int)=(0:Int))) (cal (zdr y1 a_v.n) fun y32=>J30 ((decide (y32 < (0:Int))))) (J30 (false))) (fun q29=>some (q29,a_c))) (jp (ι:=Bool) (fun J34=>br (!decide (a_v.rule=(2:Int))) (J34 (true)) (J34 ((decide (a_v.n < (((y1.items.length:Int) + (y1.fields.length:Int)) - y1.root)))))) (fun q33=>jp (ι:=Bool) (fun J37=>br q33 (J37 (true)) (J37 ((decide ((1000:Int) ≤ a_v.n))))) (fun q36=>br q36 (some (false,a_c)) (br (decide (y1.kind=(9:Int))) (cal (ziy a_v.b) fun y39=>some (y39,a_c)) (some ((decide ((a_v.b.length:Int)=(0:Int))),a_c))))))))))))

def zbJ (a_v:Val) (zgZ:Int):Option (Bool) :=
  asr (decide (0 ≤ zgZ∧0 ≤ (1:Int))) <| jp (ι:=Bool) (fun J3=>br (!decide ((andI zgZ (1:Int))=(0:Int))) (J3 (true)) (J3 ((decide (a_v.n=(0:Int)))))) (fun q2=>jp (ι:=Bool) (fun J6=>br q2 (asr (decide (0 ≤ zgZ∧0 ≤ (2:Int))) <| jp (ι:=Bool) (fun J10=>br (!decide ((andI zgZ (2:Int))=(0:Int))) (J10 (true)) (J10 ((decide ((a_v.b.length:Int)=(0:Int)))))) (fun q9=>J6 (q9))) (J6 (false))) (fun q5=>jp (ι:=Bool) (fun J13=>br q5 (asr (decide (0 ≤ zgZ∧0 ≤ (4:Int))) <| jp (ι:=Bool) (fun J17=>br (!decide ((andI zgZ (4:Int))=(0:Int))) (J17 (true)) (J17 ((decide ((a_v.l.length:Int)=(0:Int)))))) (fun q16=>J13 (q16))) (J13 (false))) (fun q12=>jp (ι:=Bool) (fun J20=>br q12 (asr (decide (0 ≤ zgZ∧0 ≤ (8:Int))) <| jp (ι:=Bool) (fun J24=>br (!decide ((andI zgZ (8:Int))=(0:Int))) (J24 (true)) (jp (ι:=Bool) (fun J27=>br (decide (a_v.rule=(0:Int))) (J27 ((decide ((a_v.more.length:Int)=(0:Int))))) (J27 (false))) (fun q26=>J24 (q26)))) (fun q23=>J20 (q23))) (J20 (false))) (fun q19=>some (q19)))))

def zcV (a_c:GCon) (a_v:Int):Option (Bool) :=
  jp (ι:=Bool) (fun J2=>br (!a_c.has) (J2 (true)) (jp (ι:=Bool) (fun J5=>br (!a_c.hasLow) (J5 (true)) (J5 ((decide (a_c.low ≤ a_v))))) (fun q4=>jp (ι:=Bool) (fun J8=>br q4 (jp (ι:=Bool) (fun J11=>br (!a_c.hasHigh) (J11 (true)) (J11 ((decide (a_v ≤ a_c.high))))) (fun q10=>J8 (q10))) (J8 (false))) (fun q7=>J2 (q7))))) (fun q1=>some (q1))

def zcM (a_c:GChk) (a_x:GTyp) (a_v:Val):Option (Bool × GChk) :=
  cal (zbJ a_v (2:Int)) fun y1=>jp (ι:=Bool) (fun J3=>br y1 (J3 ((decide ((a_v.b.length:Int) ≤ (70000:Int))))) (J3 (false))) (fun q2=>jp (ι:=Bool) (fun J6=>br q2 (jp (ι:=Bool) (fun J9=>br a_x.con.more (J9 (true)) (cal (zcV a_x.con (a_v.b.length:Int)) fun y11=>J9 (y11))) (fun q8=>J6 (q8))) (J6 (false))) (fun q5=>jp (ι:=Bool) (fun J13=>br q5 (jp (ι:=Bool) (fun J16=>br (decide (a_x.kind=(5:Int))) (J16 (true)) (cal (zcW a_v.b) fun y18=>J16 (y18))) (fun q15=>J13 (q15))) (J13 (false))) (fun q12=>some (q12,a_c))))

def zf2 (a_t:GTab) (a_i:Int):Option (GTyp) :=
  jp (ι:=Bool) (fun J3=>br (decide (a_i < (0:Int))) (J3 (true)) (J3 ((decide ((a_t.types.length:Int) ≤ a_i))))) (fun q2=>br q2 (some ((GTyp.mk (0:Int) ([]:(List Tag)) (GCon.mk false false false false (0:Int) (0:Int)) ([]:(List GItem)) ([]:(List GFld)) (0:Int) false (0:Int)))) (cal (getI a_t.types a_i) fun y5=>some (y5)))

def zfl (zgp:Int) (a_to:Int):Option ((List Int)) :=
  lp (ι:=(List Int) × Int) (fun L4 q3=>br (decide (q3.2 < a_to)) (asr (Nat.ble (q3.1.length + ([q3.2]:(List Int)).length) 68719476736) <| ck ((q3.2 + (1:Int))) <| L4 ((q3.1 ++ ([q3.2]:(List Int))),(q3.2 + (1:Int)))) (some (q3.1))) ((([]:(List Int)),zgp))

def zeY (a_t:GTab) (a_i:Int):Option ((List (List Int))) :=
  cal (zf2 a_t a_i) fun y3=>jp (ι:=Bool) (fun J6=>br (!decide (y3.kind=(7:Int))) (J6 ((!decide (y3.kind=(8:Int))))) (J6 (false))) (fun q5=>jp (ι:=Bool) (fun J9=>br q5 (J9 ((!decide (y3.kind=(9:Int))))) (J9 (false))) (fun q8=>br q8 (some (([]:(List (List Int))))) (cal (zfl (max y3.root (0:Int)) (y3.fields.length:Int)) fun y15=>lp (ι:=(List (List Int)) × Int) (fun L18 q17=>br (decide (q17.2 < ((y15.length:Nat):Int))) (jp (ι:=(List (List Int))) (fun J50=>asr (decide (0 ≤ q17.2∧q17.2 < ((y15.length:Nat):Int))) <| cal (y15[q17.2.toNat]?) fun y52=>ck ((((q17.1.length:Nat):Int) - (1:Int))) <| cal (getI y3.fields y52) fun y54=>jp (ι:=Bool) (fun J56=>br (!decide (y3.kind=(9:Int))) (J56 ((decide ((0:Int) < y54.group)))) (J56 (false))) (fun q55=>jp (ι:=Bool) (fun J59=>br q55 (J59 ((decide ((0:Int) ≤ (((q17.1.length:Nat):Int) - (1:Int)))))) (J59 (false))) (fun q58=>jp (ι:=Bool) (fun J62=>br q58 (ck ((y52 - (1:Int))) <| cal (getI y3.fields (y52 - (1:Int))) fun y65=>J62 ((decide (y65.group=y54.group)))) (J62 (false))) (fun q61=>br q61 (asr (decide (0 ≤ (((q17.1.length:Nat):Int) - (1:Int))∧(((q17.1.length:Nat):Int) - (1:Int)) < ((q17.1.length:Nat):Int))) <| asr (decide ((((q17.1.length:Nat):Int) - (1:Int)).toNat + 1=q17.1.length)) <| cal (q17.1[(((q17.1.length:Nat):Int) - (1:Int)).toNat]?) fun y68=>asr (Nat.ble (y68.length + ([y52]:(List Int)).length) 68719476736) <| asr (decide (0 ≤ (((q17.1.length:Nat):Int) - (1:Int))∧(((q17.1.length:Nat):Int) - (1:Int)) < ((q17.1.length:Nat):Int))) <| asr (decide ((((q17.1.length:Nat):Int) - (1:Int)).toNat + 1=q17.1.length)) <| cal (q17.1[(((q17.1.length:Nat):Int) - (1:Int)).toNat]?) fun y74=>J50 ((q17.1.set ((((q17.1.length:Nat):Int) - (1:Int)).toNat) (y68 ++ ([y52]:(List Int)))))) (asr (Nat.ble (q17.1.length + ([([y52]:(List Int))]:(List (List Int))).length) 68719476736) <| J50 ((q17.1 ++ [([y52]:(List Int))]))))))) (fun q49=>ck ((q17.2 + (1:Int))) <| L18 (q49,(q17.2 + (1:Int))))) (some (q17.1))) ((([]:(List (List Int))),(0:Int))))))

def zlG (a_a:Tag) (a_b:Tag):Option (Bool) :=
  br (!decide (a_a.cls=a_b.cls)) (some ((decide (a_a.cls < a_b.cls)))) (some ((decide (a_a.num < a_b.num))))

def zdo (a_c:GChk) (a_i:Int) (a_v:Val):Option (Bool × GChk) :=
  cal (getI a_c.tabled.t.types a_i) fun y1=>br (decide ((a_v.more.length:Int)=(0:Int))) (some ((decide (a_v.rule=(0:Int))),a_c)) (jp (ι:=Bool) (fun J4=>br (!y1.more) (J4 (true)) (jp (ι:=Bool) (fun J7=>br (!decide (a_v.rule=(1:Int))) (J7 ((!decide (a_v.rule=(2:Int))))) (J7 (false))) (fun q6=>J4 (q6)))) (fun q3=>br q3 (some (false,a_c)) (cal (zeY a_c.tabled.t a_i) fun y9=>lp (ι:=Int × Int × Tag × GChk) (fun L12 q11=>br (decide (q11.2.1 < (a_v.more.length:Int))) (jp (ι:=Int × Tag × GChk) (fun J42=>cal (getI a_v.more q11.2.1) fun y43=>br (decide (a_v.rule=(2:Int))) (jp (ι:=Bool) (fun J46=>br (decide (y43.n < q11.1)) (J46 (true)) (J46 ((decide ((1000:Int) ≤ y43.n))))) (fun q45=>jp (ι:=Bool) (fun J49=>br q45 (J49 (true)) (cal (ziy y43.b) fun y51=>J49 ((!y51)))) (fun q48=>br q48 (some (false,q11.2.2.2)) (ck ((y43.n + (1:Int))) <| J42 ((y43.n + (1:Int)),q11.2.2.1,q11.2.2.2))))) (cal (zcE q11.2.2.2 a_i y43.b) fun y53=>jp (ι:=Bool) (fun J56=>br (!y53.2.1) (J56 (true)) (J56 ((!decide (y43.n=(0:Int)))))) (fun q55=>jp (ι:=Bool) (fun J59=>br q55 (J59 (true)) (jp (ι:=Bool) (fun J62=>br (decide (y1.kind=(8:Int))) (J62 ((decide ((0:Int) < q11.2.1)))) (J62 (false))) (fun q61=>jp (ι:=Bool) (fun J65=>br q61 (cal (zlG q11.2.2.1 y53.1) fun y67=>J65 ((!y67))) (J65 (false))) (fun q64=>J59 (q64))))) (fun q58=>br q58 (some (false,y53.2.2)) (J42 (q11.1,y53.1,y53.2.2)))))) (fun q41=>ck ((q11.2.1 + (1:Int))) <| L12 (q41.1,(q11.2.1 + (1:Int)),q41.2.1,q41.2.2))) (some (true,q11.2.2.2))) (((y9.length:Int),(0:Int),Tag.zero,a_c)))))

def zdp (a_v:Val):Option (Bool) :=
  jp (ι:=Bool) (fun J2=>br (decide (a_v.kind=(0:Int))) (cal (zbJ a_v (0:Int)) fun y4=>J2 (y4)) (J2 (false))) (fun q1=>some (q1))

def zhg (a_a:(List UInt8)) (a_b:(List UInt8)):Option (Bool) :=
  some ((decide ((Str.mk a_a)=(Str.mk a_b))))

def zet (a_a:Raw) (a_b:Raw):Option (Bool) :=
  jp (ι:=Bool) (fun J2=>br (decide (a_a.n=a_b.n)) (cal (zhg a_a.b a_b.b) fun y4=>J2 (y4)) (J2 (false))) (fun q1=>some (q1))

def zaw (a_s1:(List Raw)) (a_s2:(List Raw)):Option (Bool) :=
  br (!decide ((a_s1.length:Int)=(a_s2.length:Int))) (some (false)) (lp (ι:=Int) (fun L2 q1=>br (decide (q1 < (a_s1.length:Int))) (cal (getI a_s1 q1) fun y9=>cal (getI a_s2 q1) fun y11=>cal (zet y9 y11) fun y13=>br (!y13) (some (false)) (ck ((q1 + (1:Int))) <| L2 ((q1 + (1:Int))))) (some (true))) (((0:Int))))

def ze5 (zdk:Val→Val→Option (Bool)) (zM:(List Val)→(List Val)→Option (Bool)) (a_a:Val) (a_b:Val):Option (Bool) :=
  jp (ι:=Bool) (fun J2=>br (decide (a_a.kind=a_b.kind)) (J2 ((decide (a_a.n=a_b.n)))) (J2 (false))) (fun q1=>jp (ι:=Bool) (fun J5=>br q1 (cal (zhg a_a.b a_b.b) fun y7=>J5 (y7)) (J5 (false))) (fun q4=>jp (ι:=Bool) (fun J9=>br q4 (cal (zM a_a.l a_b.l) fun y11=>J9 (y11)) (J9 (false))) (fun q8=>jp (ι:=Bool) (fun J13=>br q8 (J13 ((decide (a_a.rule=a_b.rule)))) (J13 (false))) (fun q12=>jp (ι:=Bool) (fun J16=>br q12 (cal (zaw a_a.more a_b.more) fun y18=>J16 (y18)) (J16 (false))) (fun q15=>some (q15))))))
def zae (zdk:Val→Val→Option (Bool)) (zM:(List Val)→(List Val)→Option (Bool)) (a_s1:(List Val)) (a_s2:(List Val)):Option (Bool) :=
  br (!decide ((a_s1.length:Int)=(a_s2.length:Int))) (some (false)) (lp (ι:=Int) (fun L2 q1=>br (decide (q1 < (a_s1.length:Int))) (cal (getI a_s1 q1) fun y9=>cal (getI a_s2 q1) fun y11=>cal (zdk y9 y11) fun y13=>br (!y13) (some (false)) (ck ((q1 + (1:Int))) <| L2 ((q1 + (1:Int))))) (some (true))) (((0:Int))))
def zgT:Nat→(Val→Val→Option (Bool)) × ((List Val)→(List Val)→Option (Bool))
  | 0=>(fun _ _=>none,fun _ _=>none)
  | n + 1=>let p:=zgT n;(ze5 p.1 p.2,zae p.1 p.2)
def zeI (n:Nat):Val→Val→Option (Bool):=(zgT n).1
def zaD (n:Nat):(List Val)→(List Val)→Option (Bool):=(zgT n).2

def zcd (a_c:GChk) (a_i:Int) (a_v:Val):Option (Bool × GChk) :=
  cal (getI a_c.tabled.t.types a_i) fun y1=>cal (zeY a_c.tabled.t a_i) fun y3=>lp (ι:=Int) (fun L5 q4=>br (decide (q4 < (y3.length:Int))) (jp (ι:=Unit) (fun J49=>cal (getI y3 q4) fun y50=>cal (getI y50 (0:Int)) fun y51=>cal (getI y1.fields y51) fun y52=>br (decide (y52.group=(0:Int))) (J49 ()) (lp (ι:=Bool × Bool × Int) (fun L54 q53=>br (decide (q53.2.2 < (y50.length:Int))) (cal (getI y50 q53.2.2) fun y67=>cal (getI a_v.l y67) fun y68=>cal (zdp y68) fun y69=>jp (ι:=Bool) (fun J71=>br q53.1 (J71 (true)) (J71 ((!y69)))) (fun q70=>jp (ι:=Bool) (fun J74=>br q53.2.1 (J74 (true)) (jp (ι:=Bool) (fun J77=>br (!(!y69)) (cal (getI y1.fields y67) fun y79=>J77 ((!y79.optional))) (J77 (false))) (fun q76=>jp (ι:=Bool) (fun J81=>br q76 (cal (getI y1.fields y67) fun y83=>J81 ((!y83.has))) (J81 (false))) (fun q80=>J74 (q80))))) (fun q73=>ck ((q53.2.2 + (1:Int))) <| L54 (q70,q73,(q53.2.2 + (1:Int)))))) (jp (ι:=Bool) (fun J86=>br q53.1 (J86 (q53.2.1)) (J86 (false))) (fun q85=>br q85 (some (false,a_c)) (J49 ())))) ((false,false,(0:Int))))) (fun q48=>ck ((q4 + (1:Int))) <| L5 ((q4 + (1:Int))))) (some (true,a_c))) (((0:Int)))

def zbL (zP:Val→GChk→GTyp→Int→Option (Bool × GChk)) (zS:GChk→Int→Val→Int→Option (Bool × GChk)) (zY:GChk→GTyp→Val→Int→Option (Bool × GChk)) (zt:(List Val)→GChk→GTyp→Int→Option (Bool × GChk)) (zu:(List Val)→GChk→GTyp→Int→Option (Int × GChk)) (zR:GChk→Int→Val→Int→Option (Bool × GChk)) (a_w_:Val) (a_a1:GChk) (a_a2:GTyp) (a_a3:Int):Option (Bool × GChk) :=
  ck ((a_a3 + (1:Int))) <| cal (zS a_a1 a_a2.of a_w_ (a_a3 + (1:Int))) fun y2=>some ((!y2.1),y2.2)
def zbp (zP:Val→GChk→GTyp→Int→Option (Bool × GChk)) (zS:GChk→Int→Val→Int→Option (Bool × GChk)) (zY:GChk→GTyp→Val→Int→Option (Bool × GChk)) (zt:(List Val)→GChk→GTyp→Int→Option (Bool × GChk)) (zu:(List Val)→GChk→GTyp→Int→Option (Int × GChk)) (zR:GChk→Int→Val→Int→Option (Bool × GChk)) (a_c:GChk) (a_i:Int) (a_v:Val) (zL:Int):Option (Bool × GChk) :=
  jp (ι:=Bool) (fun J2=>br (decide (a_i < (0:Int))) (J2 (true)) (J2 ((decide ((a_c.tabled.t.types.length:Int) ≤ a_i))))) (fun q1=>jp (ι:=Bool) (fun J5=>br q1 (J5 (true)) (J5 ((decide ((17:Int) < zL))))) (fun q4=>br q4 (some (false,a_c)) (cal (getI a_c.tabled.t.types a_i) fun y7=>br (decide (a_v.kind=(12:Int))) (cal (zcF a_c a_i a_v) fun y9=>some (y9.1,y9.2)) (br (!decide (a_v.kind=y7.kind)) (some (false,a_c)) (br (decide (y7.kind=(1:Int))) (cal (zbJ a_v (1:Int)) fun y10=>jp (ι:=Bool) (fun J12=>br y10 (jp (ι:=Bool) (fun J15=>br (decide (a_v.n=(0:Int))) (J15 (true)) (J15 ((decide (a_v.n=(1:Int)))))) (fun q14=>J12 (q14))) (J12 (false))) (fun q11=>some (q11,a_c))) (br (decide (y7.kind=(2:Int))) (cal (zbJ a_v (1:Int)) fun y17=>jp (ι:=Bool) (fun J19=>br y17 (jp (ι:=Bool) (fun J22=>br y7.con.more (J22 (true)) (cal (zcV y7.con a_v.n) fun y24=>J22 (y24))) (fun q21=>J19 (q21))) (J19 (false))) (fun q18=>some (q18,a_c))) (br (decide (y7.kind=(3:Int))) (cal (zbJ a_v (1:Int)) fun y25=>jp (ι:=Bool) (fun J27=>br y25 (cal (zdr y7 a_v.n) fun y29=>J27 ((decide ((0:Int) ≤ y29)))) (J27 (false))) (fun q26=>some (q26,a_c))) (br (decide (y7.kind=(4:Int))) (cal (zbJ a_v (0:Int)) fun y30=>some (y30,a_c)) (jp (ι:=Bool) (fun J32=>br (decide (y7.kind=(5:Int))) (J32 ((decide (y7.kind=(5:Int))))) (J32 ((decide (y7.kind=(6:Int)))))) (fun q31=>br q31 (cal (zcM a_c y7 a_v) fun y33=>some (y33.1,y33.2)) (br (decide (y7.kind=(10:Int))) (cal (zY a_c y7 a_v zL) fun y34=>some (y34.1,y34.2)) (br (decide (y7.kind=(9:Int))) (cal (zbJ a_v (5:Int)) fun y35=>jp (ι:=Bool) (fun J37=>br y35 (J37 ((decide ((0:Int) ≤ a_v.n)))) (J37 (false))) (fun q36=>jp (ι:=Bool) (fun J40=>br q36 (J40 ((decide (a_v.n < (y7.fields.length:Int))))) (J40 (false))) (fun q39=>jp (ι:=Bool) (fun J43=>br q39 (J43 ((decide ((a_v.l.length:Int)=(1:Int))))) (J43 (false))) (fun q42=>jp (ι:=Bool × GChk) (fun J46=>br q42 (cal (getI y7.fields a_v.n) fun y48=>cal (getI a_v.l (0:Int)) fun y49=>ck ((zL + (1:Int))) <| cal (zS a_c y48.ty y49 (zL + (1:Int))) fun y51=>J46 (y51.1,y51.2)) (J46 (false,a_c))) (fun q45=>some (q45.1,q45.2)))))) (jp (ι:=Bool) (fun J53=>br (decide (y7.kind=(7:Int))) (J53 ((decide (y7.kind=(7:Int))))) (J53 ((decide (y7.kind=(8:Int)))))) (fun q52=>br q52 (cal (zR a_c a_i a_v zL) fun y54=>some (y54.1,y54.2)) (some (false,a_c))))))))))))))))
def zce (zP:Val→GChk→GTyp→Int→Option (Bool × GChk)) (zS:GChk→Int→Val→Int→Option (Bool × GChk)) (zY:GChk→GTyp→Val→Int→Option (Bool × GChk)) (zt:(List Val)→GChk→GTyp→Int→Option (Bool × GChk)) (zu:(List Val)→GChk→GTyp→Int→Option (Int × GChk)) (zR:GChk→Int→Val→Int→Option (Bool × GChk)) (a_c:GChk) (a_x:GTyp) (a_v:Val) (zL:Int):Option (Bool × GChk) :=
  cal (zbJ a_v (4:Int)) fun y1=>jp (ι:=Bool) (fun J3=>br y1 (jp (ι:=Bool) (fun J6=>br a_x.con.more (J6 (true)) (cal (zcV a_x.con (a_v.l.length:Int)) fun y8=>J6 (y8))) (fun q5=>J3 (q5))) (J3 (false))) (fun q2=>jp (ι:=Bool × GChk) (fun J10=>br q2 (cal (zt a_v.l a_c a_x zL) fun y12=>J10 ((!y12.1),y12.2)) (J10 (false,a_c))) (fun q9=>some (q9.1,q9.2)))
def zav (zP:Val→GChk→GTyp→Int→Option (Bool × GChk)) (zS:GChk→Int→Val→Int→Option (Bool × GChk)) (zY:GChk→GTyp→Val→Int→Option (Bool × GChk)) (zt:(List Val)→GChk→GTyp→Int→Option (Bool × GChk)) (zu:(List Val)→GChk→GTyp→Int→Option (Int × GChk)) (zR:GChk→Int→Val→Int→Option (Bool × GChk)) (a_s:(List Val)) (zdl:GChk) (zep:GTyp) (ziV:Int):Option (Bool × GChk) :=
  cal (zu a_s zdl zep ziV) fun y1=>some ((decide ((0:Int) ≤ y1.1)),y1.2)
def zaE (zP:Val→GChk→GTyp→Int→Option (Bool × GChk)) (zS:GChk→Int→Val→Int→Option (Bool × GChk)) (zY:GChk→GTyp→Val→Int→Option (Bool × GChk)) (zt:(List Val)→GChk→GTyp→Int→Option (Bool × GChk)) (zu:(List Val)→GChk→GTyp→Int→Option (Int × GChk)) (zR:GChk→Int→Val→Int→Option (Bool × GChk)) (a_s:(List Val)) (zdl:GChk) (zep:GTyp) (ziV:Int):Option (Int × GChk) :=
  lp (ι:=Int × GChk) (fun L2 q1=>br (decide (q1.1 < (a_s.length:Int))) (cal (getI a_s q1.1) fun y6=>cal (zP y6 q1.2 zep ziV) fun y7=>br y7.1 (some (q1.1,y7.2)) (ck ((q1.1 + (1:Int))) <| L2 ((q1.1 + (1:Int)),y7.2))) (some ((-1:Int),q1.2))) (((0:Int),zdl))
def zbO (zP:Val→GChk→GTyp→Int→Option (Bool × GChk)) (zS:GChk→Int→Val→Int→Option (Bool × GChk)) (zY:GChk→GTyp→Val→Int→Option (Bool × GChk)) (zt:(List Val)→GChk→GTyp→Int→Option (Bool × GChk)) (zu:(List Val)→GChk→GTyp→Int→Option (Int × GChk)) (zR:GChk→Int→Val→Int→Option (Bool × GChk)) (a_c:GChk) (a_i:Int) (a_v:Val) (zL:Int):Option (Bool × GChk) :=
  cal (getI a_c.tabled.t.types a_i) fun y1=>cal (zbJ a_v (12:Int)) fun y3=>jp (ι:=Bool) (fun J5=>br (!y3) (J5 (true)) (J5 ((!decide ((a_v.l.length:Int)=(y1.fields.length:Int)))))) (fun q4=>jp (ι:=Bool × GChk) (fun J8=>br q4 (J8 (true,a_c)) (cal (zdo a_c a_i a_v) fun y10=>J8 ((!y10.1),y10.2))) (fun q7=>br q7.1 (some (false,q7.2)) (lp (ι:=Int × GChk) (fun L12 q11=>br (decide (q11.1 < (y1.fields.length:Int))) (jp (ι:=GChk) (fun J36=>cal (getI y1.fields q11.1) fun y37=>cal (getI a_v.l q11.1) fun y39=>br (decide (y39.kind=(0:Int))) (cal (zdp y39) fun y41=>jp (ι:=Bool) (fun J43=>br (!y41) (J43 (true)) (cal (zeX y1 q11.1) fun y45=>J43 ((!y45)))) (fun q42=>br q42 (some (false,q11.2)) (J36 (q11.2)))) (ck ((zL + (1:Int))) <| cal (zS q11.2 y37.ty y39 (zL + (1:Int))) fun y47=>jp (ι:=Bool) (fun J49=>br (!y47.1) (J49 (true)) (jp (ι:=Bool) (fun J52=>br y37.has (cal (zeI fuel y39 y37.dflt) fun y54=>J52 (y54)) (J52 (false))) (fun q51=>J49 (q51)))) (fun q48=>br q48 (some (false,y47.2)) (J36 (y47.2))))) (fun q35=>ck ((q11.1 + (1:Int))) <| L12 ((q11.1 + (1:Int)),q35))) (cal (zcd q11.2 a_i a_v) fun y56=>some (y56.1,y56.2))) (((0:Int),q7.2)))))
def zaS:Nat→(Val→GChk→GTyp→Int→Option (Bool × GChk)) × (GChk→Int→Val→Int→Option (Bool × GChk)) × (GChk→GTyp→Val→Int→Option (Bool × GChk)) × ((List Val)→GChk→GTyp→Int→Option (Bool × GChk)) × ((List Val)→GChk→GTyp→Int→Option (Int × GChk)) × (GChk→Int→Val→Int→Option (Bool × GChk))
  | 0=>(fun _ _ _ _=>none,fun _ _ _ _=>none,fun _ _ _ _=>none,fun _ _ _ _=>none,fun _ _ _ _=>none,fun _ _ _ _=>none)
  | n + 1=>let p:=zaS n;(zbL p.1 p.2.1 p.2.2.1 p.2.2.2.1 p.2.2.2.2.1 p.2.2.2.2.2,zbp p.1 p.2.1 p.2.2.1 p.2.2.2.1 p.2.2.2.2.1 p.2.2.2.2.2,zce p.1 p.2.1 p.2.2.1 p.2.2.2.1 p.2.2.2.2.1 p.2.2.2.2.2,zav p.1 p.2.1 p.2.2.1 p.2.2.2.1 p.2.2.2.2.1 p.2.2.2.2.2,zaE p.1 p.2.1 p.2.2.1 p.2.2.2.1 p.2.2.2.2.1 p.2.2.2.2.2,zbO p.1 p.2.1 p.2.2.1 p.2.2.2.1 p.2.2.2.2.1 p.2.2.2.2.2)
def za1 (n:Nat):Val→GChk→GTyp→Int→Option (Bool × GChk):=(zaS n).1
def zaO (n:Nat):GChk→Int→Val→Int→Option (Bool × GChk):=(zaS n).2.1
def zbq (n:Nat):GChk→GTyp→Val→Int→Option (Bool × GChk):=(zaS n).2.2.1
def zaf (n:Nat):(List Val)→GChk→GTyp→Int→Option (Bool × GChk):=(zaS n).2.2.2.1
def zai (n:Nat):(List Val)→GChk→GTyp→Int→Option (Int × GChk):=(zaS n).2.2.2.2.1
def za3 (n:Nat):GChk→Int→Val→Int→Option (Bool × GChk):=(zaS n).2.2.2.2.2

def zeq (zgo:Val→Option (Int)) (a_v:Val):Option (Int) :=
  lp (ι:=Int × Int) (fun L2 q1=>br (decide (q1.2 < (a_v.l.length:Int))) (cal (getI a_v.l q1.2) fun y8=>cal (zgo y8) fun y10=>ck ((q1.1 + y10)) <| ck ((q1.2 + (1:Int))) <| L2 ((q1.1 + y10),(q1.2 + (1:Int)))) (some (q1.1))) (((1:Int),(0:Int)))
def ziE:Nat→(Val→Option (Int))
  | 0=>(fun _=>none)
  | n + 1=>let p:=ziE n;(zeq p)
def zf6 (n:Nat):Val→Option (Int):=(ziE n)

def zdU (a_t:GTab) (a_i:Int) (a_v:Val):Option (Bool) :=
  cal (zaO fuel (GChk.mk (GTbd.mk a_t) true) a_i a_v (1:Int)) fun y2=>jp (ι:=Bool) (fun J4=>br y2.1 (cal (zf6 fuel a_v) fun y6=>J4 ((decide (y6 ≤ (5000:Int))))) (J4 (false))) (fun q3=>some (q3))

def zbk (a_s:(List UInt8)):Option ((List UInt8)) :=
  br a_s.isEmpty (some (([]:(List UInt8)))) (asr (Nat.ble (([]:(List UInt8)).length + a_s.length) 68719476736) <| some ((([]:(List UInt8)) ++ a_s)))

def zev (zgq:Val→Option (Val)) (a_v:Val):Option (Val) :=
  br (decide (a_v.kind=(12:Int))) (some ((Val.mk (12:Int) (0:Int) ([]:(List UInt8)) ([]:(List Val)) (0:Int) ([]:(List Raw))))) (jp (ι:=Val) (fun J3=>cal (zbk a_v.b) fun y4=>J3 ((Val.mk a_v.kind a_v.n y4 ([]:(List Val)) (0:Int) ([]:(List Raw))))) (fun q2=>lp (ι:=Int × Val) (fun L12 q11=>br (decide (q11.1 < (a_v.l.length:Int))) (cal (getI a_v.l q11.1) fun y24=>cal (zgq y24) fun y26=>asr (Nat.ble (q11.2.l.length + ([y26]:(List Val)).length) 68719476736) <| ck ((q11.1 + (1:Int))) <| L12 ((q11.1 + (1:Int)),(Val.mk q11.2.kind q11.2.n q11.2.b (q11.2.l ++ ([y26]:(List Val))) q11.2.rule q11.2.more))) (some (q11.2))) (((0:Int),q2))))
def ziJ:Nat→(Val→Option (Val))
  | 0=>(fun _=>none)
  | n + 1=>let p:=ziJ n;(zev p)
def zfV (n:Nat):Val→Option (Val):=(ziJ n)

def zcq (a_s:GSid) (a_i:Int) (a_k:Int):Option (GTyp × GTyp × Bool) :=
  jp (ι:=Bool) (fun J4=>br (decide (a_i < (0:Int))) (J4 (true)) (J4 ((decide ((a_s.a.types.length:Int) ≤ a_i))))) (fun q3=>jp (ι:=Bool) (fun J7=>br q3 (J7 (true)) (J7 ((decide (a_k < (0:Int)))))) (fun q6=>jp (ι:=Bool) (fun J10=>br q6 (J10 (true)) (J10 ((decide ((a_s.b.types.length:Int) ≤ a_k))))) (fun q9=>br q9 (some ((GTyp.mk (0:Int) ([]:(List Tag)) (GCon.mk false false false false (0:Int) (0:Int)) ([]:(List GItem)) ([]:(List GFld)) (0:Int) false (0:Int)),(GTyp.mk (0:Int) ([]:(List Tag)) (GCon.mk false false false false (0:Int) (0:Int)) ([]:(List GItem)) ([]:(List GFld)) (0:Int) false (0:Int)),false)) (cal (getI a_s.a.types a_i) fun y12=>cal (getI a_s.b.types a_k) fun y13=>cal (getI a_s.a.types a_i) fun y14=>cal (getI a_s.b.types a_k) fun y15=>some (y12,y13,(decide (y14.kind=y15.kind)))))))

def zbl (zaV:GWlk→GTyp→GTyp→Val→Option ((List Val) × GWlk)) (zaH:GWlk→Int→Int→Val→Option (Val × GWlk)) (a_w_:GWlk) (a_x:GTyp) (a_y:GTyp) (a_v:Val):Option ((List Val) × GWlk) :=
  jp (ι:=Bool) (fun J3=>br (!decide ((a_x.fields.length:Int)=(a_y.fields.length:Int))) (jp (ι:=Bool) (fun J6=>br (!a_x.more) (J6 (true)) (J6 ((!a_y.more)))) (fun q5=>J3 (q5))) (J3 (false))) (fun q2=>br q2 (some (([]:(List Val)),{ a_w_ with e:=(14:Int) })) (asr (decide (0 ≤ (a_y.fields.length:Int)∧(a_y.fields.length:Int) ≤ 68719476736)) <| lp (ι:=(List Val) × Int × GWlk) (fun L12 q11=>br (decide (q11.2.1 < (a_y.fields.length:Int))) (jp (ι:=(List Val) × GWlk) (fun J29=>cal (getI a_y.fields q11.2.1) fun y30=>jp (ι:=Bool) (fun J33=>br (decide (q11.2.1 < (a_x.fields.length:Int))) (cal (getI a_v.l q11.2.1) fun y35=>cal (zdp y35) fun y36=>J33 ((!y36))) (J33 (false))) (fun q32=>br q32 (cal (getI a_x.fields q11.2.1) fun y37=>cal (getI a_v.l q11.2.1) fun y38=>cal (zaH q11.2.2 y37.ty y30.ty y38) fun y39=>asr (decide (0 ≤ q11.2.1∧q11.2.1 < ((q11.1.length:Nat):Int))) <| cal (q11.1[q11.2.1.toNat]?) fun y41=>J29 ((q11.1.set q11.2.1.toNat y39.1),y39.2)) (J29 (q11.1,q11.2.2)))) (fun q28=>ck ((q11.2.1 + (1:Int))) <| L12 (q28.1,(q11.2.1 + (1:Int)),q28.2))) (some (q11.1,q11.2.2))) (((List.replicate ((a_y.fields.length:Int)).toNat (Val.mk (0:Int) (0:Int) ([]:(List UInt8)) ([]:(List Val)) (0:Int) ([]:(List Raw)))),(0:Int),a_w_))))
def zbP (zaV:GWlk→GTyp→GTyp→Val→Option ((List Val) × GWlk)) (zaH:GWlk→Int→Int→Val→Option (Val × GWlk)) (a_w_:GWlk) (a_i:Int) (a_k:Int) (a_v:Val):Option (Val × GWlk) :=
  br (decide (a_v.kind=(12:Int))) (some ((Val.mk (12:Int) (0:Int) ([]:(List UInt8)) ([]:(List Val)) (0:Int) ([]:(List Raw))),a_w_)) (cal (zcq a_w_.sides a_i a_k) fun y3=>br (!y3.2.2) (some ((Val.mk (0:Int) (0:Int) ([]:(List UInt8)) ([]:(List Val)) (0:Int) ([]:(List Raw))),{ a_w_ with e:=(14:Int) })) (jp (ι:=Val) (fun J7=>cal (zbk a_v.b) fun y8=>J7 ((Val.mk a_v.kind a_v.n y8 ([]:(List Val)) (0:Int) ([]:(List Raw))))) (fun q6=>jp (ι:=Val × GWlk) (fun J16=>br (decide (a_v.kind=(3:Int))) (cal (zdr y3.2.1 a_v.n) fun y17=>br (decide (y17 < (0:Int))) (some ((Val.mk (12:Int) (0:Int) ([]:(List UInt8)) ([]:(List Val)) (0:Int) ([]:(List Raw))),a_w_)) (J16 (q6,a_w_))) (br (decide (a_v.kind=(10:Int))) (lp (ι:=Int × Val × GWlk) (fun L19 q18=>br (decide (q18.1 < (a_v.l.length:Int))) (cal (getI a_v.l q18.1) fun y31=>cal (zaH q18.2.2 y3.1.of y3.2.1.of y31) fun y33=>asr (Nat.ble (q18.2.1.l.length + ([y33.1]:(List Val)).length) 68719476736) <| ck ((q18.1 + (1:Int))) <| L19 ((q18.1 + (1:Int)),(Val.mk q18.2.1.kind q18.2.1.n q18.2.1.b (q18.2.1.l ++ ([y33.1]:(List Val))) q18.2.1.rule q18.2.1.more),y33.2)) (J16 (q18.2.1,q18.2.2))) (((0:Int),q6,a_w_))) (br (decide (a_v.kind=(9:Int))) (br (decide ((y3.2.1.fields.length:Int) ≤ a_v.n)) (some ((Val.mk (12:Int) (0:Int) ([]:(List UInt8)) ([]:(List Val)) (0:Int) ([]:(List Raw))),a_w_)) (cal (getI y3.1.fields a_v.n) fun y43=>cal (getI y3.2.1.fields a_v.n) fun y44=>cal (getI a_v.l (0:Int)) fun y45=>cal (zaH a_w_ y43.ty y44.ty y45) fun y46=>J16 ((Val.mk q6.kind q6.n q6.b ([y46.1]:(List Val)) q6.rule q6.more),y46.2))) (jp (ι:=Bool) (fun J49=>br (decide (a_v.kind=(7:Int))) (J49 ((decide (a_v.kind=(7:Int))))) (J49 ((decide (a_v.kind=(8:Int)))))) (fun q48=>br q48 (cal (zaV a_w_ y3.1 y3.2.1 a_v) fun y50=>J16 ((Val.mk q6.kind q6.n q6.b y50.1 q6.rule q6.more),y50.2)) (J16 (q6,a_w_))))))) (fun q15=>some (q15.1,q15.2)))))
def zcH:Nat→(GWlk→GTyp→GTyp→Val→Option ((List Val) × GWlk)) × (GWlk→Int→Int→Val→Option (Val × GWlk))
  | 0=>(fun _ _ _ _=>none,fun _ _ _ _=>none)
  | n + 1=>let p:=zcH n;(zbl p.1 p.2,zbP p.1 p.2)
def zcG (n:Nat):GWlk→GTyp→GTyp→Val→Option ((List Val) × GWlk):=(zcH n).1
def zbo (n:Nat):GWlk→Int→Int→Val→Option (Val × GWlk):=(zcH n).2

def zb7 (a_a:GTab) (a_i:Int) (a_b:GTab) (a_k:Int) (a_v:Val):Option (Val × Int) :=
  cal (zdU a_a a_i a_v) fun y2=>jp (ι:=Bool) (fun J4=>br (!y2) (J4 (true)) (cal (zfV fuel a_v) fun y6=>cal (zeI fuel y6 a_v) fun y7=>J4 ((!y7)))) (fun q3=>br q3 (some ((Val.mk (0:Int) (0:Int) ([]:(List UInt8)) ([]:(List Val)) (0:Int) ([]:(List Raw))),(13:Int))) (cal (zbo fuel (GWlk.mk (GSid.mk a_a a_b) (0:Int)) a_i a_k a_v) fun y9=>br (!decide (y9.2.e=(0:Int))) (some ((Val.mk (0:Int) (0:Int) ([]:(List UInt8)) ([]:(List Val)) (0:Int) ([]:(List Raw))),y9.2.e)) (some (y9.1,(0:Int)))))

def zd4 :Option (Bool) :=
  cal (zbE (Str.mk [77,32,68,69,70,73,78,73,84,73,79,78,83,32,58,58,61,32,66,69,71,73,78,32,65,32,58,58,61,32,73,78,84,69,71,69,82,32,69,78,68])) fun y1=>cal (zb7 y1.1 (0:Int) y1.1 (0:Int) (Val.mk (2:Int) (5:Int) ([]:(List UInt8)) ([]:(List Val)) (0:Int) ([]:(List Raw)))) fun y3=>jp (ι:=Bool) (fun J6=>br y1.2 (J6 ((decide (y3.2=(0:Int))))) (J6 (false))) (fun q5=>jp (ι:=Bool) (fun J9=>br q5 (J9 ((decide (y3.1.n=(5:Int))))) (J9 (false))) (fun q8=>some (q8)))

def zdJ (zgn:Str) (zft:Str) (zcP:Int) (a_v:Val):Option (Bool) :=
  cal (zdV zgn zft zcP) fun y1=>jp (ι:=Bool) (fun J5=>br (!y1.2.2.2.2) (J5 (true)) (cal (zkG a_v (2000:Int)) fun y7=>J5 ((!y7)))) (fun q4=>jp (ι:=Bool) (fun J9=>br q4 (J9 (true)) (cal (ziS y1.2.2.1 y1.2.2.2.1 a_v) fun y11=>J9 ((!y11)))) (fun q8=>jp (ι:=Bool) (fun J13=>br q8 (J13 (true)) (cal (zi4 fuel a_v) fun y15=>J13 ((!y15)))) (fun q12=>br q12 (cal (zd4 ) fun y16=>some (y16)) (cal (zb7 y1.2.2.1 y1.2.2.2.1 y1.1 y1.2.1 a_v) fun y17=>cal (zd4 ) fun y19=>jp (ι:=Bool) (fun J21=>br (!y19) (J21 (true)) (J21 ((!decide (y17.2=(0:Int)))))) (fun q20=>br q20 (some (false)) (cal (zb7 y1.1 y1.2.1 y1.2.2.1 y1.2.2.2.1 y17.1) fun y23=>cal (zb7 y1.2.2.1 y1.2.2.2.1 y1.1 y1.2.1 y23.1) fun y25=>jp (ι:=Bool) (fun J28=>br (decide (y23.2=(0:Int))) (J28 ((decide (y25.2=(0:Int))))) (J28 (false))) (fun q27=>jp (ι:=Bool) (fun J31=>br q27 (cal (zey fuel y25.1 y17.1) fun y33=>J31 (y33)) (J31 (false))) (fun q30=>some (q30)))))))))
end Go.Proofs.Q


namespace Go.Proofs.Q
open Go.Sy
set_option linter.unusedVariables false

theorem T.and {β:Type} {R:β→Prop} {c d:Bool} {K:Bool→Option β} (hK:T R (K (c && d))):T R (Sy.jp (fun J=>Sy.br c (J d) (J false)) K):=by cases c <;> exact hK
theorem T.or {β:Type} {R:β→Prop} {c d:Bool} {K:Bool→Option β} (hK:T R (K (c || d))):T R (Sy.jp (fun J=>Sy.br c (J true) (J d)) K):=by cases c <;> exact hK
theorem T.andM {β:Type} {R:β→Prop} {c d:Bool} {K:Bool→Option β} {M:(Bool→Option β)→Option β} (h:c=true→T R (K d)→T R (M K)) (hK:T R (K (c && d))):T R (Sy.jp (fun J=>Sy.br c (M J) (J false)) K):=by
  cases c
  · exact hK
  · exact h rfl hK
theorem T.orM {β:Type} {R:β→Prop} {c d:Bool} {K:Bool→Option β} {M:(Bool→Option β)→Option β} (h:c=false→T R (K d)→T R (M K)) (hK:T R (K (c || d))):T R (Sy.jp (fun J=>Sy.br c (J true) (M J)) K):=by
  cases c
  · exact h rfl hK
  · exact hK
theorem zqa {α:Type} [DecidableEq α] {a b:List α} (h:a.length=b.length) (k:∀ i:Nat,i < a.length→a[i]?=b[i]?):a=b:=by
  refine List.ext_getElem? fun i=>?_
  rcases Nat.lt_or_ge i a.length with h1 | h1
  · exact k i h1
  · rw [List.getElem?_eq_none h1,List.getElem?_eq_none (by omega)]
theorem znA {α:Type} [DecidableEq α] {F:(Int→Option Bool)→Int→Option Bool} (a b:List α) (hl:a.length=b.length) (ha:a.length ≤ 1000000)
    (hF:∀ (L:Int→Option Bool) (q:Int),F L q=Sy.br (decide (q < (a.length:Int))) (Sy.cal (getI a q) fun y=>Sy.cal (getI b q) fun z=>Sy.br (!decide (y=z)) (some false) (Sy.ck (q + 1) <| L (q + 1))) (some true)) :
    Sy.lp F (0:Int)=some (decide (a=b)):=by
  refine T.eqs ?_
  refine T.lp (fun (q:Int)=>0 ≤ q∧q ≤ (a.length:Int)∧∀ i:Nat,(i:Int) < q→a[i]?=b[i]?) (fun (q:Int)=>((a.length:Int) - q).toNat) ⟨Int.le_refl _,by omega,fun i h=>by omega⟩ (by omega) fun L q ⟨h1,h2,h3⟩ hL=>?_
  rw [hF]
  refine T.br (fun hb=>?_) fun hb=>T.some ?_
  · have hb:=zOT hb
    refine T.get h1 hb fun y hy=>T.get h1 (by omega) fun z hz=>T.br (fun he=>T.some ?_) fun he=>T.ck (by omega) (hL _ ⟨by omega,by omega,fun i hi=>?_⟩ (by omega))
    · have he:y ≠ z:=by simpa using he
      refine (zDF fun e=>he ?_).symm
      subst e
      rw [hy] at hz;cases hz;rfl
    · have he:y=z:=by simpa using he
      rcases Int.lt_or_le (i:Int) q with h | h
      · exact h3 i h
      · have:i=q.toNat:=by omega
        rw [this,hy,hz,he]
  · have hb:=zOF hb
    exact (zDT (zqa hl fun i hi=>h3 i (by omega))).symm
theorem zs8 {α:Type} [DecidableEq α] {a b:List α} (h:¬ (a.length:Int)=b.length):false=decide (a=b):=(zDF fun e=>h (by rw [e])).symm
theorem zsL {a b:Nat} (h:(!decide ((a:Int)=(b:Int)))=false):a=b:=by
  have:(a:Int)=b:=by simpa using h
  omega
theorem zrO (a b:List Tag) (ha:a.length ≤ 1000000):zdy a b=some (decide (a=b)):=by
  refine T.eqs ?_
  unfold zdy
  refine T.eq (y:=decide (a=b)) (T.eqs ?_) (T.some rfl)
  unfold ze1
  refine T.br (fun h=>T.some (zs8 (by simpa using h))) fun h=>T.of (znA a b (zsL h) ha fun L q=>rfl) rfl
theorem zqb (a b:List GItem) (ha:a.length ≤ 1000000):zdd a b=some (decide (a=b)):=by
  refine T.eqs ?_
  unfold zdd
  refine T.eq (y:=decide (a=b)) (T.eqs ?_) (T.some rfl)
  unfold zew
  refine T.br (fun h=>T.some (zs8 (by simpa using h))) fun h=>T.of (znA a b (zsL h) ha fun L q=>rfl) rfl
def vsm (f g:Val):Bool:=decide (f.kind=g.kind) && decide (f.n=g.n) && decide (Str.mk f.b=Str.mk g.b) && decide ((0:Int)=g.l.length) && decide (f.rule=g.rule) && decide ((0:Int)=g.more.length)
theorem zo9 {α:Type} (b:List α) {F:(Int→Option Bool)→Int→Option Bool} (hF:∀ L,F L 0=some true):Sy.br (!decide (((([]:List α).length:Nat):Int)=(b.length:Int))) (some false) (Sy.lp F (0:Int))=some (decide ((0:Int)=b.length)):=by
  refine T.eqs ?_
  refine T.br (fun h=>T.some ?_) fun h=>?_
  · have h:¬ (0:Int)=b.length:=by simpa using h
    exact (zDF h).symm
  · have h:(0:Int)=b.length:=by simpa using h
    refine T.lp (fun (q:Int)=>q=0) (fun _=>1) rfl (by decide) fun L q hq _=>?_
    rw [hq,hF]
    exact T.some (zDT h).symm
theorem zrz (f g:Val) (hf:DOk f) {n:Nat} (hn:2 ≤ n):zey n f g=some (vsm f g):=by
  obtain ⟨n,rfl⟩:∃ n',n=n' + 2:=⟨n - 2,by omega⟩
  obtain ⟨h1,h2,h3,_⟩:=hf
  refine T.eqs ?_
  show T _ (zfM (zda (n + 1)) (zey (n + 1)) f g)
  unfold zfM
  refine T.and (T.andM (fun _ h=>T.eq (y:=decide (Str.mk f.b=Str.mk g.b)) rfl h) (T.andM (fun _ h=>T.eq (y:=decide ((0:Int)=g.l.length)) ?_ h) (T.and (T.andM (fun _ h=>T.eq (y:=decide ((0:Int)=g.more.length)) ?_ h) (T.some rfl)))))
  · rw [h2]
    show zbH (zda n) (zey n) _ _=_
    unfold zbH
    exact zo9 _ fun L=>rfl
  · rw [h3]
    unfold zdS
    exact zo9 _ fun L=>rfl
def tfind (b:GTab) (s:Str):Int:=if fnd b.names s < 0 then -1 else (b.roots[(fnd b.names s).toNat]?).getD 0
theorem zpj {b:GTab} (s:Str) (hb:TabOk b):zhA b s=some (tfind b s):=by
  refine T.eqs ?_
  unfold zhA
  have hr:=hb.roots
  have hn:=hb.names
  refine T.lp (fun (k:Int)=>0 ≤ k∧k ≤ (b.names.length:Int)∧fnd b.names s=fndFrom (b.names.drop k.toNat) s k) (fun (k:Int)=>((b.names.length:Int) - k).toNat) ⟨Int.le_refl _,by omega,rfl⟩ (by omega) fun L k ⟨h1,h2,h3⟩ hL=>?_
  refine T.and (T.br (fun hb=>?_) fun hb=>T.some ?_)
  · rw [Bool.and_eq_true] at hb
    have hb:=zOT hb.1
    refine T.get h1 hb fun y hy=>?_
    have hd:b.names.drop k.toNat=y :: b.names.drop (k.toNat + 1):=by
      rw [List.drop_eq_getElem_cons (by omega)]
      rw [List.getElem?_eq_getElem (by omega)] at hy
      rw [Option.some.inj hy]
    rw [hd] at h3
    unfold fndFrom at h3
    refine T.br (fun he=>T.get h1 (by omega) fun z hz=>T.some ?_) fun he=>T.ck (by omega) (hL _ ⟨by omega,by omega,?_⟩ (by omega))
    · rw [if_pos (zOT he)] at h3
      unfold tfind
      rw [h3,if_neg (by omega),hz];rfl
    · have e:(k + 1).toNat=k.toNat + 1:=by omega
      rw [h3,if_neg (zOF he),e]
  · have hk:¬ k < (b.names.length:Int):=by
      rw [Bool.and_eq_false_iff] at hb
      rcases hb with hb | hb
      · exact zOF hb
      · have:=zOF hb
        omega
    rw [List.drop_eq_nil_of_le (by omega)] at h3
    unfold tfind
    rw [if_pos (by rw [h3];exact (by decide:(-1:Int) < 0))]
def at_ {α:Type} (l:List α) (i:Int):Option α:=if 0 ≤ i then l[i.toNat]? else none
theorem zm0 {α:Type} (l:List α) (i:Nat):at_ l (i:Int)=l[i]?:=by unfold at_;rw [if_pos (by omega),Int.toNat_natCast]
theorem zg9 {α:Type} {l:List α} {i:Int} {x:α} (h:at_ l i=some x):0 ≤ i∧i < l.length∧l[i.toNat]?=some x:=by
  unfold at_ at h
  split at h
  · have:=(List.getElem?_eq_some_iff.1 h).1
    exact ⟨by assumption,by omega,h⟩
  · cases h
theorem ztJ {α:Type} {l:List α} {i:Int} (h:at_ l i=none):i < 0 ∨ (l.length:Int) ≤ i:=by
  unfold at_ at h
  split at h
  · have:=List.getElem?_eq_none_iff.1 h
    omega
  · omega
def hdr (x y:GTyp):Bool:=decide (x.kind=y.kind) && decide (x.tags=y.tags) && decide (x.con=y.con) && decide (x.more=y.more)
def itm (x y:GTyp):Bool:=decide (x.root=y.root) && decide ((x.items.length:Int) ≤ y.items.length) && decide (y.items.take x.items.length=x.items) && (x.more || decide ((y.items.length:Int)=x.items.length))
def fdr (R:Int→Int→Bool) (f g:GFld):Bool:=decide (f.name=g.name) && decide (f.optional=g.optional) && decide (f.has=g.has) && vsm f.dflt g.dflt && decide (f.group=g.group) && R f.ty g.ty
def tlx (x y:GTyp):Bool:=decide ((y.fields.length:Int)=x.fields.length) || decide ((x.fields.length:Int)=0) || (match at_ y.fields x.fields.length with
  | none=>true
  | some g=>decide (g.group=0) || (match at_ x.fields (x.fields.length - 1) with
    | none=>true
    | some f=>!decide (g.group=f.group)))
def fld0 (x y:GTyp):Bool:=decide (x.root=y.root) && decide ((x.fields.length:Int) ≤ y.fields.length) && (x.more || decide ((y.fields.length:Int)=x.fields.length))
def flds (R:Int→Int→Bool) (x y:GTyp):Bool:=fld0 x y && ((x.fields.zip y.fields).all fun p=>fdr R p.1 p.2) && tlx x y
def body (R:Int→Int→Bool) (x y:GTyp):Bool:=if x.kind=10 then R x.of y.of else if x.kind=3 then itm x y else if x.kind=7 ∨ x.kind=8 ∨ x.kind=9 then flds R x y else true
def ext:Nat→List GTyp→List GTyp→Int→Int→Bool
  | 0,_,_,_,_=>false
  | h + 1,a,b,i,k=>match at_ a i,at_ b k with
    | some x,some y=>hdr x y && body (ext h a b) x y
    | _,_=>false
theorem ztl {α β:Type} {l:List α} {r:List β} {k:Nat} {x:α} {y:β} (hx:l[k]?=some x) (hy:r[k]?=some y):(l.zip r).take (k + 1)=(l.zip r).take k ++ [(x,y)]:=by
  rw [List.take_add_one]
  have:(l.zip r)[k]?=some (x,y):=List.getElem?_zip_eq_some.2 ⟨hx,hy⟩
  rw [this];rfl
theorem kindB {x:Int} {β:Type} {R:β→Prop} {K:Bool→Option β} (h:T R (K (decide (x=7 ∨ x=8 ∨ x=9)))):T R (Sy.jp (fun J=>Sy.br (decide (x=7)) (J (decide (x=7))) (Sy.br (decide (x=8)) (J (decide (x=8))) (J (decide (x=9))))) K):=by
  refine T.jp (fun b=>b=decide (x=7 ∨ x=8 ∨ x=9)) (fun J kk=>T.br (fun h1=>kk _ ?_) fun h1=>T.br (fun h2=>kk _ ?_) fun h2=>kk _ ?_) fun b hb=>by rw [hb];exact h
  · rw [h1];exact (zDT (.inl (zOT h1))).symm
  · rw [h2];exact (zDT (.inr (.inl (zOT h2)))).symm
  · have h1:=zOF h1
    have h2:=zOF h2
    rw [decide_eq_decide];omega
theorem tail21 {x y:GTyp} {β:Type} {R:β→Prop} {o:Bool→Option β} (hx:x.fields.length ≤ 1000) (hle:(x.fields.length:Int) ≤ y.fields.length) (h:T R (o (tlx x y))) :
    T R (Sy.jp (ι:=Bool) (fun J86=>br (decide ((y.fields.length:Int)=(x.fields.length:Int))) (J86 (true)) (J86 ((decide ((x.fields.length:Int)=(0:Int)))))) (fun q85=>jp (ι:=Bool) (fun J89=>br q85 (J89 (true)) (cal (getI y.fields (x.fields.length:Int)) fun y91=>J89 ((decide (y91.group=(0:Int)))))) (fun q88=>jp (ι:=Bool) (fun J93=>br q88 (J93 (true)) (cal (getI y.fields (x.fields.length:Int)) fun y95=>ck (((x.fields.length:Int) - (1:Int))) <| cal (getI x.fields ((x.fields.length:Int) - (1:Int))) fun y97=>J93 ((!decide (y95.group=y97.group))))) o))):=by
  unfold tlx at h
  refine T.or (T.jp (fun b=>b=(decide ((y.fields.length:Int)=(x.fields.length:Int)) || decide ((x.fields.length:Int)=(0:Int)) || match at_ y.fields (x.fields.length:Int) with | none=>true | some g=>decide (g.group=0))) (fun J kk=>T.br (fun hb=>kk _ (by rw [hb];rfl)) fun hb=>?_) fun b hb=>?_)
  · have h1:=hb
    rw [Bool.or_eq_false_iff] at h1
    have h2:=zOF h1.1
    have h3:=zOF h1.2
    refine T.get (by omega) (by omega) fun g hg=>kk _ ?_
    rw [hb,zm0]
    rw [Int.toNat_natCast] at hg
    rw [hg];rfl
  · refine T.br (fun hb1=>?_) fun hb1=>?_
    · rw [hb1] at hb
      rw [show (decide ((y.fields.length:Int)=(x.fields.length:Int)) || decide ((x.fields.length:Int)=(0:Int)) || _)=true from ?_] at h
      · exact h
      · cases hc:(decide ((y.fields.length:Int)=(x.fields.length:Int)) || decide ((x.fields.length:Int)=(0:Int))) with
        | true=>rfl
        | false =>
          rw [hc] at hb
          cases hg:at_ y.fields (x.fields.length:Int) with
          | none=>rfl
          | some g =>
            rw [hg] at hb
            have hb2:decide (g.group=0)=true:=hb.symm
            show (false || (decide (g.group=0) || _))=true
            rw [hb2];rfl
    · rw [hb1] at hb
      have hb:=hb.symm
      rw [Bool.or_eq_false_iff,Bool.or_eq_false_iff] at hb
      obtain ⟨⟨h1,h2⟩,h3⟩:=hb
      have h1':=zOF h1
      have h2':=zOF h2
      refine T.get (by omega) (by omega) fun g hg=>T.ck (by omega) (T.get (by omega) (by omega) fun f hf=>?_)
      have hg2:at_ y.fields (x.fields.length:Int)=some g:=by rw [zm0];rw [Int.toNat_natCast] at hg;exact hg
      have hf2:at_ x.fields ((x.fields.length:Int) - 1)=some f:=by unfold at_;rw [if_pos (by omega)];exact hf
      rw [hg2] at h3 h
      rw [hf2,h1,h2] at h
      dsimp only at h3 h
      rw [h3] at h
      exact h
theorem zsF {a b:GTab} {F Ty:GTab→Int→GTab→Int→Option Bool} {R:Int→Int→Bool} {i:Nat} {k:Int} {x y:GTyp} (hx:a.types[i]?=some x) (hy:at_ b.types k=some y) (hxl:x.fields.length ≤ 1000) (hd:∀ f ∈ x.fields,DOk f.dflt)
    (hT:∀ f ∈ x.fields,∀ k,Ty a f.ty b k=some (R f.ty k)):zfh F Ty a (i:Int) b k=some (flds R x y):=by
  obtain ⟨k0,k1,k2⟩:=zg9 hy
  have hi:=(List.getElem?_eq_some_iff.1 hx).1
  refine T.eqs ?_
  unfold zfh
  refine T.jp (ι:=GTyp × GTyp) (fun p=>p=(x,y)) (fun J kk=>T.get (by omega) (by omega) fun x' hx'=>T.get k0 k1 fun y' hy'=>kk _ ?_) fun p hp=>?_
  · rw [Int.toNat_natCast,hx] at hx';cases hx'
    rw [k2] at hy';cases hy';rfl
  subst hp
  dsimp only
  refine T.or (T.orM (d:=!x.more && !decide ((y.fields.length:Int)=x.fields.length)) (fun _ h=>T.and h) ?_)
  have h0:fld0 x y=!(!decide (x.root=y.root) || decide ((y.fields.length:Int) < (x.fields.length:Int)) || !x.more && !decide ((y.fields.length:Int)=(x.fields.length:Int))):=by
    unfold fld0
    rw [Bool.not_or,Bool.not_or,Bool.not_not,Bool.not_and,Bool.not_not,Bool.not_not,← decide_not]
    congr 2
    rw [decide_eq_decide];omega
  refine T.br (fun hb=>T.some ?_) fun hb=>?_
  · unfold flds;rw [h0,hb];rfl
  rw [hb] at h0
  have hle:(x.fields.length:Int) ≤ y.fields.length:=by
    have h1:fld0 x y=true:=h0
    unfold fld0 at h1
    rw [Bool.and_eq_true,Bool.and_eq_true] at h1
    exact zOT h1.1.2
  have hzl:(x.fields.zip y.fields).length=x.fields.length:=by rw [List.length_zip];omega
  refine T.lp (fun (q:Int)=>0 ≤ q∧q ≤ (x.fields.length:Int)∧((x.fields.zip y.fields).take q.toNat).all (fun p=>fdr R p.1 p.2)=true) (fun (q:Int)=>((x.fields.length:Int) - q).toNat) ⟨Int.le_refl _,by omega,rfl⟩ (by omega) fun L q ⟨q1,q2,q3⟩ hL=>?_
  refine T.br (fun hq=>?_) fun hq=>?_
  · have hq:=zOT hq
    obtain ⟨f,hf⟩:∃ f,x.fields[q.toNat]?=some f:=⟨_,List.getElem?_eq_getElem (by omega)⟩
    obtain ⟨g,hg⟩:∃ g,y.fields[q.toNat]?=some g:=⟨_,List.getElem?_eq_getElem (by omega)⟩
    have hfm:=List.mem_of_getElem? hf
    refine T.jp (ι:=GFld × GFld) (fun p=>p=(f,g)) (fun J kk=>T.get q1 hq fun f' hf'=>T.get q1 (by omega) fun g' hg'=>kk _ (by rw [hf] at hf';cases hf';rw [hg] at hg';cases hg';rfl)) fun p hp=>?_
    subst hp
    dsimp only
    refine T.or (T.or (T.orM (d:=!vsm f.dflt g.dflt) (fun _ h=>T.eq (zrz _ _ (hd f hfm) (by unfold fuel;omega)) h) (T.or (T.orM (d:=!R f.ty g.ty) (fun _ h=>T.eq (hT f hfm _) h) ?_))))
    have e:fdr R f g=!((!decide (f.name=g.name) || !decide (f.optional=g.optional) || !decide (f.has=g.has) || !vsm f.dflt g.dflt || !decide (f.group=g.group)) || !R f.ty g.ty):=by
      unfold fdr
      simp only [Bool.not_or,Bool.not_not]
    refine T.br (fun hb2=>T.some ?_) fun hb2=>T.ck (by omega) (hL _ ⟨by omega,by omega,?_⟩ (by omega))
    · have hf0:fdr R f g=false:=by rw [e,hb2];rfl
      have:((x.fields.zip y.fields).all fun p=>fdr R p.1 p.2)=false:=by
        rw [List.all_eq_false]
        exact ⟨(f,g),List.mem_of_getElem? (List.getElem?_zip_eq_some.2 ⟨hf,hg⟩),by simp only [hf0];decide⟩
      unfold flds
      rw [this,Bool.and_false,Bool.false_and]
    · have e2:(q + 1).toNat=q.toNat + 1:=by omega
      rw [e2,ztl hf hg,List.all_append,q3]
      show (fdr R f g && true)=true
      rw [e,hb2];rfl
  · have hq:=zOF hq
    rw [List.take_of_length_le (by omega)] at q3
    refine tail21 hxl hle (T.some ?_)
    unfold flds
    rw [h0,q3];rfl
theorem ztj {h:Nat} {a b:List GTyp} {i k:Int} (hk:at_ b k=none):ext h a b i k=false:=by
  cases h with
  | zero=>rfl
  | succ h =>
    unfold ext
    rw [hk]
    cases at_ a i <;> rfl
theorem zsj {h:Nat} {a b:List GTyp} {i:Nat} {k:Int} {x y:GTyp} (hx:a[i]?=some x) (hy:at_ b k=some y):ext (h + 1) a b (i:Int) k=(hdr x y && body (ext h a b) x y):=by
  conv=>lhs;unfold ext
  rw [zm0,hx,hy]
theorem zuJ {h:Nat} {l:List GTyp} {x:GTyp} {i j:Nat} (hk:Kids (SubT h l) (kidsT x) i j) (h10:x.kind=10):∃ c d:Nat,x.of=(c:Int)∧SubT h l c d∧i ≤ c∧d ≤ j :=
  Kids.mem3 SubT.le' hk (by unfold kidsT;rw [if_pos h10];simp)
theorem zuT {h:Nat} {l:List GTyp} {x:GTyp} {i j:Nat} (hk:Kids (SubT h l) (kidsT x) i j) {f:GFld} (hf:f ∈ x.fields):∃ c d:Nat,f.ty=(c:Int)∧SubT h l c d∧i ≤ c∧d ≤ j :=
  Kids.mem3 SubT.le' hk (zlk f hf)
theorem ztv {h:Nat} {l:List GTyp} {x:GTyp} {i j:Nat} (hk:Kids (SubT h l) (kidsT x) i j) (hj:j ≤ l.length) (hl:l.length ≤ 1000):x.fields.length ≤ 1000:=by
  have:=zkW hk
  unfold kidsT at this
  rw [List.length_append,List.length_map] at this
  omega
theorem typ21 {a b:GTab} (hl:a.types.length ≤ 1000):∀ {h n i j},SubT h a.types i j→2 * h ≤ n→∀ k,zf8 n a (i:Int) b k=some (ext h a.types b.types (i:Int) k):=by
  intro h
  induction h with
  | zero=>intro n i j hs;exact hs.elim
  | succ h ih =>
    intro n i j hs hn k
    obtain ⟨n,rfl⟩:∃ n',n=n' + 2:=⟨n - 2,by omega⟩
    have hjl:=hs.inb
    obtain ⟨x,hx,hok,hk⟩:=hs
    have hi:=(List.getElem?_eq_some_iff.1 hx).1
    refine T.eqs ?_
    show T _ (zeM (zik (n + 1)) (zf8 (n + 1)) a (i:Int) b k)
    unfold zeM
    refine T.or (T.or (T.or (T.br (fun hb=>T.some ?_) fun hb=>?_)))
    · cases hy:at_ b.types k with
      | none=>exact (ztj hy).symm
      | some y =>
        obtain ⟨k0,k1,_⟩:=zg9 hy
        rw [zDF (by omega),zDF (by omega),zDF (by omega),zDF (by omega)] at hb
        cases hb
    · rw [Bool.or_eq_false_iff,Bool.or_eq_false_iff] at hb
      have k0:=zOF hb.1.2
      have k1:=zOF hb.2
      obtain ⟨y,hy2⟩:∃ y,b.types[k.toNat]?=some y:=⟨_,List.getElem?_eq_getElem (by omega)⟩
      have hy:at_ b.types k=some y:=by unfold at_;rw [if_pos (by omega)];exact hy2
      rw [zsj hx hy]
      refine T.jp (ι:=GTyp × GTyp) (fun p=>p=(x,y)) (fun J kk=>T.get (by omega) (by omega) fun x' hx'=>T.get (by omega) (by omega) fun y' hy'=>kk _ ?_) fun p hp=>?_
      · rw [Int.toNat_natCast,hx] at hx';cases hx'
        rw [hy2] at hy';cases hy';rfl
      subst hp
      dsimp only
      refine T.orM (d:=!decide (x.tags=y.tags)) (fun _ h=>T.eq (zrO _ _ (by have:=hok.tlen;omega)) h) (T.or (T.or ?_))
      have hh:hdr x y=!(!decide (x.kind=y.kind) || !decide (x.tags=y.tags) || !decide (x.con=y.con) || !decide (x.more=y.more)):=by
        unfold hdr
        simp only [Bool.not_or,Bool.not_not]
      refine T.br (fun hb=>T.some (by rw [hh,hb];rfl)) fun hb=>?_
      rw [hb] at hh
      rw [hh]
      unfold body
      refine T.br (fun h10=>?_) fun h10=>?_
      · have h10:=zOT h10
        obtain ⟨c,d,c1,c2,_⟩:=zuJ hk h10
        rw [if_pos h10,c1]
        exact T.eq (ih c2 (by omega) _) (T.some rfl)
      rw [if_neg (zOF h10)]
      refine T.br (fun h3=>?_) fun h3=>?_
      · rw [if_pos (zOT h3)]
        have hil:=hok.ilen
        unfold itm
        refine T.and (T.andM (d:=decide (y.items.take x.items.length=x.items)) (fun hc h=>?_) (T.andM (d:=x.more || decide ((x.items.length:Int)=(y.items.length:Int))) (fun _ h=>T.or h) (T.some ?_)))
        · rw [Bool.and_eq_true] at hc
          have hc2:=zOT hc.2
          refine T.asd ⟨Int.le_refl _,by omega,hc2⟩ (T.eq (zqb _ _ (by simp only [Int.toNat_natCast,Int.toNat_zero,List.drop_zero,List.length_take];omega)) ?_)
          simpa only [Int.toNat_natCast,Int.toNat_zero,List.drop_zero] using h
        · rw [Bool.not_false,Bool.true_and]
          congr 2
          rw [decide_eq_decide];omega
      rw [if_neg (zOF h3)]
      refine kindB (T.br (fun hf=>?_) fun hf=>?_)
      · rw [if_pos (zOT hf)]
        refine T.eq (zsF (F:=zik n) (Ty:=zf8 n) (R:=ext h a.types b.types) hx hy (ztv hk hjl hl) hok.dflt fun f hf k'=>?_) (T.some rfl)
        obtain ⟨c,d,c1,c2,_⟩:=zuT hk hf
        rw [c1]
        exact ih c2 (by omega) _
      · rw [if_neg (zOF hf)]
        exact T.some rfl
theorem Kids.one {S:Nat→Nat→Prop}:∀ {r:List Int} {a b c:Nat},Kids S r a b→Kids S r a c→(∀ i j k,S i j→S i k→j=k)→b=c:=by
  intro r
  induction r with
  | nil=>intro a b c h1 h2 _;exact h1.symm.trans h2
  | cons x r ih =>
    intro a b c ⟨p,_,h1,h2⟩ ⟨q,_,h3,h4⟩ hS
    have:=hS _ _ _ h1 h3
    subst this
    exact ih h2 h4 hS
theorem ztZ {h:Nat} {a b:List GTyp} {i k:Int} (hk:at_ a i=none):ext h a b i k=false:=by
  cases h with
  | zero=>rfl
  | succ h=>unfold ext;rw [hk]
theorem zrM {a b:GTab} (ha:TabOk a) (i k:Int):zf8 fuel a i b k=some (ext 17 a.types b.types i k):=by
  have hl:=ha.types
  cases hi:at_ a.types i with
  | some x =>
    obtain ⟨h1,h2,h3⟩:=zg9 hi
    obtain ⟨j,hj⟩:=SubT.sub ha.kids i.toNat (by omega) (by omega)
    have e:((i.toNat:Nat):Int)=i:=by omega
    rw [← e]
    exact typ21 (by omega) hj (by unfold fuel;omega) k
  | none =>
    have hb:=ztJ hi
    rw [ztZ hi]
    have hf:∃ n,fuel=n + 1:=⟨fuel - 1,by unfold fuel;omega⟩
    obtain ⟨n,hn⟩:=hf
    rw [hn]
    refine T.eqs ?_
    show T _ (zeM (zik n) (zf8 n) a i b k)
    unfold zeM
    refine T.or (T.or (T.or (T.br (fun hb=>T.some rfl) fun hb2=>?_)))
    rw [Bool.or_eq_false_iff,Bool.or_eq_false_iff,Bool.or_eq_false_iff] at hb2
    have h1:=zOF hb2.1.1.1
    have h2:=zOF hb2.1.1.2
    omega
def bad (a b:GTab) (p:Int):Bool:=!ext 17 a.types b.types ((a.roots[p.toNat]?).getD 0) (tfind b ((a.names[p.toNat]?).getD (Str.mk [])))
def may (a b:GTab):Int × Int:=if a.name ≠ b.name then (0,14) else match first (bad a b) a.names.length 0 with
  | some p=>(p,14)
  | none=>(0,0)
theorem zmU {P:Int→Bool} {n:Nat} {p:Int} (h:0 < n):first P n p=if P p=true then some p else first P (n - 1) (p + 1):=by
  obtain ⟨m,rfl⟩:∃ m,n=m + 1:=⟨n - 1,by omega⟩
  rfl
theorem zsW {a b:GTab} (ha:TabOk a) (hn:a.name=b.name) {F:(Int→Option (Int × Int))→Int→Option (Int × Int)}
    (hF:∀ (L:Int→Option (Int × Int)) (q:Int),0 ≤ q→q ≤ a.names.length→∀ R:Int × Int→Prop,(q < a.names.length→bad a b q=true→R (q,14))→(q < a.names.length→bad a b q=false→T R (L (q + 1)))→(¬ q < a.names.length→R (0,0))→T R (F L q)) :
    Sy.lp F (0:Int)=some (may a b):=by
  have hnl:=ha.names
  refine T.eqs ?_
  refine T.lp (fun (q:Int)=>0 ≤ q∧q ≤ (a.names.length:Int)∧first (bad a b) a.names.length 0=first (bad a b) (a.names.length - q.toNat) q) (fun (q:Int)=>((a.names.length:Int) - q).toNat) ⟨Int.le_refl _,by omega,rfl⟩ (by omega) fun L q ⟨q1,q2,q3⟩ hL=>?_
  refine hF L q q1 q2 _ (fun h1 h2=>?_) (fun h1 h2=>hL _ ⟨by omega,by omega,?_⟩ (by omega)) fun h1=>?_
  · unfold may
    rw [if_neg (by simpa using hn),q3,zmU (by omega),if_pos h2]
  · have e:a.names.length - q.toNat - 1=a.names.length - (q + 1).toNat:=by omega
    rw [q3,zmU (by omega),if_neg (by rw [h2];decide),e]
  · unfold may
    have e:a.names.length - q.toNat=0:=by omega
    rw [if_neg (by simpa using hn),q3,e]
    rfl
theorem zsv {a b:GTab} (ha:TabOk a) (hb:TabOk b):zk9 a b=some (may a b):=by
  refine T.eqs ?_
  unfold zk9
  have hr:=ha.roots
  have hnl:=ha.names
  refine T.br (fun hn=>T.some ?_) fun hn=>T.of (zsW ha (by simpa using hn) fun L q q1 q2 R h1 h2 h3=>T.and (T.br (fun hc=>?_) fun hc=>T.some (h3 ?_))) rfl
  · unfold may
    rw [if_pos (by simpa using hn)]
  · rw [Bool.and_eq_true] at hc
    have hc1:=zOT hc.1
    have hc2:=zOT hc.2
    refine T.get q1 hc2 fun ro hro=>T.get q1 hc1 fun na hna=>T.eq (zpj na hb) (T.eq (zrM ha _ _) ?_)
    have e:bad a b q=!ext 17 a.types b.types ro (tfind b na):=by unfold bad;rw [hro,hna];rfl
    exact T.br (fun hx=>T.some (h1 hc1 (e.trans hx))) fun hx=>T.ck (by omega) (h2 hc1 (e.trans hx))
  · rw [Bool.and_eq_false_iff] at hc
    rcases hc with hc | hc
    · exact zOF hc
    · have:=zOF hc
      omega
theorem zuk {x y:GTyp}:hdr x y=true ↔ x.kind=y.kind∧x.tags=y.tags∧x.con=y.con∧x.more=y.more:=by
  unfold hdr
  simp only [Bool.and_eq_true,decide_eq_true_eq,and_assoc]
theorem ztB {x y:GTyp}:itm x y=true ↔ x.root=y.root∧x.items.length ≤ y.items.length∧y.items.take x.items.length=x.items∧(x.more=true ∨ y.items.length=x.items.length):=by
  unfold itm
  simp only [Bool.and_eq_true,Bool.or_eq_true,decide_eq_true_eq,and_assoc,Int.ofNat_le,Int.ofNat_inj]
theorem zty {R:Int→Int→Bool} {f g:GFld}:fdr R f g=true ↔ f.name=g.name∧f.optional=g.optional∧f.has=g.has∧vsm f.dflt g.dflt=true∧f.group=g.group∧R f.ty g.ty=true:=by
  unfold fdr
  simp only [Bool.and_eq_true,decide_eq_true_eq,and_assoc]
theorem zs0 {x y:GTyp}:fld0 x y=true ↔ x.root=y.root∧x.fields.length ≤ y.fields.length∧(x.more=true ∨ y.fields.length=x.fields.length):=by
  unfold fld0
  simp only [Bool.and_eq_true,Bool.or_eq_true,decide_eq_true_eq,and_assoc,Int.ofNat_le,Int.ofNat_inj]
theorem zqr {R:Int→Int→Bool} {l r:List GFld} (hle:l.length ≤ r.length):((l.zip r).all fun p=>fdr R p.1 p.2)=true ↔ ∀ (q:Nat) (f g:GFld),l[q]?=some f→r[q]?=some g→fdr R f g=true:=by
  rw [List.all_eq_true]
  constructor
  · intro h q f g hf hg
    exact h (f,g) (List.mem_of_getElem? (List.getElem?_zip_eq_some.2 ⟨hf,hg⟩))
  · intro h p hp
    obtain ⟨q,hq⟩:=List.mem_iff_getElem?.1 hp
    have:=List.getElem?_zip_eq_some.1 hq
    exact h q p.1 p.2 this.1 this.2
theorem zsA {R:Int→Int→Bool} {x y:GTyp}:flds R x y=true ↔ (x.root=y.root∧x.fields.length ≤ y.fields.length∧(x.more=true ∨ y.fields.length=x.fields.length))∧(∀ (q:Nat) (f g:GFld),x.fields[q]?=some f→y.fields[q]?=some g→fdr R f g=true)∧tlx x y=true:=by
  unfold flds
  rw [Bool.and_eq_true,Bool.and_eq_true,zs0,and_assoc]
  constructor
  · rintro ⟨h1,h2,h3⟩
    exact ⟨h1,(zqr h1.2.1).1 h2,h3⟩
  · rintro ⟨h1,h2,h3⟩
    exact ⟨h1,(zqr h1.2.1).2 h2,h3⟩
theorem ztX {x y:GTyp}:tlx x y=true ↔ y.fields.length=x.fields.length ∨ x.fields.length=0 ∨ ∀ g,y.fields[x.fields.length]?=some g→g.group=0 ∨ ∀ f,x.fields[x.fields.length - 1]?=some f→g.group ≠ f.group:=by
  unfold tlx
  rw [Bool.or_eq_true,Bool.or_eq_true,decide_eq_true_eq,decide_eq_true_eq,or_assoc,zm0]
  refine or_congr (by omega) ?_
  by_cases h0:x.fields.length=0
  · constructor
    · intro _;exact .inl h0
    · intro _;exact .inl (by omega)
  have e:((x.fields.length:Int) - 1)=((x.fields.length - 1:Nat):Int):=by omega
  rw [e,zm0]
  refine or_congr (by omega) ?_
  cases hy:y.fields[x.fields.length]? with
  | none=>simp
  | some g =>
    dsimp only
    rw [Bool.or_eq_true,decide_eq_true_eq]
    constructor
    · intro h g' hg'
      cases hg'
      refine h.imp id fun h2 f hf=>?_
      rw [hf] at h2
      simpa using h2
    · intro h
      refine (h g rfl).imp id fun h2=>?_
      cases hx:x.fields[x.fields.length - 1]? with
      | none=>rfl
      | some f=>simpa using h2 f hx
theorem zsC {h:Nat} {a b:List GTyp} {i k:Int} (he:ext (h + 1) a b i k=true):∃ x y,at_ a i=some x∧at_ b k=some y∧hdr x y=true∧body (ext h a b) x y=true:=by
  unfold ext at he
  cases hx:at_ a i with
  | none=>rw [hx] at he;cases he
  | some x =>
    cases hy:at_ b k with
    | none=>rw [hx,hy] at he;cases he
    | some y =>
      rw [hx,hy] at he
      dsimp only at he
      rw [Bool.and_eq_true] at he
      exact ⟨x,y,rfl,rfl,he.1,he.2⟩
theorem zuG {a b:GTab}:(may a b).2=0 ↔ a.name=b.name∧∀ p:Nat,p < a.names.length→bad a b (p:Int)=false:=by
  unfold may
  by_cases hn:a.name=b.name
  · rw [if_neg (by simpa using hn)]
    cases hf:first (bad a b) a.names.length 0 with
    | some p =>
      obtain ⟨h1,h2,h3⟩:=zmO hf
      refine ⟨fun h=>(by cases h),fun ⟨_,h⟩=>?_⟩
      have:=h p.toNat (by omega)
      have e:((p.toNat:Nat):Int)=p:=by omega
      rw [e,h3] at this
      cases this
    | none=>exact ⟨fun _=>⟨hn,fun p hp=>zg4 hf _ (by omega) (by omega)⟩,fun _=>rfl⟩
  · rw [if_pos (by simpa using hn)]
    exact ⟨fun h=>(by cases h),fun ⟨h,_⟩=>absurd h hn⟩
theorem zuK {a b:GTab} {p:Nat} {r:Int} {s:Str} (hr:a.roots[p]?=some r) (hs:a.names[p]?=some s):bad a b (p:Int)=!ext 17 a.types b.types r (tfind b s):=by
  unfold bad
  rw [Int.toNat_natCast,hr,hs];rfl
theorem zsf {a:GTab} (ha:TabOk a) {p:Nat} (hp:p < a.names.length):∃ (c d:Nat) (s:Str),a.roots[p]?=some (c:Int)∧a.names[p]?=some s∧SubT 17 a.types c d∧tfind a s=(c:Int):=by
  have hr:=ha.roots
  obtain ⟨r,h1⟩:∃ r,a.roots[p]?=some r:=⟨_,List.getElem?_eq_getElem (by omega)⟩
  obtain ⟨s,h2⟩:∃ s,a.names[p]?=some s:=⟨_,List.getElem?_eq_getElem hp⟩
  obtain ⟨c,d,e1,e2,_⟩:=Kids.mem3 SubT.le' ha.kids (List.mem_of_getElem? h1)
  subst e1
  refine ⟨c,d,s,h1,h2,e2,?_⟩
  unfold tfind
  have:=ha.fnds p s h2
  rw [this,if_neg (by omega),Int.toNat_natCast,h1]
  rfl
theorem zua {a b:GTab} (ha:TabOk a) (hb:TabOk b) (h:(may a b).2=0) {p:Nat} (hp:p < a.names.length):∃ (c d:Nat) (s:Str),a.roots[p]?=some (c:Int)∧a.names[p]?=some s∧SubT 17 a.types c d∧tfind a s=(c:Int)∧ext 17 a.types b.types (c:Int) (tfind b s)=true∧0 ≤ tfind b s∧∃ q:Nat,q < b.names.length∧b.names[q]?=some s:=by
  obtain ⟨c,d,s,h1,h2,h3,h4⟩:=zsf ha hp
  have hbd:=(zuG.1 h).2 p hp
  rw [zuK h1 h2] at hbd
  have hx:ext 17 a.types b.types (c:Int) (tfind b s)=true:=by simpa using hbd
  obtain ⟨x,y,e1,e2,_⟩:=zsC hx
  have h0:=(zg9 e2).1
  refine ⟨c,d,s,h1,h2,h3,h4,hx,h0,?_⟩
  rcases zi3 b.names s with h5 | h5
  · unfold tfind at h0
    rw [if_pos (by omega)] at h0
    omega
  · exact ⟨(fnd b.names s).toNat,by omega,h5.2.2.1⟩
end Go.Proofs.Q


namespace Go.Sy
theorem Opn.u8 {P:Program} {T:TypeId} (h:P.underlying T=some (.int .u8)):Opn P T UInt8 where
  op:=fun ht _=>by
    obtain ⟨n,rfl,_,hwf⟩:=DataW.trod_int h ht
    unfold Lit.wf at hwf
    rw [Bool.and_eq_true] at hwf
    have h1:(0:Int) ≤ n:=zOT hwf.1
    have h2:n ≤ 255:=zOT hwf.2
    refine ⟨UInt8.ofNat n.toNat,?_⟩
    show [Value.int .u8 n]=[Value.int .u8 (((UInt8.ofNat n.toNat).toNat:Nat):Int)]
    rw [UInt8.toNat_ofNat',Nat.mod_eq_of_lt (by omega)]
    have:((n.toNat:Nat):Int)=n:=by omega
    rw [this]
  shape:=fun {_ _ _ v} hv=>by simp only [Value.okWide,h,Cell.okWide] at hv;cases v <;> simp_all [Cell.ok,Value.isAgg',Rep.agg]
structure OpB (P:Program) (T:TypeId) (α:Type) [Rep α] (N:Nat):Prop where
  op:∀ {H:Type} {enc:TypeId × Value→H} {W:World} {base:Nat} {spare:Nat→Bool} {held:Bool} {fuel:Nat} {cs:List Value} {x:DataW H × List MemPlace},
    fuel < N→DataW.trod enc P W base spare held fuel T cs=some x→(∀ k ∈ x.1.weights P T,k ≤ reachBytes)→∃ y:α,Rep.rd (snap W) cs y
theorem OpB.of {P:Program} {T:TypeId} {α:Type} [Rep α] {N:Nat} (h:Opn P T α):OpB P T α N:=⟨fun _ h1 h2=>h.op h1 h2⟩
theorem OpB.list {P:Program} {T e:TypeId} {α:Type} [Rep α] {N:Nat} (hu:P.underlying T=some (.slice e)) (ho:OpB P e α N) (hn:P.cellsOf e=Rep.n α) (hn0:Nat.blt 0 (Rep.n α)=true) (hb:Nat.blt 0 (P.bytesOf e)=true):OpB P T (List α) (N + 1) where
  op := fun {H enc W base spare held fuel cs x} hN ht hw=>by
    have hn0':0 < Rep.n α:=by simpa using hn0
    have hb':0 < P.bytesOf e:=by simpa using hb
    rcases DataW.trod_slice hu ht with ⟨rfl,_⟩ | ⟨a,len,cap,elems,rest,n,hfu,rfl,rfl,_,hlc,hcm,hel,hall,_,_⟩
    · exact ⟨[],_,rfl,none,0,rfl,Nat.le_refl _,Nat.zero_le _,.inl rfl⟩
    have hwl:(elems.length + rest.length) * P.bytesOf e ≤ reachBytes:=hw _ (by simp [DataW.weights,hu])
    have hlenb:len ≤ maxList:=by
      have h1:(elems.length + rest.length) * 1 ≤ (elems.length + rest.length) * P.bytesOf e:=Nat.mul_le_mul_left _ hb'
      unfold reachBytes at hwl;unfold maxList;omega
    have each:∀ i,i < len→∃ ci,W.cells? base (a.add (i * Rep.n α)) (Rep.n α)=some ci∧∃ y:α,Rep.rd (snap W) ci y:=fun i hi=>by
      have h1:=hall i hi
      rw [hn] at h1
      have hlt:i < elems.length:=by omega
      rw [List.getElem?_eq_getElem hlt,Option.bind_eq_some_iff] at h1
      obtain ⟨ci,h2,h3⟩:=h1
      refine ⟨ci,h2,ho.op (show n < N by omega) h3 fun k hk=>hw k ?_⟩
      simp only [DataW.weights,hu]
      refine List.mem_cons_of_mem _ (List.mem_append_left _ ?_)
      have:∀ (l:List (DataW H)) d,d ∈ l→∀ k ∈ d.weights P e,k ∈ DataW.weightsAll P e l:=by
        intro l
        induction l with
        | nil=>intro d hd;cases hd
        | cons b l ih =>
          intro d hd k hk
          simp only [DataW.weightsAll]
          rcases List.mem_cons.1 hd with h | h
          · subst h;exact List.mem_append_left _ hk
          · exact List.mem_append_right _ (ih d h k hk)
      exact this _ elems[i].1 (List.mem_map.2 ⟨_,List.getElem_mem hlt,rfl⟩) k hk
    by_cases h0:len=0
    · subst h0
      exact ⟨[],_,rfl,some a,cap,rfl,Nat.zero_le _,Nat.zero_le _,.inl rfl⟩
    -- the block
    obtain ⟨c0,hc0,_⟩:=each 0 (by omega)
    have hadd0:a.add (0 * Rep.n α)=a:=by rw [Nat.zero_mul];rfl
    rw [hadd0] at hc0
    obtain ⟨_,hl0,hc0'⟩:=World.cells?_some hc0
    have hcell0:∃ v,W.cell? a=some v:=by
      have:=hc0' 0 hn0'
      have h2:∃ v,c0[0]?=some v:=⟨c0[0]'(by omega),List.getElem?_eq_getElem (by omega)⟩
      obtain ⟨v,hv⟩:=h2
      exact ⟨v,by rw [show a.add 0=a from rfl] at this;rw [this,hv]⟩
    obtain ⟨v0,hv0⟩:=hcell0
    obtain ⟨hspot,blk,hblk,_⟩:=zhu hv0
    have hcellk:∀ i j,i < len→j < Rep.n α→∃ v,blk[a.off + (i * Rep.n α + j)]?=some v∧∀ ci,W.cells? base (a.add (i * Rep.n α)) (Rep.n α)=some ci→ci[j]?=some v:=fun i j hi hj=>by
      obtain ⟨ci,h1,_⟩:=each i hi
      obtain ⟨_,hl,hc⟩:=World.cells?_some h1
      have h2:=hc j hj
      have h3:ci[j]?=some (ci[j]'(by omega)):=List.getElem?_eq_getElem (by omega)
      rw [h3] at h2
      obtain ⟨_,blk',hb1,hb2⟩:=zhu h2
      have hbb:((a.add (i * Rep.n α)).add j).block=a.block∧((a.add (i * Rep.n α)).add j).off=a.off + (i * Rep.n α + j) :=
        ⟨(zi8 _ _).1.trans (zi8 _ _).1,by rw [(zi8 _ _).2,(zi8 _ _).2];omega⟩
      rw [hbb.1] at hb1
      rw [hblk] at hb1;cases hb1
      rw [hbb.2] at hb2
      exact ⟨_,hb2,fun ci' h'=>by rw [h1] at h';cases h';exact h3⟩
    have hbl:a.off + len * Rep.n α ≤ blk.length:=by
      obtain ⟨v,hv,_⟩:=hcellk (len - 1) (Rep.n α - 1) (by omega) (by omega)
      have:=(List.getElem?_eq_some_iff.1 hv).1
      have e:(len - 1) * Rep.n α + (Rep.n α - 1) + 1=len * Rep.n α:=by
        obtain ⟨m,rfl⟩:∃ m,len=m + 1:=⟨len - 1,by omega⟩
        rw [Nat.add_sub_cancel,Nat.add_mul];omega
      omega
    have hcs:∀ i,i < len→W.cells? base (a.add (i * Rep.n α)) (Rep.n α)=some ((blk.drop (a.off + i * Rep.n α)).take (Rep.n α)):=fun i hi=>by
      obtain ⟨ci,h1,_⟩:=each i hi
      rw [h1]
      obtain ⟨_,hl,_⟩:=World.cells?_some h1
      congr 1
      apply List.ext_getElem?
      intro j
      by_cases hj:j < Rep.n α
      · obtain ⟨v,hv,h2⟩:=hcellk i j hi hj
        rw [h2 ci h1,List.getElem?_take,if_pos hj,List.getElem?_drop,← hv,Nat.add_assoc]
      · rw [List.getElem?_eq_none (by omega),List.getElem?_eq_none (by rw [List.length_take];omega)]
    obtain ⟨ys,hy1,hy2⟩:=zi7 (r:=Rep.rd (snap W)) ((List.range len).map fun i=>(blk.drop (a.off + i * Rep.n α)).take (Rep.n α)) fun c hc=>by
      obtain ⟨i,hi,rfl⟩:=List.mem_map.1 hc
      have hi':=List.mem_range.1 hi
      obtain ⟨ci,h1,h2⟩:=each i hi'
      rw [hcs i hi'] at h1;cases h1
      exact h2
    have hyl:ys.length=len:=by simpa using hy1
    have hflat:∀ m,m ≤ len→((List.range m).map fun i=>(blk.drop (a.off + i * Rep.n α)).take (Rep.n α)).flatten=(blk.drop a.off).take (m * Rep.n α):=by
      intro m
      induction m with
      | zero=>simp
      | succ m ih =>
        intro hm
        rw [List.range_succ,List.map_append,List.flatten_append,ih (by omega),Nat.add_mul,Nat.one_mul,List.take_add,List.drop_drop]
        simp
    rw [hflat len (Nat.le_refl _)] at hy2
    subst hyl
    refine ⟨ys,_,rfl,some a,cap,rfl,hlc,hlenb,.inr ⟨a,(blk.drop a.off).take (ys.length * Rep.n α),rfl,⟨hspot,blk,hblk,fun j u hj=>?_⟩,?_,hy2⟩⟩
    · rw [List.getElem?_take] at hj
      split at hj
      · rw [List.getElem?_drop] at hj;exact hj
      · cases hj
    · rw [List.length_take,List.length_drop];omega

/-! ### A law's statement -/
/-- The parts of a struct, one behind the other, in so many steps. -/
inductive OpBs (P:Program) (N:Nat):List Field→Nat→(σ:Type)→[Rep σ]→Prop
  | one {α:Type} [Rep α] {f:Field}:OpB P f.type α N→P.cellsOf f.type=Rep.n α→OpBs P N [f] f.offset α
  | cons {α β:Type} [Rep α] [Rep β] {f:Field} {fs:List Field}:OpB P f.type α N→P.cellsOf f.type=Rep.n α→OpBs P N fs (f.offset + Rep.n α) β→OpBs P N (f :: fs) f.offset (α × β)
theorem OpBs.op {P:Program} {N:Nat} {fs:List Field} {off:Nat} {σ:Type} [I:Rep σ] (h:OpBs P N fs off σ) {H:Type} {enc:TypeId × Value→H} {W:World} {base:Nat} {spare:Nat→Bool} {held:Bool} {fuel:Nat} {cs:List Value} (hN:fuel < N)
    (hf:∀ f ∈ fs,∃ x,DataW.trod enc P W base spare held fuel f.type ((cs.drop f.offset).take (P.cellsOf f.type))=some x∧∀ k ∈ x.1.weights P f.type,k ≤ reachBytes) :
    ∃ y:σ,Rep.rd (snap W) ((cs.drop off).take (Rep.n σ)) y:=by
  induction h with
  | one ho hn =>
    obtain ⟨x,h1,h2⟩:=hf _ (List.mem_cons_self ..)
    rw [hn] at h1
    exact ho.op hN h1 h2
  | @cons α β _ _ f fs ho hn _ ih =>
    obtain ⟨x,h1,h2⟩:=hf _ (List.mem_cons_self ..)
    rw [hn] at h1
    obtain ⟨y1,k1⟩:=ho.op hN h1 h2
    obtain ⟨y2,k2⟩:=ih fun g hg=>hf g (List.mem_cons_of_mem _ hg)
    refine ⟨(y1,y2),_,_,?_,k1,k2⟩
    show (cs.drop f.offset).take (Rep.n α + Rep.n β)=_
    rw [List.take_add,List.drop_drop]
theorem Opn.val {P:Program} {T:TypeId} {fs:Array Field} (hu:P.underlying T=some (.struct fs)) (hn:P.cellsOf T=6)
    (hof:∀ N,OpB P T Val N→OpBs P (N + 1) fs.toList 0 (Int × Int × List UInt8 × List Val × Int × List Raw)):Opn P T Val:=by
  have key:∀ N,OpB P T Val N:=by
    intro N
    induction N with
    | zero=>exact ⟨fun h=>absurd h (Nat.not_lt_zero _)⟩
    | succ N ih =>
      refine ⟨fun {H enc W base spare held fuel cs x} hN ht hw=>?_⟩
      obtain ⟨xs,n,hfu,hx,hl,hxl,hx2⟩:=DataW.trod_struct hu ht
      have:=(hof N ih).op (enc:=enc) (W:=W) (base:=base) (spare:=spare) (held:=held) (fuel:=n) (cs:=cs) (by omega) fun f hf=>by
        obtain ⟨i,hi⟩:=List.mem_iff_getElem?.1 hf
        have hi':fs[i]?=some f:=by simpa using hi
        have h1:=hx2 i f hi'
        have hlt:i < xs.length:=by rw [hxl];exact (Array.getElem?_eq_some_iff.1 hi').1
        refine ⟨xs[i],by rw [h1,List.getElem?_eq_getElem hlt],fun k hk=>hw k ?_⟩
        rw [hx,zlV hu]
        exact DataW.weights_mem_each (j:=i) (t:=f.type) (d:=xs[i].1) (by rw [List.getElem?_map,hi];rfl) (by rw [List.getElem?_map,List.getElem?_eq_getElem hlt];rfl) k hk
      obtain ⟨⟨k,n',b,l,r,m⟩,hy⟩:=this
      refine ⟨Val.mk k n' b l r m,Val.rd_to.2 ?_⟩
      rw [hn] at hl
      have e:(cs.drop 0).take (Rep.n (Int × Int × List UInt8 × List Val × Int × List Raw))=cs:=by
        rw [List.drop_zero]
        exact List.take_of_length_le (by rw [hl];exact Nat.le_refl _)
      rw [e] at hy
      exact hy
  exact ⟨fun {H enc W base spare held fuel cs x} ht hw=>(key (fuel + 1)).op (Nat.lt_succ_self _) ht hw,fun {_ _ _ v} hv=>by
    simp only [Value.okWide,hu] at hv
    obtain ⟨cs,rfl,_⟩:=hv
    rfl⟩
inductive FineM:Val→Prop
  | mk {v:Val}:v.b.length ≤ 281474976710656→v.l.length ≤ 281474976710656→v.more.length ≤ 281474976710656→(∀ r ∈ v.more,r.b.length ≤ 281474976710656)→(∀ w ∈ v.l,FineM w)→FineM v
theorem FineM.b {v:Val} (h:FineM v):v.b.length ≤ 281474976710656:=by cases h;assumption
theorem FineM.l {v:Val} (h:FineM v):v.l.length ≤ 281474976710656:=by cases h;assumption
theorem FineM.more {v:Val} (h:FineM v):v.more.length ≤ 281474976710656:=by cases h;assumption
theorem FineM.raw {v:Val} (h:FineM v):∀ r ∈ v.more,r.b.length ≤ 281474976710656:=by cases h;assumption
theorem FineM.kid {v:Val} (h:FineM v):∀ w ∈ v.l,FineM w:=by cases h;assumption
theorem zoz {α:Type} {r:List Value→α→Prop}:∀ {l:List α} {cs:List Value},rdL r l cs→∀ x ∈ l,∃ c,r c x
  | [],_,_,x,h=>by cases h
  | y :: l,_,⟨c1,c2,_,h1,h2⟩,x,h=>by
    rcases List.mem_cons.1 h with e | e
    · exact ⟨c1,e ▸ h1⟩
    · exact zoz h2 x e
theorem zqg {S:Frz}:∀ (n:Nat) (v:Val),SizeOf.sizeOf v ≤ n→∀ cs,rdVal S v cs→FineM v:=by
  intro n
  induction n with
  | zero=>intro ⟨k,n,b,l,r,m⟩ h;rw [Val.mk.sizeOf_spec] at h;omega
  | succ n ih =>
    intro ⟨k,n',b,l,r,m⟩ hn cs h
    unfold rdVal at h
    obtain ⟨vb,vl,vm,_,_,_,_,⟨_,_,_,_,hb,_⟩,⟨_,_,_,_,hm,hm2⟩,⟨_,_,_,_,hl,hl2⟩⟩:=h
    have hm':m.length ≤ 281474976710656:=hm
    refine .mk hb hl hm' (fun x hx=>?_) fun w hw=>?_
    · rcases hm2 with hm2 | ⟨_,_,_,_,_,hm2⟩
      · rw [show m=[] from hm2] at hx;cases hx
      · obtain ⟨c,hc⟩:=zoz hm2 x hx
        obtain ⟨c1,c2,_,_,⟨_,_,_,_,_,_,h3,_⟩⟩:=hc
        exact h3
    · rcases hl2 with hl2 | ⟨_,c,_,_,_,hl2⟩
      · rw [show l=[] from hl2] at hw;cases hw
      · obtain ⟨c,hc⟩:=zoz (zgP.1 hl2) w hw
        refine ih w ?_ c hc
        have:=List.sizeOf_lt_of_mem (show w ∈ l from hw)
        rw [Val.mk.sizeOf_spec] at hn
        omega
theorem zsl {S:Frz} {u:Value} {v:Val} (h:(isv v).p S u):FineM v:=zqg _ v (Nat.le_refl _) _ h.2
end Go.Sy


namespace Go.Proofs.Q
open Go.Sy
set_option linter.unusedVariables false

theorem Val.eta (v:Val):Val.mk v.kind v.n v.b v.l v.rule v.more=v:=by cases v;rfl
theorem Val.lt {v w:Val} (h:w ∈ v.l):SizeOf.sizeOf w < SizeOf.sizeOf v:=by
  obtain ⟨k,n,b,l,r,m⟩:=v
  have h1:=List.sizeOf_lt_of_mem (show w ∈ l from h)
  rw [Val.mk.sizeOf_spec]
  omega
theorem zkt {α β:Type} (l:List α) (f:α→β):(l.attach.map fun w=>f w.1)=l.map f:=by simp
inductive Fine:Val→Prop
  | mk {v:Val}:v.b.length ≤ 68719476736→v.l.length ≤ 68719476736→v.more.length ≤ 68719476736→(∀ r ∈ v.more,r.b.length ≤ 68719476736)→(∀ w ∈ v.l,Fine w)→Fine v
theorem Fine.b {v:Val} (h:Fine v):v.b.length ≤ 68719476736:=by cases h;assumption
theorem Fine.l {v:Val} (h:Fine v):v.l.length ≤ 68719476736:=by cases h;assumption
theorem Fine.more {v:Val} (h:Fine v):v.more.length ≤ 68719476736:=by cases h;assumption
theorem Fine.raw {v:Val} (h:Fine v):∀ r ∈ v.more,r.b.length ≤ 68719476736:=by cases h;assumption
theorem Fine.kid {v:Val} (h:Fine v):∀ w ∈ v.l,Fine w:=by cases h;assumption
def cnt (v:Val):Nat:=1 + (v.l.attach.map fun w=>cnt w.1).sum
termination_by SizeOf.sizeOf v
decreasing_by exact Val.lt w.2
theorem zeD (v:Val):cnt v=1 + (v.l.map cnt).sum:=by
  rw [cnt]
  congr 2
  exact zkt v.l cnt
def strip (v:Val):Val:=if v.kind=12 then Val.mk 12 0 [] [] 0 [] else Val.mk v.kind v.n v.b (v.l.attach.map fun w=>strip w.1) 0 []
termination_by SizeOf.sizeOf v
decreasing_by exact Val.lt w.2
theorem zgA (v:Val):strip v=if v.kind=12 then Val.mk 12 0 [] [] 0 [] else Val.mk v.kind v.n v.b (v.l.map strip) 0 []:=by
  rw [strip]
  split
  · rfl
  · congr 1
    exact zkt v.l strip
def bare (v:Val):Bool:=!(decide (v.kind=12) || decide (0 < v.more.length)) && (v.l.attach.map fun w=>bare w.1).all id
termination_by SizeOf.sizeOf v
decreasing_by exact Val.lt w.2
theorem zoa (v:Val):bare v=(!(decide (v.kind=12) || decide (0 < v.more.length)) && (v.l.map bare).all id):=by
  rw [bare]
  congr 2
  exact zkt v.l bare
theorem zc5 (v:Val):0 < cnt v:=by rw [zeD];omega
theorem zqt {α:Type} {f:α→Nat}:∀ {l:List α} {x:α},x ∈ l→f x ≤ (l.map f).sum
  | [],x,h=>by cases h
  | y :: r,x,h=>by
    rw [List.map_cons,List.sum_cons]
    rcases List.mem_cons.1 h with e | e
    · rw [e];omega
    · have:=zqt (f:=f) e
      omega
theorem zqF {α:Type} {f:α→Nat} (hf:∀ x,0 < f x):∀ {l:List α},l.length ≤ (l.map f).sum
  | []=>Nat.le_refl _
  | y :: r=>by
    have:=zqF hf (l:=r)
    have:=hf y
    rw [List.map_cons,List.sum_cons,List.length_cons]
    omega
theorem zcN {v w:Val} (h:w ∈ v.l):cnt w + 1 ≤ cnt v:=by
  rw [zeD v]
  have:=zqt (f:=cnt) h
  omega
theorem zoY (b:List UInt8) (hb:b.length ≤ 68719476736):zbk b=some b:=by
  refine T.eqs ?_
  unfold zbk
  refine T.br (fun h=>T.some ?_) fun h=>T.abl (by rw [List.length_nil];omega) (T.some (List.nil_append _))
  exact (List.isEmpty_iff.1 h).symm
theorem zrZ:∀ {n:Nat} {v:Val},cnt v ≤ n→Fine v→zfV n v=some (strip v):=by
  intro n
  induction n with
  | zero=>intro v h;have:=zc5 v;omega
  | succ n ih =>
    intro v hn hf
    refine T.eqs ?_
    show T _ (zev (zfV n) v)
    unfold zev
    rw [zgA]
    refine T.br (fun h=>T.some (by rw [if_pos (zOT h)])) fun h=>?_
    rw [if_neg (zOF h)]
    have hfl:=hf.l
    refine T.jp (ι:=Val) (fun q=>q=Val.mk v.kind v.n v.b [] 0 []) (fun J kk=>T.eq (zoY _ hf.b) (kk _ rfl)) fun q hq=>?_
    subst hq
    refine T.lp (ι:=Int × Val) (fun q=>0 ≤ q.1∧q.1 ≤ (v.l.length:Int)∧q.2=Val.mk v.kind v.n v.b ((v.l.take q.1.toNat).map strip) 0 []) (fun q=>((v.l.length:Int) - q.1).toNat) ⟨Int.le_refl _,by dsimp only;omega,rfl⟩ (by dsimp only;omega) fun L q ⟨q1,q2,q3⟩ hL=>?_
    obtain ⟨i,w⟩:=q
    dsimp only at q1 q2 q3 hL ⊢
    subst q3
    refine T.br (fun hb=>?_) fun hb=>T.some ?_
    · have hb:=zOT hb
      refine T.get q1 hb fun y hy=>?_
      have hm:=List.mem_of_getElem? hy
      have hk:=zcN hm
      have hlen:((v.l.take i.toNat).map strip).length=i.toNat:=by rw [List.length_map,List.length_take];omega
      refine T.eq (ih (by omega) (hf.kid _ hm)) (T.abl (by show ((v.l.take i.toNat).map strip).length + 1 ≤ _;rw [hlen];omega) (T.ck (by omega) (hL _ ⟨by dsimp only;omega,by dsimp only;omega,?_⟩ (by dsimp only;omega))))
      have e:(i + 1).toNat=i.toNat + 1:=by omega
      dsimp only
      rw [e,List.take_add_one,hy,List.map_append]
      rfl
    · have hb:=zOF hb
      rw [List.take_of_length_le (by omega)]
theorem zrK:∀ (n:Nat) (v:Val),cnt v ≤ n→cnt (strip v) ≤ cnt v:=by
  intro n
  induction n with
  | zero=>intro v h;have:=zc5 v;omega
  | succ n ih =>
    intro v h
    rw [zgA v]
    split
    · rw [zeD]
      exact zc5 v
    · rw [zeD,zeD v]
      show 1 + ((v.l.map strip).map cnt).sum ≤ _
      have:∀ l:List Val,(∀ w ∈ l,w ∈ v.l)→((l.map strip).map cnt).sum ≤ (l.map cnt).sum:=by
        intro l
        induction l with
        | nil=>intro _;exact Nat.le_refl _
        | cons x r ihr =>
          intro hl
          have h1:=zcN (hl x List.mem_cons_self)
          have h2:=ih x (by omega)
          have h3:=ihr fun w hw=>hl w (List.mem_cons_of_mem _ hw)
          simp only [List.map_cons,List.sum_cons] at h3 ⊢
          omega
      have:=this v.l fun _ h=>h
      omega
theorem T.or' {β:Type} {R:β→Prop} {c d:Bool} {K:Bool→Option β} (hK:T R (K (c || d))):T R (Sy.jp (fun J=>Sy.br c (J true) (J d)) K):=by cases c <;> exact hK
theorem T.and' {β:Type} {R:β→Prop} {c d:Bool} {K:Bool→Option β} (hK:T R (K (c && d))):T R (Sy.jp (fun J=>Sy.br c (J d) (J false)) K):=by cases c <;> exact hK
theorem zqM {a b:Nat} (h:(!decide ((a:Int)=(b:Int)))=false):a=b:=by
  have:(a:Int)=b:=by simpa using h
  omega
theorem T.andI {β:Type} {R:β→Prop} {P Q:Prop} {c:Bool} {M:(Bool→Option β)→Option β} {K:Bool→Option β} (hc:c=true ↔ P) (hM:∀ J:Bool→Option β,(∀ b,(b=true ↔ Q)→T R (J b))→T R (M J)) (hK:∀ b:Bool,(b=true ↔ P∧Q)→T R (K b)) :
    T R (Sy.jp (fun J=>Sy.br c (M J) (J false)) K):=by
  cases c with
  | true=>exact hM K fun b hb=>hK b (by rw [hb];exact ⟨fun h=>⟨hc.1 rfl,h⟩,fun h=>h.2⟩)
  | false=>exact hK false ⟨fun h=>(by cases h),fun h=>by have:=hc.2 h.1;cases this⟩
theorem zlb {α:Type} {E:α→α→Option Bool} {F:(Int→Option Bool)→Int→Option Bool} (a b:List α) (ha:a.length ≤ 68719476736) (hE:∀ x ∈ a,∀ y,T (fun r=>r=true ↔ x=y) (E x y))
    (hF:∀ (L:Int→Option Bool) (q:Int),F L q=Sy.br (decide (q < (a.length:Int))) (Sy.cal (getI a q) fun y=>Sy.cal (getI b q) fun z=>Sy.cal (E y z) fun w=>Sy.br (!w) (some false) (Sy.ck (q + 1) <| L (q + 1))) (some true)) :
    T (fun r=>r=true ↔ a=b) (Sy.br (!decide ((a.length:Int)=(b.length:Int))) (some false) (Sy.lp F (0:Int))):=by
  refine T.br (fun h=>T.some ⟨fun h=>(by cases h),fun e=>?_⟩) fun h=>?_
  · subst e
    simp at h
  have hl:a.length=b.length:=zqM h
  refine T.lp (fun (q:Int)=>0 ≤ q∧q ≤ (a.length:Int)∧∀ i:Nat,(i:Int) < q→a[i]?=b[i]?) (fun (q:Int)=>((a.length:Int) - q).toNat) ⟨Int.le_refl _,by omega,fun i h=>by omega⟩ (by omega) fun L q ⟨h1,h2,h3⟩ hL=>?_
  rw [hF]
  refine T.br (fun hb=>?_) fun hb=>T.some ⟨fun _=>?_,fun _=>rfl⟩
  · have hb:=zOT hb
    refine T.get h1 hb fun y hy=>T.get h1 (by omega) fun z hz=>T.cal (hE y (List.mem_of_getElem? hy) z) fun w _ hw=>T.br (fun he=>T.some ⟨fun h=>(by cases h),fun e=>?_⟩) fun he=>T.ck (by omega) (hL _ ⟨by omega,by omega,fun i hi=>?_⟩ (by omega))
    · subst e
      rw [hy] at hz;cases hz
      rw [hw.2 rfl] at he;cases he
    · have he:y=z:=hw.1 (by simpa using he)
      rcases Int.lt_or_le (i:Int) q with h | h
      · exact h3 i h
      · have:i=q.toNat:=by omega
        rw [this,hy,hz,he]
  · have hb:=zOF hb
    refine List.ext_getElem? fun i=>?_
    rcases Nat.lt_or_ge i a.length with h | h
    · exact h3 i (by omega)
    · rw [List.getElem?_eq_none h,List.getElem?_eq_none (by omega)]
theorem ztc (x y:Raw):T (fun r=>r=true ↔ x=y) (zoG x y):=by
  unfold zoG
  refine T.andI (P:=x.n=y.n) (Q:=x.b=y.b) decide_eq_true_iff (fun J kk=>T.eq (y:=decide (Str.mk x.b=Str.mk y.b)) rfl (kk _ ?_)) fun b hb=>T.some ?_
  · rw [decide_eq_true_iff]
    exact ⟨fun h=>congrArg Str.b h,fun h=>by rw [h]⟩
  · rw [hb]
    obtain ⟨a,b⟩:=x
    obtain ⟨c,d⟩:=y
    exact ⟨fun ⟨h1,h2⟩=>(by cases h1;cases h2;rfl),fun h=>by cases h;exact ⟨rfl,rfl⟩⟩
theorem zkv:∀ {k n:Nat} {f:Val},cnt f ≤ k→2 * k ≤ n→Fine f→∀ g,T (fun r=>r=true ↔ f=g) (zey n f g):=by
  intro k
  induction k with
  | zero=>intro n f h;have:=zc5 f;omega
  | succ k ih =>
    intro n f hk hn hf g
    obtain ⟨n,rfl⟩:∃ n',n=n' + 2:=⟨n - 2,by omega⟩
    show T _ (zfM (zda (n + 1)) (zey (n + 1)) f g)
    unfold zfM
    refine T.andI (P:=f.kind=g.kind) (Q:=f.n=g.n) decide_eq_true_iff (fun J kk=>kk _ decide_eq_true_iff) fun b1 h1=>?_
    refine T.andI (Q:=f.b=g.b) h1 (fun J kk=>T.eq (y:=decide (Str.mk f.b=Str.mk g.b)) rfl (kk _ ?_)) fun b2 h2=>?_
    · rw [decide_eq_true_iff]
      exact ⟨fun h=>congrArg Str.b h,fun h=>by rw [h]⟩
    refine T.andI (Q:=f.l=g.l) h2 (fun J kk=>T.cal (Q:=fun r=>r=true ↔ f.l=g.l) ?_ fun r _ hr=>kk _ hr) fun b3 h3=>?_
    · show T _ (zbH (zda n) (zey n) f.l g.l)
      unfold zbH
      exact zlb f.l g.l hf.l (fun x hx y=>ih (by have:=zcN hx;omega) (by omega) (hf.kid x hx) y) fun L q=>rfl
    refine T.andI (Q:=f.rule=g.rule) h3 (fun J kk=>kk _ decide_eq_true_iff) fun b4 h4=>?_
    refine T.andI (Q:=f.more=g.more) h4 (fun J kk=>T.cal (Q:=fun r=>r=true ↔ f.more=g.more) ?_ fun r _ hr=>kk _ hr) fun b5 h5=>T.some ?_
    · unfold zdS
      exact zlb f.more g.more hf.more (fun x hx y=>ztc x y) fun L q=>rfl
    · rw [h5,← Val.eta f,← Val.eta g]
      constructor
      · rintro ⟨⟨⟨⟨⟨e1,e2⟩,e3⟩,e4⟩,e5⟩,e6⟩
        simp only [Val.eta] at e1 e2 e3 e4 e5 e6
        rw [e1,e2,e3,e4,e5,e6]
      · intro h
        rw [Val.eta,Val.eta] at h
        subst h
        exact ⟨⟨⟨⟨⟨rfl,rfl⟩,rfl⟩,rfl⟩,rfl⟩,rfl⟩
theorem zr2:∀ {n:Nat} {v:Val},cnt v ≤ n→Fine v→zi4 n v=some (bare v):=by
  intro n
  induction n with
  | zero=>intro v h;have:=zc5 v;omega
  | succ n ih =>
    intro v hn hf
    refine T.eqs ?_
    show T _ (zgz (zi4 n) v)
    unfold zgz
    have hfl:=hf.l
    rw [zoa]
    refine T.or' (T.br (fun h=>T.some ?_) fun h=>?_)
    · have:(decide (v.kind=12) || decide (0 < v.more.length))=true:=by
        rw [← h];congr 1;rw [decide_eq_decide];omega
      rw [this];rfl
    have hno:(decide (v.kind=12) || decide (0 < v.more.length))=false:=by
      rw [← h];congr 1;rw [decide_eq_decide];omega
    rw [hno]
    refine T.lp (fun (q:Int)=>0 ≤ q∧q ≤ (v.l.length:Int)∧((v.l.take q.toNat).map bare).all id=true) (fun (q:Int)=>((v.l.length:Int) - q).toNat) ⟨Int.le_refl _,by omega,rfl⟩ (by omega) fun L q ⟨q1,q2,q3⟩ hL=>T.br (fun hb=>?_) fun hb=>T.some ?_
    · have hb:=zOT hb
      refine T.get q1 hb fun y hy=>?_
      have hm:=List.mem_of_getElem? hy
      have hk:=zcN hm
      refine T.eq (ih (by omega) (hf.kid _ hm)) (T.br (fun h2=>T.some ?_) fun h2=>T.ck (by omega) (hL _ ⟨by omega,by omega,?_⟩ (by omega)))
      · have h2:bare y=false:=by simpa using h2
        have:(v.l.map bare).all id=false:=by
          rw [List.all_eq_false]
          exact ⟨bare y,List.mem_map.2 ⟨y,hm,rfl⟩,by rw [h2];decide⟩
        rw [this];rfl
      · have h2:bare y=true:=by simpa using h2
        have e:(q + 1).toNat=q.toNat + 1:=by omega
        rw [e,List.take_add_one,hy,List.map_append,List.all_append,q3]
        show (true && (bare y && true))=true
        rw [h2];rfl
    · have hb:=zOF hb
      rw [List.take_of_length_le (by omega)] at q3
      rw [q3];rfl
theorem zrq:∀ {m n:Nat} {v:Val} {left:Int},0 ≤ left→left < m→left ≤ 100000→m ≤ n→FineM v→T (fun r=>r.1=true→0 ≤ r.2∧r.2 + cnt v ≤ left∧Fine v) (zkO n v left):=by
  intro m
  induction m with
  | zero=>intro n v left h1 h2;omega
  | succ m ih =>
    intro n v left h1 h2 h3 hn hf
    obtain ⟨n,rfl⟩:∃ n',n=n' + 1:=⟨n - 1,by omega⟩
    show T _ (zht (zkO n) v left)
    unfold zht
    have hb:=hf.b
    have hm:=hf.more
    have hl:=hf.l
    have e1:((v.b.length:Int).tdiv 50)=(v.b.length:Int) / 50:=Int.tdiv_eq_ediv_of_nonneg (by omega)
    rw [e1]
    refine T.asr (by decide) (T.ck (by omega) (T.ck (by omega) (T.ck (by omega) (T.ck (by omega) ?_))))
    refine T.lp (ι:=Int × Int) (fun q=>0 ≤ q.1∧q.1 ≤ (v.more.length:Int)∧q.2 ≤ left - 1 - (v.b.length:Int) / 50 - (v.more.length:Int)∧-1000000000000000 ≤ q.2∧∀ k:Nat,(k:Int) < q.1→∀ r:Raw,v.more[k]?=some r→q.2 + (r.b.length:Int) / 50 ≤ left) (fun q=>((v.more.length:Int) - q.1).toNat) ⟨Int.le_refl _,by dsimp only;omega,by dsimp only;omega,by dsimp only;omega,fun k hk=>by dsimp only at hk;omega⟩ (by dsimp only;omega) fun L q ⟨q1,q2,q3,q4,q5⟩ hL=>?_
    obtain ⟨i,lf⟩:=q
    dsimp only at q1 q2 q3 q4 q5 hL ⊢
    refine T.and' (T.br (fun hc=>?_) fun hc=>?_)
    · rw [Bool.and_eq_true] at hc
      have c1:=zOT hc.1
      have c2:=zOT hc.2
      refine T.get q1 c1 fun r hr=>?_
      have hrb:=hf.raw r (List.mem_of_getElem? hr)
      have e2:((r.b.length:Int).tdiv 50)=(r.b.length:Int) / 50:=Int.tdiv_eq_ediv_of_nonneg (by omega)
      rw [e2]
      refine T.asr (by decide) (T.ck (by omega) (T.ck (by omega) (T.ck (by omega) (hL _ ⟨by dsimp only;omega,by dsimp only;omega,by dsimp only;omega,by dsimp only;omega,fun k hk r' hr'=>?_⟩ (by dsimp only;omega)))))
      dsimp only at hk ⊢
      rcases Int.lt_or_le (k:Int) i with h4 | h4
      · have:=q5 k h4 r' hr'
        omega
      · have:k=i.toNat:=by omega
        rw [this,hr] at hr';cases hr'
        omega
    refine T.br (fun _=>T.some fun h=>by cases h) fun h0=>?_
    have h0:=zOF h0
    have hall:i=(v.more.length:Int):=by
      rw [Bool.and_eq_false_iff] at hc
      rcases hc with hc | hc
      · have:=zOF hc;omega
      · have:=zOF hc;omega
    clear hL
    have hraw:∀ r ∈ v.more,r.b.length ≤ 68719476736:=fun r hr=>by
      obtain ⟨k,hk⟩:=List.mem_iff_getElem?.1 hr
      have hlt:=(List.getElem?_eq_some_iff.1 hk).1
      have:=q5 k (by omega) r hk
      omega
    refine T.lp (ι:=Int × Int) (fun p=>0 ≤ p.1∧p.1 ≤ (v.l.length:Int)∧0 ≤ p.2∧p.2 + (((v.l.take p.1.toNat).map cnt).sum:Nat) ≤ lf∧∀ k:Nat,(k:Int) < p.1→∀ w,v.l[k]?=some w→Fine w) (fun p=>((v.l.length:Int) - p.1).toNat) ⟨Int.le_refl _,by dsimp only;omega,by dsimp only;omega,by show lf + ((([]:List Val).map cnt).sum:Nat) ≤ lf;simp,fun k hk=>by dsimp only at hk;omega⟩ (by dsimp only;omega) fun L p ⟨p1,p2,p3,p4,p5⟩ hL=>?_
    obtain ⟨j,lg⟩:=p
    dsimp only at p1 p2 p3 p4 p5 hL ⊢
    refine T.br (fun hc=>?_) fun hc=>T.some fun _=>⟨p3,?_,?_⟩
    · have hc:=zOT hc
      refine T.get p1 hc fun y hy=>?_
      refine T.cal (ih p3 (by omega) (by omega) (by omega) (hf.kid y (List.mem_of_getElem? hy))) fun r _ hr=>T.br (fun _=>T.some fun h=>by cases h) fun hr2=>?_
      obtain ⟨r1,r2,r3⟩:=hr (by simpa using hr2)
      have e:(j + 1).toNat=j.toNat + 1:=by omega
      refine T.ck (by omega) (hL _ ⟨by dsimp only;omega,by dsimp only;omega,r1,?_,fun k hk w hw=>?_⟩ (by dsimp only;omega))
      · dsimp only
        rw [e,List.take_add_one,hy,List.map_append,List.sum_append]
        simp only [Option.toList_some,List.map_cons,List.map_nil,List.sum_cons,List.sum_nil]
        omega
      · dsimp only at hk
        rcases Int.lt_or_le (k:Int) j with h4 | h4
        · exact p5 k h4 w hw
        · have:k=j.toNat:=by omega
          rw [this,hy] at hw;cases hw
          exact r3
    · have hc:=zOF hc
      rw [List.take_of_length_le (by omega)] at p4
      rw [zeD]
      omega
    · have hc:=zOF hc
      have hcl:v.l.length ≤ 68719476736:=by
        rw [List.take_of_length_le (by omega)] at p4
        have:=zqF zc5 (l:=v.l)
        omega
      refine .mk (by omega) hcl (by omega) hraw fun w hw=>?_
      obtain ⟨k,hk⟩:=List.mem_iff_getElem?.1 hw
      have hlt:=(List.getElem?_eq_some_iff.1 hk).1
      exact p5 k (by omega) w hk
theorem zru {v:Val} (hf:FineM v):T (fun r=>r=true→cnt v ≤ 2000∧Fine v) (zkG v 2000):=by
  unfold zkG
  exact T.cal (zrq (m:=2001) (by decide) (by decide) (by decide) (by unfold fuel;omega) hf) fun r _ hr=>T.some fun h=>by
    obtain ⟨h1,h2,h3⟩:=hr h
    exact ⟨by omega,h3⟩
theorem zp9:∀ {n:Nat} {v:Val},cnt v ≤ n→cnt v ≤ 1000000→Fine v→zhQ n v=some (cnt v:Int):=by
  intro n
  induction n with
  | zero=>intro v h;have:=zc5 v;omega
  | succ n ih =>
    intro v hn h6 hf
    refine T.eqs ?_
    show T _ (zgb (zhQ n) v)
    unfold zgb
    have hfl:=hf.l
    have hc:=zeD v
    refine T.lp (ι:=Int × Int) (fun q=>0 ≤ q.2∧q.2 ≤ (v.l.length:Int)∧q.1=1 + (((v.l.take q.2.toNat).map cnt).sum:Nat)) (fun q=>((v.l.length:Int) - q.2).toNat) ⟨Int.le_refl _,by dsimp only;omega,by show (1:Int)=1 + ((([]:List Val).map cnt).sum:Nat);simp⟩ (by dsimp only;omega) fun L q ⟨q1,q2,q3⟩ hL=>?_
    obtain ⟨c,i⟩:=q
    dsimp only at q1 q2 q3 hL ⊢
    refine T.br (fun hb=>?_) fun hb=>T.some ?_
    · have hb:=zOT hb
      refine T.get q1 hb fun y hy=>?_
      have hm:=List.mem_of_getElem? hy
      have hk:=zcN hm
      have e:(i + 1).toNat=i.toNat + 1:=by omega
      have hs:((v.l.take (i.toNat + 1)).map cnt).sum=((v.l.take i.toNat).map cnt).sum + cnt y:=by
        rw [List.take_add_one,hy,List.map_append,List.sum_append]
        simp
      have hle:((v.l.take (i.toNat + 1)).map cnt).sum ≤ (v.l.map cnt).sum:=by
        conv=>rhs;rw [← List.take_append_drop (i.toNat + 1) v.l]
        rw [List.map_append,List.sum_append]
        omega
      refine T.eq (ih (by omega) (by omega) (hf.kid _ hm)) (T.ck (by omega) (T.ck (by omega) (hL _ ⟨by dsimp only;omega,by dsimp only;omega,?_⟩ (by dsimp only;omega))))
      dsimp only
      rw [e,hs,q3]
      omega
    · have hb:=zOF hb
      rw [List.take_of_length_le (by omega)] at q3
      rw [q3,hc]
      omega
theorem zrI:∀ {n:Nat} {v:Val},cnt v ≤ n→cnt v ≤ 1000000→Fine v→zf6 n v=some (cnt v:Int):=by
  intro n
  induction n with
  | zero=>intro v h;have:=zc5 v;omega
  | succ n ih =>
    intro v hn h6 hf
    refine T.eqs ?_
    show T _ (zeq (zf6 n) v)
    unfold zeq
    have hfl:=hf.l
    have hc:=zeD v
    refine T.lp (ι:=Int × Int) (fun q=>0 ≤ q.2∧q.2 ≤ (v.l.length:Int)∧q.1=1 + (((v.l.take q.2.toNat).map cnt).sum:Nat)) (fun q=>((v.l.length:Int) - q.2).toNat) ⟨Int.le_refl _,by dsimp only;omega,by show (1:Int)=1 + ((([]:List Val).map cnt).sum:Nat);simp⟩ (by dsimp only;omega) fun L q ⟨q1,q2,q3⟩ hL=>?_
    obtain ⟨c,i⟩:=q
    dsimp only at q1 q2 q3 hL ⊢
    refine T.br (fun hb=>?_) fun hb=>T.some ?_
    · have hb:=zOT hb
      refine T.get q1 hb fun y hy=>?_
      have hm:=List.mem_of_getElem? hy
      have hk:=zcN hm
      have e:(i + 1).toNat=i.toNat + 1:=by omega
      have hs:((v.l.take (i.toNat + 1)).map cnt).sum=((v.l.take i.toNat).map cnt).sum + cnt y:=by
        rw [List.take_add_one,hy,List.map_append,List.sum_append]
        simp
      have hle:((v.l.take (i.toNat + 1)).map cnt).sum ≤ (v.l.map cnt).sum:=by
        conv=>rhs;rw [← List.take_append_drop (i.toNat + 1) v.l]
        rw [List.map_append,List.sum_append]
        omega
      refine T.eq (ih (by omega) (by omega) (hf.kid _ hm)) (T.ck (by omega) (T.ck (by omega) (hL _ ⟨by dsimp only;omega,by dsimp only;omega,?_⟩ (by dsimp only;omega))))
      dsimp only
      rw [e,hs,q3]
      omega
    · have hb:=zOF hb
      rw [List.take_of_length_le (by omega)] at q3
      rw [q3,hc]
      omega
def pln (v:Val) (n b l m:Bool):Bool:=(n || decide (v.n=0)) && (b || decide ((v.b.length:Int)=0)) && (l || decide ((v.l.length:Int)=0)) && (m || (decide (v.rule=0) && decide ((v.more.length:Int)=0)))
theorem T.andJ {β:Type} {R:β→Prop} {c d:Bool} {M:(Bool→Option β)→Option β} {K:Bool→Option β} (hM:∀ J:Bool→Option β,T R (J d)→T R (M J)) (hK:T R (K (c && d))):T R (Sy.jp (fun J=>Sy.br c (M J) (J false)) K):=by
  cases c
  · exact hK
  · exact hM K hK
theorem T.orJ {β:Type} {R:β→Prop} {c d:Bool} {M:(Bool→Option β)→Option β} {K:Bool→Option β} (hM:∀ J:Bool→Option β,T R (J d)→T R (M J)) (hK:T R (K (c || d))):T R (Sy.jp (fun J=>Sy.br c (J true) (M J)) K):=by
  cases c
  · exact hM K hK
  · exact hK
theorem zdY (v:Val) (n b l m:Bool):zcI v n b l m=some (pln v n b l m):=by
  refine T.eqs ?_
  unfold zcI
  exact T.or' (T.andJ (fun J h=>T.or' h) (T.andJ (fun J h=>T.or' h) (T.andJ (fun J h=>T.orJ (fun J2 h2=>T.and' h2) h) (T.some rfl))))
theorem zea (v:Val) (u:Int) (h:0 ≤ u):zbJ v u=some (pln v (!decide (andI u 1=0)) (!decide (andI u 2=0)) (!decide (andI u 4=0)) (!decide (andI u 8=0))):=by
  refine T.eqs ?_
  unfold zbJ
  refine T.asd ⟨h,by decide⟩ (T.or' (T.andJ (fun J hh=>T.asd ⟨h,by decide⟩ (T.or' hh)) (T.andJ (fun J hh=>T.asd ⟨h,by decide⟩ (T.or' hh)) (T.andJ (fun J hh=>T.asd ⟨h,by decide⟩ (T.orJ (fun J2 h2=>T.and' h2) hh)) (T.some rfl)))))
theorem zlO (v:Val):zdp v=some (decide (v.kind=0) && pln v false false false false):=by
  refine T.eqs ?_
  unfold zdp
  refine T.andJ (d:=pln v false false false false) (fun J hh=>T.eq (zea v 0 (Int.le_refl _)) ?_) (T.some rfl)
  have e:pln v (!decide (andI 0 1=0)) (!decide (andI 0 2=0)) (!decide (andI 0 4=0)) (!decide (andI 0 8=0))=pln v false false false false:=rfl
  rw [e]
  exact hh
theorem zpu {v:Val}:(decide (v.kind=0) && pln v false false false false)=true ↔ v=Val.mk 0 0 [] [] 0 []:=by
  unfold pln
  simp only [Bool.false_or,Bool.and_eq_true,decide_eq_true_eq]
  constructor
  · rintro ⟨h1,⟨⟨h2,h3⟩,h4⟩,h5,h6⟩
    rw [← Val.eta v,h1,h2,h5,List.length_eq_zero_iff.1 (by omega:v.b.length=0),List.length_eq_zero_iff.1 (by omega:v.l.length=0),List.length_eq_zero_iff.1 (by omega:v.more.length=0)]
  · intro h
    subst h
    exact ⟨rfl,⟨⟨rfl,rfl⟩,rfl⟩,rfl,rfl⟩
theorem zpE (b:List UInt8) (hb:b.length ≤ 68719476736):T (fun r=>0 ≤ r.2.1∧r.2.1 ≤ (b.length:Int)) (zd0 b):=by
  unfold zd0
  refine T.lp (ι:=UInt64 × Int) (fun q=>0 ≤ q.2∧q.2 ≤ (b.length:Int)) (fun q=>((b.length:Int) - q.2).toNat) ⟨Int.le_refl _,by dsimp only;omega⟩ (by dsimp only;omega) fun L q ⟨q1,q2⟩ hL=>?_
  obtain ⟨v,i⟩:=q
  dsimp only at q1 q2 hL ⊢
  refine T.br (fun h=>?_) fun _=>T.some ⟨Int.le_refl _,by dsimp only;omega⟩
  have h:=zOT h
  refine T.jp (fun _=>True) (fun J kk=>T.br (fun _=>T.get (Int.le_refl _) (by omega) fun y _=>kk _ trivial) fun _=>kk _ trivial) fun b1 _=>T.or' (T.br (fun _=>T.some ⟨Int.le_refl _,by dsimp only;omega⟩) fun _=>?_)
  exact T.asr (by decide) (T.get q1 h fun y _=>T.get q1 h fun z _=>T.br (fun _=>T.ck (by omega) (T.some ⟨by dsimp only;omega,by dsimp only;omega⟩)) fun _=>T.ck (by omega) (hL _ ⟨by dsimp only;omega,by dsimp only;omega⟩ (by dsimp only;omega)))
theorem zsg (v:UInt64):(v >>> (8:UInt64)).toNat=v.toNat / 256:=by
  rw [UInt64.toNat_shiftRight]
  simp [Nat.shiftRight_eq_div_pow]
theorem zsJ {w:Nat} (h:255 < w):(w / 256).log2 < w.log2:=by
  have h2:w / 256 ≠ 0:=by omega
  refine (Nat.log2_lt h2).2 ?_
  have h3:w < 2 ^ (w.log2 + 1):=Nat.lt_log2_self
  rw [Nat.pow_succ] at h3
  generalize 2 ^ w.log2=p at h3 ⊢
  omega
theorem zoc (v:UInt64):T (fun r=>r.length ≤ 1000000) (zfp v):=by
  unfold zfp
  have hv:v.toNat.log2 ≤ 64:=by
    have:=v.toNat_lt
    rcases Nat.eq_zero_or_pos v.toNat with h0 | h0
    · rw [h0];decide
    · exact Nat.le_of_lt ((Nat.log2_lt (by omega)).2 this)
  refine T.lp (ι:=UInt64 × List UInt8) (fun q=>q.2.length + q.1.toNat.log2 ≤ 100) (fun q=>q.1.toNat.log2) (by show 1 + v.toNat.log2 ≤ 100;omega) (by dsimp only;omega) fun L q hq hL=>?_
  obtain ⟨w,l⟩:=q
  dsimp only at hq hL ⊢
  refine T.br (fun h=>?_) fun _=>T.some (by omega)
  have h:=zOT h
  have h1:255 < w.toNat:=UInt64.lt_iff_toNat_lt.1 h
  have hl:=zsJ h1
  rw [← zsg w] at hl
  refine T.abl (by show 1 + l.length ≤ _;omega) (hL _ ?_ hl)
  have e:(([(w >>> 8).toUInt8]:List UInt8) ++ l).length=1 + l.length:=by rw [List.length_append];rfl
  dsimp only
  rw [e];omega
theorem zlR (b:List UInt8):T (fun _=>True) (zdf b):=by
  unfold zdf
  refine T.br (fun _=>T.some trivial) fun _=>T.br (fun _=>T.some trivial) fun h=>?_
  have h:=zOF h
  refine T.lp (ι:=UInt64 × Int) (fun q=>0 ≤ q.2∧q.2 ≤ (b.length:Int)) (fun q=>((b.length:Int) - q.2).toNat) ⟨Int.le_refl _,by dsimp only;omega⟩ (by dsimp only;omega) fun L q ⟨q1,q2⟩ hL=>?_
  obtain ⟨v,i⟩:=q
  dsimp only at q1 q2 hL ⊢
  refine T.br (fun hc=>?_) fun _=>T.cal (zoc v) fun y _ _=>T.eq (y:=decide (Str.mk y=Str.mk b)) rfl (T.br (fun _=>T.some trivial) fun _=>T.some trivial)
  have hc:=zOT hc
  exact T.asr (by decide) (T.get q1 hc fun y _=>T.ck (by omega) (hL _ ⟨by dsimp only;omega,by dsimp only;omega⟩ (by dsimp only;omega)))
theorem ztd (b:List UInt8) (hb:b.length ≤ 68719476736):T (fun r=>r.2.2.2.2=0→0 ≤ r.2.2.2.1∧r.2.2.2.1 ≤ (b.length:Int)∧0 ≤ r.2.2.1∧r.2.2.1 ≤ 4294967296) (zfj b):=by
  unfold zfj
  refine T.br (fun _=>T.some fun h=>by cases h) fun h0=>?_
  have h0:=zOF h0
  refine T.get (Int.le_refl _) (by omega) fun y2 _=>T.asr (by decide) (T.get (Int.le_refl _) (by omega) fun y4 _=>T.get (Int.le_refl _) (by omega) fun y6 _=>?_)
  refine T.jp (ι:=Int × Tag) (fun q=>1 ≤ q.1∧q.1 ≤ 1 + (b.length:Int)) (fun J kk=>T.br (fun _=>T.asd ⟨by omega,by omega,Int.le_refl _⟩ ?_) fun _=>kk _ ⟨Int.le_refl _,by dsimp only;omega⟩) fun q ⟨q1,q2⟩=>?_
  · have hl:((b.take ((b.length:Int)).toNat).drop ((1:Int)).toNat).length ≤ b.length:=by rw [List.length_drop,List.length_take];omega
    refine T.cal (zpE _ (by omega)) fun y10 _ ⟨g1,g2⟩=>T.br (fun h=>T.some fun e=>absurd e (by simpa using h)) fun _=>T.or' (T.br (fun _=>T.some fun h=>by cases h) fun hno=>?_)
    rw [Bool.or_eq_false_iff] at hno
    have h5:=zOF hno.2
    have h6:y10.1.toNat ≤ 268435456:=by
      have:¬ (268435456:UInt64).toNat < y10.1.toNat:=fun h=>h5 (UInt64.lt_iff_toNat_lt.2 h)
      have e:(268435456:UInt64).toNat=268435456:=rfl
      omega
    exact T.ck (by omega) (T.ck (by omega) (kk _ ⟨by dsimp only;omega,by dsimp only;omega⟩))
  refine T.br (fun _=>T.some fun h=>by cases h) fun h1=>?_
  have h1:=zOF h1
  refine T.get (by omega) (by omega) fun y16 _=>T.ck (by omega) ?_
  have hy:=y16.toNat_lt
  refine T.jp (ι:=Int × Int) (fun p=>0 ≤ p.1∧p.1 ≤ (b.length:Int)∧0 ≤ p.2∧p.2 ≤ 4294967296) (fun J kk=>T.br (fun h2=>?_) fun _=>kk _ ⟨by dsimp only;omega,by dsimp only;omega,by dsimp only;omega,by dsimp only;omega⟩) fun p hp=>T.some fun _=>⟨hp.1,hp.2.1,hp.2.2.1,hp.2.2.2⟩
  have h2:=zOT h2
  refine T.ck (by omega) (T.or' (T.br (fun _=>T.some fun h=>by cases h) fun h3=>T.ck (by omega) (T.br (fun _=>T.some fun h=>by cases h) fun h4=>T.ck (by omega) (T.asd ⟨by omega,by omega,?_⟩ (T.cal (zlR _) fun y27 _ _=>T.or' (T.or' (T.br (fun _=>T.some fun h=>by cases h) fun h5=>?_)))))))
  · have h4:=zOF h4
    omega
  · have h4:=zOF h4
    rw [Bool.or_eq_false_iff] at h5
    have h6:=zOF h5.2
    have h7:y27.1.toNat ≤ 2147483647:=by
      have:¬ (2147483647:UInt64).toNat < y27.1.toNat:=fun h=>h6 (UInt64.lt_iff_toNat_lt.2 h)
      have e:(2147483647:UInt64).toNat=2147483647:=rfl
      omega
    exact T.ck (by omega) (T.ck (by omega) (kk _ ⟨by dsimp only;omega,by dsimp only;omega,by dsimp only;omega,by dsimp only;omega⟩))
theorem zsc (b:List UInt8) (hb:b.length ≤ 68719476736):T (fun _=>True) (ziX b):=by
  unfold ziX
  refine T.cal (ztd b hb) fun y _ hy=>T.br (fun _=>T.some trivial) fun h=>?_
  obtain ⟨h1,h2,h3,h4⟩:=hy (by simpa using h)
  refine T.ck (by omega) (T.br (fun _=>T.some trivial) fun h5=>?_)
  have h5:=zOF h5
  refine T.ck (by omega) (T.asd ⟨by omega,by omega,by omega⟩ (T.ck (by omega) (T.cal (Q:=fun _=>True) (by
    unfold zhb
    exact T.abl (by rw [List.length_nil,List.length_drop,List.length_take];omega) (T.some trivial)) fun _ _ _=>T.some trivial)))
def rng (a b:Int):List Int:=(List.range (b - a).toNat).map fun (i:Nat)=>a + (i:Int)
theorem ze6 {a b:Int} (h:b ≤ a):rng a b=[]:=by
  unfold rng
  have:(b - a).toNat=0:=by omega
  rw [this];rfl
theorem zg5 {a b:Int} (h:a ≤ b):rng a (b + 1)=rng a b ++ [b]:=by
  unfold rng
  have:(b + 1 - a).toNat=(b - a).toNat + 1:=by omega
  rw [this,List.range_succ,List.map_append]
  congr 1
  show [a + (((b - a).toNat:Nat):Int)]=[b]
  congr 1
  omega
theorem ziu {a b:Int}:(rng a b).length=(b - a).toNat:=by unfold rng;rw [List.length_map,List.length_range]
theorem ztF {a b:Int} {k:Nat} (h:a + k < b):(rng a b)[k]?=some (a + k):=by
  unfold rng
  rw [List.getElem?_map,List.getElem?_range (by omega)]
  rfl
def grp (fs:List GFld) (k:Int):Int:=((fs[k.toNat]?).map fun f=>f.group).getD 0
def slot1 (c:Bool) (fs:List GFld) (out:List (List Int)) (k:Int):List (List Int) :=
  if (c && decide (0 < grp fs k) && decide (0 < out.length))=true∧grp fs (k - 1)=grp fs k then out.set (out.length - 1) ((out[out.length - 1]?).getD [] ++ [k]) else out ++ [[k]]
def slots (x:GTyp):List (List Int):=(rng x.root x.fields.length).foldl (slot1 (!decide (x.kind=9)) x.fields) []
def slotsT (t:GTab) (i:Int):List (List Int):=match (if 0 ≤ i then t.types[i.toNat]? else none) with
  | none=>[]
  | some x=>if x.kind=7 ∨ x.kind=8 ∨ x.kind=9 then slots x else []
theorem zlI (c:Bool) (fs:List GFld) (out:List (List Int)) (k:Int):(slot1 c fs out k).length ≤ out.length + 1∧0 < (slot1 c fs out k).length:=by
  unfold slot1
  split
  · rename_i h
    have h1:=h.1
    rw [Bool.and_eq_true] at h1
    have h2:=zOT h1.2
    rw [List.length_set]
    omega
  · rw [List.length_append,List.length_singleton]
    omega
theorem zgG {c:Bool} {fs:List GFld}:∀ (l:List Int) (out:List (List Int)) (n:Nat),out.length ≤ n→(∀ s ∈ out,s.length ≤ n)→(l.foldl (slot1 c fs) out).length ≤ n + l.length∧∀ s ∈ l.foldl (slot1 c fs) out,s.length ≤ n + l.length:=by
  intro l
  induction l with
  | nil=>intro out n h1 h2;exact ⟨h1,h2⟩
  | cons k r ih =>
    intro out n h1 h2
    have := ih (slot1 c fs out k) (n + 1) (by have:=(zlI c fs out k).1;omega) (fun s hs=>by
      unfold slot1 at hs
      split at hs
      · rcases List.mem_or_eq_of_mem_set hs with h | h
        · have:=h2 s h;omega
        · rw [h,List.length_append,List.length_singleton]
          cases hg:out[out.length - 1]? with
          | none=>simp
          | some y =>
            have:=h2 y (List.mem_of_getElem? hg)
            show y.length + 1 ≤ n + 1
            omega
      · rcases List.mem_append.1 hs with h | h
        · have:=h2 s h;omega
        · rw [List.mem_singleton.1 h]
          show 1 ≤ n + 1
          omega)
    rw [List.foldl_cons,List.length_cons]
    have e:n + 1 + r.length=n + (r.length + 1):=by omega
    rw [e] at this
    exact this
theorem kindNot {x:Int} {β:Type} {R:β→Prop} {K:Bool→Option β} (h:T R (K (!decide (x=7 ∨ x=8 ∨ x=9)))) :
    T R (Sy.jp (fun J5=>Sy.br (!decide (x=7)) (J5 (!decide (x=8))) (J5 false)) fun q=>Sy.jp (fun J8=>Sy.br q (J8 (!decide (x=9))) (J8 false)) K):=by
  refine T.and' (T.and' ?_)
  have:((!decide (x=7)) && (!decide (x=8)) && !decide (x=9))=!decide (x=7 ∨ x=8 ∨ x=9):=by
    rw [Bool.eq_iff_iff]
    simp only [Bool.and_eq_true,Bool.not_eq_true',decide_eq_false_iff_not,not_or]
    exact and_assoc
  rw [this]
  exact h
theorem zf3 {h:Nat} {l:List GTyp} {x:GTyp} {i j:Nat} (hk:Kids (SubT h l) (kidsT x) i j) (hj:j ≤ l.length) (hl:l.length ≤ 1000):x.fields.length ≤ 1000:=by
  have:=zkW hk
  unfold kidsT at this
  rw [List.length_append,List.length_map] at this
  omega
theorem zkk {t:GTab} (ht:TabOk t) (i:Int):zfE t i=some (slotsT t i):=by
  refine T.eqs ?_
  unfold zfE
  refine T.cal (Q:=fun r=>r=decide (0 ≤ i∧i < t.types.length)) (by
    unfold zjI
    refine T.and' (T.some ?_)
    rw [Bool.eq_iff_iff]
    simp) fun y _ hy=>?_
  subst hy
  have htl:=ht.types
  by_cases hi:0 ≤ i∧i < t.types.length
  · rw [zDT hi]
    refine T.br (fun h=>by cases h) fun _=>?_
    obtain ⟨x,hx⟩:∃ x,t.types[i.toNat]?=some x:=⟨_,List.getElem?_eq_getElem (by omega)⟩
    have hs:slotsT t i=if x.kind=7 ∨ x.kind=8 ∨ x.kind=9 then slots x else []:=by unfold slotsT;rw [if_pos hi.1,hx]
    rw [hs]
    refine T.get hi.1 hi.2 fun x' hx'=>?_
    rw [hx] at hx';cases hx'
    refine kindNot (T.br (fun h=>T.some ?_) fun h=>?_)
    · rw [if_neg (zOF ((Bool.not_eq_true' _).mp h))]
    have hk:x.kind=7 ∨ x.kind=8 ∨ x.kind=9:=zOT ((Bool.not_eq_false' _).mp h)
    rw [if_pos hk]
    obtain ⟨j,hj⟩:=SubT.sub ht.kids i.toNat (by omega) (by omega)
    have hjl:=hj.inb
    obtain ⟨x'',hx'',hok,hkid⟩:=hj
    rw [hx] at hx'';cases hx''
    have hfl:=zf3 hkid hjl (by omega)
    have hr0:=hok.root0
    have hr1:=hok.rootF hk
    refine T.lp (ι:=List (List Int) × Int) (fun q=>x.root ≤ q.2∧q.2 ≤ (x.fields.length:Int)∧q.1=(rng x.root q.2).foldl (slot1 (!decide (x.kind=9)) x.fields) []∧(0 < q.1.length ↔ x.root < q.2)) (fun q=>((x.fields.length:Int) - q.2).toNat) ⟨Int.le_refl _,hr1,by dsimp only;rw [ze6 (Int.le_refl _)];rfl,by dsimp only [List.length_nil];omega⟩ (by dsimp only;omega) fun L q ⟨q1,q2,q3,q4⟩ hL=>?_
    obtain ⟨out,k⟩:=q
    dsimp only at q1 q2 q3 q4 hL ⊢
    refine T.br (fun hb=>?_) fun hb=>T.some ?_
    · have hb:=zOT hb
      have hfold:=zgG (c:=!decide (x.kind=9)) (fs:=x.fields) (rng x.root k) [] 0 (Nat.le_refl _) (fun s hs=>by cases hs)
      rw [← q3,ziu] at hfold
      have hol:out.length ≤ 1000:=by omega
      refine T.jp (ι:=List (List Int)) (fun o=>o=slot1 (!decide (x.kind=9)) x.fields out k) (fun J kk=>T.get (by omega) hb fun f hf=>T.and' (T.and' (T.jp (fun b=>b=true ↔ (!decide (x.kind=9) && decide (0 < f.group) && decide (x.root < k))=true∧grp x.fields (k - 1)=f.group) (fun J2 k2=>T.br (fun h1=>?_) fun h1=>k2 _ ⟨fun h=>(by cases h),fun h=>by rw [h1] at h;cases h.1⟩) fun b hb2=>?_))) fun o ho=>T.ck (by omega) (hL _ ⟨by dsimp only;omega,by dsimp only;omega,by dsimp only;rw [zg5 q1,List.foldl_append,← q3,ho];rfl,by dsimp only;rw [ho];exact ⟨fun _=>by omega,fun _=>(zlI _ _ _ _).2⟩⟩ (by dsimp only;omega))
      · have h2:=h1
        rw [Bool.and_eq_true] at h2
        have h3:=zOT h2.2
        refine T.ck (by omega) (T.get (by omega) (by omega) fun g hg=>k2 _ ?_)
        rw [decide_eq_true_iff,h1]
        have:grp x.fields (k - 1)=g.group:=by unfold grp;rw [hg];rfl
        rw [this]
        exact ⟨fun h=>⟨rfl,h⟩,fun h=>h.2⟩
      · have hgf:grp x.fields k=f.group:=by unfold grp;rw [hf];rfl
        have hiff:decide (0 < out.length)=decide (x.root < k):=by rw [decide_eq_decide];exact q4
        refine T.br (fun hbt=>?_) fun hbf=>?_
        · have hc:=hb2.1 hbt
          have h2:=hc.1
          rw [Bool.and_eq_true] at h2
          have h3:=q4.2 (zOT h2.2)
          obtain ⟨y,hy⟩:∃ y,out[out.length - 1]?=some y:=⟨_,List.getElem?_eq_getElem (by omega)⟩
          have ei:(((out.length:Nat):Int) - 1).toNat=out.length - 1:=by omega
          have hyl:=hfold.2 y (List.mem_of_getElem? hy)
          have hs1:slot1 (!decide (x.kind=9)) x.fields out k=out.set (out.length - 1) (y ++ [k]):=by
            unfold slot1
            rw [hgf,hiff,if_pos hc,hy];rfl
          rw [hs1] at kk
          have hy':out[(((out.length:Nat):Int) - 1).toNat]?=some y:=by rw [ei];exact hy
          refine T.ck (by omega) (T.ck (by omega) (T.asd ⟨by omega,by omega⟩ (T.asd (by omega) (T.eq hy' (T.abl (by rw [List.length_singleton];omega) (T.asd ⟨by omega,by omega⟩ (T.asd (by omega) (T.eq hy' (kk _ ?_)))))))))
          rw [ei]
        · have hs1:slot1 (!decide (x.kind=9)) x.fields out k=out ++ [[k]]:=by
            unfold slot1
            rw [hgf,hiff,if_neg (fun h=>by rw [hb2.2 h] at hbf;cases hbf)]
          exact T.abl (by rw [List.length_singleton];omega) (kk _ hs1.symm)
    · have hb:=zOF hb
      have:k=x.fields.length:=by omega
      rw [q3,this];rfl
  · rw [zDF hi]
    refine T.br (fun _=>T.some ?_) fun h=>by cases h
    unfold slotsT
    split
    · rfl
    · rename_i x hx
      split at hx
      · have:=(List.getElem?_eq_some_iff.1 hx).1
        omega
      · cases hx
theorem zq6 (a b:Int) (h0:0 ≤ a) (hb:b ≤ 1000000) (hb0:0 ≤ b) (ha:a ≤ 1000000):zfl a b=some (rng a b):=by
  refine T.eqs ?_
  unfold zfl
  refine T.lp (ι:=List Int × Int) (fun q=>a ≤ q.2∧(q.2 ≤ b ∨ q.2=a)∧q.1=rng a q.2) (fun q=>(b - q.2).toNat) ⟨Int.le_refl _,.inr rfl,(ze6 (Int.le_refl _)).symm⟩ (by dsimp only;omega) fun L q ⟨q1,q2,q3⟩ hL=>?_
  obtain ⟨l,k⟩:=q
  dsimp only at q1 q2 q3 hL ⊢
  refine T.br (fun h=>?_) fun h=>T.some ?_
  · have h:=zOT h
    have hl:l.length=(k - a).toNat:=by rw [q3,ziu]
    exact T.abl (by rw [List.length_singleton];omega) (T.ck (by omega) (hL _ ⟨by dsimp only;omega,by dsimp only;omega,by dsimp only;rw [zg5 q1,q3]⟩ (by dsimp only;omega)))
  · have h:=zOF h
    rw [q3]
    rcases q2 with h2 | h2
    · have:k=b:=by omega
      rw [this]
    · subst h2
      rw [ze6 (Int.le_refl _),ze6 (by omega)]
theorem zrG {t:GTab} (ht:TabOk t) (i:Int):zeY t i=some (slotsT t i):=by
  refine T.eqs ?_
  unfold zeY
  have htl:=ht.types
  by_cases hi:0 ≤ i∧i < t.types.length
  · obtain ⟨x,hx⟩:∃ x,t.types[i.toNat]?=some x:=⟨_,List.getElem?_eq_getElem (by omega)⟩
    have hs:slotsT t i=if x.kind=7 ∨ x.kind=8 ∨ x.kind=9 then slots x else []:=by unfold slotsT;rw [if_pos hi.1,hx]
    rw [hs]
    refine T.cal (Q:=fun r=>r=x) (by
      unfold zf2
      refine T.or' (T.br (fun h=>?_) fun _=>T.get hi.1 hi.2 fun y hy=>T.some (by rw [hx] at hy;cases hy;rfl))
      rw [zDF (by omega),zDF (by omega)] at h
      cases h) fun y _ hy=>?_
    subst hy
    refine kindNot (T.br (fun h=>T.some ?_) fun h=>?_)
    · rw [if_neg (zOF ((Bool.not_eq_true' _).mp h))]
    have hk:y.kind=7 ∨ y.kind=8 ∨ y.kind=9:=zOT ((Bool.not_eq_false' _).mp h)
    rw [if_pos hk]
    obtain ⟨j,hj⟩:=SubT.sub ht.kids i.toNat (by omega) (by omega)
    have hjl:=hj.inb
    obtain ⟨x'',hx'',hok,hkid⟩:=hj
    rw [hx] at hx'';cases hx''
    have hfl:=zf3 hkid hjl (by omega)
    have hr0:=hok.root0
    have hr1:=hok.rootF hk
    have hmx:max y.root 0=y.root:=by omega
    rw [hmx]
    refine T.eq (zq6 _ _ hr0 (by omega) (by omega) (by omega)) ?_
    have hpl:(rng y.root y.fields.length).length=((y.fields.length:Int) - y.root).toNat:=ziu
    refine T.lp (ι:=List (List Int) × Int) (fun q=>0 ≤ q.2∧q.2 ≤ (y.fields.length:Int) - y.root∧q.1=(rng y.root (y.root + q.2)).foldl (slot1 (!decide (y.kind=9)) y.fields) []∧(0 < q.1.length ↔ 0 < q.2)) (fun q=>(((y.fields.length:Int) - y.root) - q.2).toNat) ⟨Int.le_refl _,by dsimp only;omega,by dsimp only;rw [ze6 (by omega)];rfl,by dsimp only [List.length_nil];omega⟩ (by dsimp only;omega) fun L q ⟨q1,q2,q3,q4⟩ hL=>?_
    obtain ⟨out,p⟩:=q
    dsimp only at q1 q2 q3 q4 hL ⊢
    refine T.br (fun hb=>?_) fun hb=>T.some ?_
    · have hb:=zOT hb
      rw [hpl] at hb
      have hfold:=zgG (c:=!decide (y.kind=9)) (fs:=y.fields) (rng y.root (y.root + p)) [] 0 (Nat.le_refl _) (fun s hs=>by cases hs)
      rw [← q3,ziu] at hfold
      have hol:out.length ≤ 1000:=by omega
      have hget:(rng y.root y.fields.length)[p.toNat]?=some (y.root + p):=by
        rw [ztF (by omega)]
        congr 2
        omega
      refine T.jp (ι:=List (List Int)) (fun o=>o=slot1 (!decide (y.kind=9)) y.fields out (y.root + p)) (fun J kk=>T.asd ⟨by omega,by rw [hpl];omega⟩ (T.eq hget (T.ck (by omega) (T.get (by omega) (by omega) fun f hf=>T.and' (T.and' (T.jp (fun b=>b=true ↔ (!decide (y.kind=9) && decide (0 < f.group) && decide (0 ≤ ((out.length:Nat):Int) - 1))=true∧grp y.fields (y.root + p - 1)=f.group) (fun J2 k2=>T.br (fun h1=>?_) fun h1=>k2 _ ⟨fun h=>(by cases h),fun h=>by rw [h1] at h;cases h.1⟩) fun b hb2=>?_)))))) fun o ho=>T.ck (by omega) (hL _ ⟨by dsimp only;omega,by dsimp only;omega,by
          have e:y.root + (p + 1)=y.root + p + 1:=by omega
          dsimp only;rw [e,zg5 (by omega),List.foldl_append,← q3,ho];rfl,by dsimp only;rw [ho];exact ⟨fun _=>by omega,fun _=>(zlI _ _ _ _).2⟩⟩ (by dsimp only;omega))
      · have h2:=h1
        rw [Bool.and_eq_true] at h2
        have h3:=zOT h2.2
        have h4:0 < p:=q4.1 (by omega)
        refine T.ck (by omega) (T.get (by omega) (by omega) fun g hg=>k2 _ ?_)
        rw [decide_eq_true_iff,h1]
        have:grp y.fields (y.root + p - 1)=g.group:=by unfold grp;rw [hg];rfl
        rw [this]
        exact ⟨fun h=>⟨rfl,h⟩,fun h=>h.2⟩
      · have hgf:grp y.fields (y.root + p)=f.group:=by unfold grp;rw [hf];rfl
        have hiff:decide (0 < out.length)=decide (0 ≤ ((out.length:Nat):Int) - 1):=by rw [decide_eq_decide];omega
        refine T.br (fun hbt=>?_) fun hbf=>?_
        · have hc:=hb2.1 hbt
          have h2:=hc.1
          rw [Bool.and_eq_true] at h2
          have h3:=zOT h2.2
          obtain ⟨z,hz⟩:∃ z,out[out.length - 1]?=some z:=⟨_,List.getElem?_eq_getElem (by omega)⟩
          have ei:(((out.length:Nat):Int) - 1).toNat=out.length - 1:=by omega
          have hzl:=hfold.2 z (List.mem_of_getElem? hz)
          have hs1:slot1 (!decide (y.kind=9)) y.fields out (y.root + p)=out.set (out.length - 1) (z ++ [y.root + p]):=by
            unfold slot1
            rw [hgf,hiff,if_pos hc,hz];rfl
          rw [hs1] at kk
          have hz':out[(((out.length:Nat):Int) - 1).toNat]?=some z:=by rw [ei];exact hz
          refine T.asd ⟨by omega,by omega⟩ (T.asd (by omega) (T.eq hz' (T.abl (by rw [List.length_singleton];omega) (T.asd ⟨by omega,by omega⟩ (T.asd (by omega) (T.eq hz' (kk _ ?_)))))))
          rw [ei]
        · have hs1:slot1 (!decide (y.kind=9)) y.fields out (y.root + p)=out ++ [[y.root + p]]:=by
            unfold slot1
            rw [hgf,hiff,if_neg (fun h=>by rw [hb2.2 h] at hbf;cases hbf)]
          exact T.abl (by rw [List.length_singleton];omega) (kk _ hs1.symm)
    · have hb:=zOF hb
      rw [hpl] at hb
      have:y.root + p=y.fields.length:=by omega
      rw [q3,this];rfl
  · refine T.cal (Q:=fun r=>r.kind=0) (by
      unfold zf2
      refine T.or' (T.br (fun h=>T.some rfl) fun h=>?_)
      rw [Bool.or_eq_false_iff] at h
      have h1:=zOF h.1
      have h2:=zOF h.2
      omega) fun y _ hy=>?_
    refine kindNot (T.br (fun h=>T.some ?_) fun h=>?_)
    · unfold slotsT
      split
      · rfl
      · rename_i x hx
        split at hx
        · have:=(List.getElem?_eq_some_iff.1 hx).1
          omega
        · cases hx
    · have:=zOT ((Bool.not_eq_false' _).mp h)
      omega
theorem zqj:∀ {h n l i j},SubT h l i j→h ≤ n→l.length ≤ 1000→ze8 n l (i:Int)=some (bgs h l (i:Int)):=by
  intro h
  induction h with
  | zero=>intro n l i j h;exact h.elim
  | succ h ih =>
    intro n l i j hs hn hl
    obtain ⟨n,rfl⟩:∃ n',n=n' + 1:=⟨n - 1,by omega⟩
    have hjl:=hs.inb
    have hbl:=zli hs
    have hlt:=hs.lt
    obtain ⟨t,h1,h0,h2⟩:=hs
    have hti:(i:Int).toNat=i:=Int.toNat_natCast i
    have hget:∀ {β:Type} {R:β→Prop} {K:GTyp→Option β},T R (K t)→T R (cal (getI l (i:Int)) K):=fun h=>T.get (by omega) (by omega) fun y hy=>by rw [hti,h1] at hy;cases hy;exact h
    refine T.eqs ?_
    show T _ (zd3 (ze8 n) l (i:Int))
    unfold zd3
    rw [zqc h1] at hbl ⊢
    refine hget (T.br (fun hb=>hget (T.asd ⟨Int.le_refl _,by omega,by have:=zOT hb;omega⟩ (T.some ?_))) fun hb=>?_)
    · have hb:=zOT hb
      rw [if_pos (by omega)];rfl
    have hb:=zOF hb
    rw [if_neg (by omega)] at hbl ⊢
    have hfl:∀ (k:Nat),(((t.fields.take k).flatMap fun f=>bgs h l f.ty)).length ≤ 1000:=fun k=>by
      have:=zk4 (l:=t.fields) (f:=fun f=>bgs h l f.ty) (k:=k)
      omega
    have hfc:t.fields.length ≤ 1000:=by
      unfold kidsT at h2
      obtain ⟨c,h3,h4⟩:=Kids.app h2
      have e:∀ (r:List Int) (a b:Nat),Kids (SubT h l) r a b→r.length ≤ b - a:=by
        intro r
        induction r with
        | nil=>intro a b _;exact Nat.zero_le _
        | cons x r ih2 =>
          intro a b ⟨c,k0,k1,k2⟩
          have:=ih2 _ _ k2
          have:=k1.lt
          have:=Kids.le SubT.le' k2
          simp only [List.length_cons];omega
      have:=e _ _ _ h3
      rw [List.length_map] at this
      have:=Kids.le SubT.le' h4
      omega
    refine T.lp (ι:=List Tag × Int) (fun q=>0 ≤ q.2∧q.2 ≤ t.fields.length∧q.1=(t.fields.take q.2.toNat).flatMap fun f=>bgs h l f.ty) (fun q=>((t.fields.length:Int) - q.2).toNat) ⟨Int.le_refl _,by dsimp only;omega,rfl⟩ (by dsimp only;omega) fun L q ⟨q1,q2,q3⟩ hL=>?_
    obtain ⟨o,k⟩:=q
    dsimp only at q1 q2 q3 hL ⊢
    refine hget (T.br (fun hb2=>?_) fun hb2=>T.some ?_)
    · have hb2:=zOT hb2
      refine hget (T.get q1 hb2 fun f hf=>?_)
      obtain ⟨c,d,e1,e2,e3,e4⟩:=Kids.mem3 SubT.le' h2 (zlk f (List.mem_of_getElem? hf))
      rw [e1]
      have hk1:(k + 1).toNat=k.toNat + 1:=by omega
      have hnx:=znu (f:=fun f:GFld=>bgs h l f.ty) hf
      have hle:=hfl (k.toNat + 1)
      rw [hnx,List.length_append,e1] at hle
      have hle2:=hfl k.toNat
      refine T.eq (ih e2 (by omega) hl) (T.abl (by rw [q3];omega) (T.ck (by omega) (hL _ ⟨by dsimp only;omega,by dsimp only;omega,?_⟩ (by dsimp only;omega))))
      dsimp only
      rw [hk1,hnx,q3,e1]
    · have hb2:=zOF hb2
      rw [q3,List.take_of_length_le (by omega)]
def begT (t:GTab) (i:Int):List Tag:=bgs 17 t.types i
theorem zo6 {t:GTab} (ht:TabOk t) (i:Int):zgJ t i=some (begT t i):=by
  refine T.eqs ?_
  unfold zgJ
  have htl:=ht.types
  refine T.or' (T.br (fun h=>T.some ?_) fun h=>?_)
  · unfold begT
    have : bgs 17 t.types i=[]:=by
      unfold bgs
      have e:(if 0 ≤ i then t.types[i.toNat]? else none)=none:=by
        split
        · rw [Bool.or_eq_true] at h
          rcases h with h | h
          · have:=zOT h;omega
          · have:=zOT h
            exact List.getElem?_eq_none (by omega)
        · rfl
      rw [e]
    rw [this]
  · rw [Bool.or_eq_false_iff] at h
    have h1:=zOF h.1
    have h2:=zOF h.2
    obtain ⟨j,hj⟩:=SubT.sub ht.kids i.toNat (by omega) (by omega)
    have e:((i.toNat:Nat):Int)=i:=by omega
    have hb:=zqj hj (n:=fuel) (by unfold fuel;omega) (by omega)
    have hbl:=zli hj
    have hjl:=hj.inb
    rw [e] at hb hbl
    refine T.eq hb (T.abl (by rw [List.length_nil];omega) (T.some ?_))
    rw [List.nil_append];rfl
theorem zmW {t:GTab} (ht:TabOk t) {i:Int} (h0:0 ≤ i) (h1:i < t.types.length) (b:List UInt8) (hb:b.length ≤ 68719476736):T (fun _=>True) (zfC t i b):=by
  unfold zfC
  have htl:=ht.types
  obtain ⟨j,hj⟩:=SubT.sub ht.kids i.toNat (by omega) (by omega)
  have hjl:=hj.inb
  obtain ⟨x,hx,hok,hkid⟩:=hj
  have hfl:=zf3 hkid hjl (by omega)
  have hg:∀ {β:Type} {R:β→Prop} {K:GTyp→Option β},T R (K x)→T R (cal (getI t.types i) K):=fun h=>T.get h0 h1 fun y hy=>by rw [hx] at hy;cases hy;exact h
  refine T.cal (zsc b hb) fun y _ _=>T.or' (T.br (fun _=>T.some trivial) fun _=>hg ?_)
  refine T.jp (ι:=Int) (fun k=>0 ≤ k) (fun J kk=>T.br (fun h=>hg ?_) fun _=>kk _ (Int.le_refl _)) fun k hk=>?_
  · have h7:=zOT h
    exact T.eq (zqC x hfl hok.root0 (hok.rootF (.inl h7))) (kk _ (Int.natCast_nonneg _))
  refine T.lp (fun (q:Int)=>0 ≤ q) (fun (q:Int)=>((x.fields.length:Int) - q).toNat) hk (by omega) fun L q hq hL=>hg (T.br (fun h=>hg (T.get hq (zOT h) fun f hf=>?_)) fun _=>T.some trivial)
  have h:=zOT h
  refine T.eq (zo6 ht f.ty) (T.eq (znL _ _ ?_) (T.br (fun _=>T.some trivial) fun _=>T.ck (by omega) (hL _ (by omega) (by omega))))
  obtain ⟨c,d,e1,e2,e3,e4⟩:=Kids.mem3 SubT.le' hkid (zlk f (List.mem_of_getElem? hf))
  have:=zli (e2.ups (h':=17) (by decide))
  unfold begT
  rw [e1]
  omega
theorem zqd (x:GTyp) (n:Int) (hl:x.items.length ≤ 1000000):T (fun _=>True) (zf5 x n):=by
  unfold zf5
  refine T.lp (fun (q:Int)=>0 ≤ q∧q ≤ (x.items.length:Int)) (fun (q:Int)=>((x.items.length:Int) - q).toNat) ⟨Int.le_refl _,by omega⟩ (by omega) fun L q ⟨q1,q2⟩ hL=>T.br (fun h=>T.get q1 (zOT h) fun y _=>T.br (fun _=>T.some trivial) fun _=>T.ck (by have:=zOT h;omega) (hL _ ⟨by omega,by have:=zOT h;omega⟩ (by have:=zOT h;omega))) fun _=>T.some trivial
theorem zmG (b:List UInt8):T (fun _=>True) (zhK b):=by
  unfold zhK
  exact T.and' (T.some trivial)
theorem znf {t:GTab} (ht:TabOk t) {i:Int} (h0:0 ≤ i) (h1:i < t.types.length) {v:Val} (hf:Fine v):T (fun _=>True) (zfY t i v):=by
  unfold zfY
  have htl:=ht.types
  obtain ⟨j,hj⟩:=SubT.sub ht.kids i.toNat (by omega) (by omega)
  have hjl:=hj.inb
  obtain ⟨x,hx,hok,hkid⟩:=hj
  have hil:=hok.ilen
  have hr0:=hok.root0
  have hfl:=zf3 hkid hjl (by omega)
  have hr:x.root ≤ 1000000:=by
    by_cases h3:x.kind=3
    · have:=hok.rootI h3;omega
    · by_cases h7:x.kind=7 ∨ x.kind=8 ∨ x.kind=9
      · have:=hok.rootF h7;omega
      · rw [hok.rootZ h3 h7];decide
  refine T.get h0 h1 fun y hy=>?_
  rw [hx] at hy;cases hy
  refine T.jp (fun _=>True) (fun J kk=>T.br (fun _=>kk _ trivial) fun _=>T.jp (fun _=>True) (fun J2 k2=>T.br (fun _=>k2 _ trivial) fun _=>k2 _ trivial) fun b _=>kk _ trivial) fun b1 _=>T.or' (T.or' (T.br (fun _=>T.some trivial) fun _=>T.ck (by omega) ?_))
  refine T.jp (ι:=Int) (fun _=>True) (fun J kk=>T.br (fun _=>T.eq (zkk ht i) (kk _ trivial)) fun _=>kk _ trivial) fun k _=>T.and' (T.br (fun _=>T.cal (zmW ht h0 h1 v.b hf.b) fun y _ _=>T.and' (T.some trivial)) fun _=>T.br (fun _=>?_) fun _=>T.br (fun _=>?_) fun _=>T.some trivial)
  · exact T.jp (fun _=>True) (fun J kk=>T.br (fun _=>T.cal (zqd x _ (by omega)) fun y _ _=>kk _ trivial) fun _=>kk _ trivial) fun b _=>T.some trivial
  · refine T.and' (T.jp (fun _=>True) (fun J kk=>T.br (fun _=>T.jp (fun _=>True) (fun J2 k2=>T.br (fun _=>T.cal (zmG _) fun y _ _=>k2 _ trivial) fun _=>k2 _ trivial) fun b _=>T.jp (fun _=>True) (fun J2 k2=>T.br (fun _=>k2 _ trivial) fun _=>T.jp (fun _=>True) (fun J3 k3=>T.br (fun _=>k3 _ trivial) fun _=>k3 _ trivial) fun b _=>k2 _ trivial) fun b _=>kk _ trivial) fun _=>kk _ trivial) fun b _=>T.some trivial)
theorem zr8 (a b:Tag):T (fun _=>True) (zjl a b):=by
  unfold zjl
  first
    | exact T.br (fun _=>T.some trivial) fun _=>T.some trivial
    | exact T.jp (fun _=>True) (fun J kk=>T.br (fun _=>kk _ trivial) fun _=>T.jp (fun _=>True) (fun J2 k2=>T.br (fun _=>k2 _ trivial) fun _=>k2 _ trivial) fun b _=>kk _ trivial) fun b _=>T.some trivial
theorem zpK {t:GTab} (ht:TabOk t) {i:Int} (h0:0 ≤ i) (h1:i < t.types.length) {v:Val} (hf:Fine v):T (fun _=>True) (zg3 t i v):=by
  unfold zg3
  have hml:=hf.more
  refine T.br (fun _=>T.some trivial) fun _=>T.get h0 h1 fun x hx=>?_
  have hsl:(slotsT t i).length ≤ 100000∧0 ≤ (((slotsT t i).length:Nat):Int):=by
    refine ⟨?_,by omega⟩
    unfold slotsT
    rw [if_pos h0,hx]
    dsimp only
    split
    · have:=(zgG (c:=!decide (x.kind=9)) (fs:=x.fields) (rng x.root x.fields.length) [] 0 (Nat.le_refl _) (fun s hs=>by cases hs)).1
      rw [ziu] at this
      obtain ⟨j,hj⟩:=SubT.sub ht.kids i.toNat (by omega) (by omega)
      have hjl:=hj.inb
      have htl:=ht.types
      obtain ⟨x',hx',hok,hkid⟩:=hj
      rw [hx] at hx';cases hx'
      have hfl:=zf3 hkid hjl (by omega)
      have hr0:=hok.root0
      unfold slots
      omega
    · exact Nat.zero_le _
  refine T.jp (fun _=>True) (fun J kk=>T.br (fun _=>kk _ trivial) fun _=>T.jp (fun _=>True) (fun J2 k2=>T.br (fun _=>k2 _ trivial) fun _=>k2 _ trivial) fun b _=>kk _ trivial) fun b1 _=>T.br (fun _=>T.some trivial) fun _=>?_
  refine T.lp (ι:=Int × Tag) (fun q=>0 ≤ q.1∧q.1 ≤ (v.more.length:Int)∧(v.rule=2→∀ r,0 < q.1→v.more[(q.1 - 1).toNat]?=some r→0 ≤ r.n∧r.n < 1000)) (fun q=>((v.more.length:Int) - q.1).toNat) ⟨Int.le_refl _,by dsimp only;omega,fun _ r h=>by dsimp only at h;omega⟩ (by dsimp only;omega) fun L q ⟨q1,q2,q3⟩ hL=>?_
  obtain ⟨k,tg⟩:=q
  dsimp only at q1 q2 q3 hL ⊢
  refine T.br (fun hc=>?_) fun _=>T.some trivial
  have hc:=zOT hc
  obtain ⟨r,hr⟩:∃ r,v.more[k.toNat]?=some r:=⟨_,List.getElem?_eq_getElem (by omega)⟩
  have hrb:=hf.raw r (List.mem_of_getElem? hr)
  have ek:(k + 1 - 1).toNat=k.toNat:=by omega
  refine T.jp (ι:=Tag) (fun _=>v.rule=2→0 ≤ r.n∧r.n < 1000) (fun J kk=>T.get q1 hc fun y hy=>?_) fun tg2 hn=>T.ck (by omega) (hL _ ⟨by dsimp only;omega,by dsimp only;omega,fun h2 r' _ hr'=>by
    dsimp only at hr'
    rw [ek,hr] at hr';cases hr'
    exact hn h2⟩ (by dsimp only;omega))
  rw [hr] at hy;cases hy
  refine T.br (fun h2=>?_) fun h2=>?_
  · have h2:=zOT h2
    refine T.eq (zkk ht i) (T.jp (ι:=Int) (fun l=>0 ≤ l) (fun J2 k2=>T.br (fun hp=>?_) fun _=>k2 _ hsl.2) fun l hl=>T.or' (T.jp (fun b=>b=false→0 ≤ r.n∧r.n < 1000) (fun J3 k3=>T.br (fun _=>k3 _ fun h=>(by cases h)) fun h5=>T.cal (zmG _) fun y _ _=>k3 _ fun _=>?_) fun b hb=>T.br (fun _=>T.some trivial) fun h6=>kk _ fun _=>hb h6))
    · have hp:=zOT hp
      refine T.ck (by omega) (T.get (by omega) (by omega) fun z hz=>?_)
      have:=q3 h2 z hp hz
      exact T.ck (by omega) (k2 _ (by omega))
    · rw [Bool.or_eq_false_iff] at h5
      have h7:=zOF h5.1
      have h8:=zOF h5.2
      omega
  · have h2:=zOF h2
    refine T.cal (zmW ht h0 h1 _ hrb) fun y _ _=>T.or' (T.jp (fun _=>True) (fun J3 k3=>T.br (fun _=>k3 _ trivial) fun _=>T.get h0 h1 fun x2 _=>T.and' (T.jp (fun _=>True) (fun J4 k4=>T.br (fun _=>T.cal (zr8 _ _) fun y _ _=>k4 _ trivial) fun _=>k4 _ trivial) fun b _=>k3 _ trivial)) fun b _=>T.br (fun _=>T.some trivial) fun _=>kk _ fun h=>absurd h h2)
/-! ### Slots -/
def SlotOk (fs:List GFld) (a b:Int) (s:List Int):Prop:=∃ k0 r,s=k0 :: r∧(r=[] ∨ 0 < grp fs k0)∧∀ k ∈ s,a ≤ k∧k < b
theorem SlotOk.mono {fs:List GFld} {a b b':Int} {s:List Int} (h:SlotOk fs a b s) (hb:b ≤ b'):SlotOk fs a b' s:=by
  obtain ⟨k0,r,h1,h2,h3⟩:=h
  exact ⟨k0,r,h1,h2,fun k hk=>⟨(h3 k hk).1,by have:=(h3 k hk).2;omega⟩⟩
theorem zrS (c:Bool) (fs:List GFld) (a:Int):∀ n:Nat,(∀ s ∈ (rng a (a + n)).foldl (slot1 c fs) [],SlotOk fs a (a + n) s) ∧
    (0 < n→∃ s,((rng a (a + n)).foldl (slot1 c fs) [])[((rng a (a + n)).foldl (slot1 c fs) []).length - 1]?=some s∧s.getLast?=some (a + n - 1))∧(n=0→(rng a (a + n)).foldl (slot1 c fs) []=[]):=by
  intro n
  induction n with
  | zero =>
    have e:rng a (a + ((0:Nat):Int))=[]:=ze6 (by omega)
    rw [e]
    exact ⟨fun s hs=>(by cases hs),fun h=>absurd h (by omega),fun _=>rfl⟩
  | succ n ih =>
    obtain ⟨h1,h2,h3⟩:=ih
    have e:rng a (a + ((n + 1:Nat):Int))=rng a (a + n) ++ [a + n]:=by
      have:a + ((n + 1:Nat):Int)=a + n + 1:=by omega
      rw [this,zg5 (by omega)]
    rw [e,List.foldl_append]
    generalize hout:(rng a (a + n)).foldl (slot1 c fs) []=out at h1 h2 h3
    show (∀ s ∈ slot1 c fs out (a + n),_)∧(_→∃ s,(slot1 c fs out (a + n))[(slot1 c fs out (a + n)).length - 1]?=some s∧_)∧_
    refine ⟨?_,?_,fun h=>absurd h (by omega)⟩
    · intro s hs
      unfold slot1 at hs
      split at hs
      · rename_i h
        obtain ⟨g1,g2⟩:=h
        rw [Bool.and_eq_true,Bool.and_eq_true] at g1
        have g3:=zOT g1.1.2
        have g4:=zOT g1.2
        have hn:0 < n:=by
          rcases Nat.eq_zero_or_pos n with h | h
          · rw [h3 h] at g4;exact absurd g4 (by simp)
          · exact h
        obtain ⟨s0,e0,e1⟩:=h2 hn
        rcases List.mem_or_eq_of_mem_set hs with h | h
        · exact (h1 s h).mono (by omega)
        · rw [e0] at h
          obtain ⟨k0,r,r1,r2,r3⟩:=h1 s0 (List.mem_of_getElem? e0)
          subst h
          refine ⟨k0,r ++ [a + n],by rw [r1];rfl,.inr ?_,fun k hk=>?_⟩
          · rcases r2 with r2 | r2
            · subst r2
              rw [r1] at e1
              have:k0=a + n - 1:=by simpa using e1
              rw [this,g2];exact g3
            · exact r2
          · rcases List.mem_append.1 hk with h | h
            · have:=r3 k h;omega
            · rw [List.mem_singleton.1 h];omega
      · rcases List.mem_append.1 hs with h | h
        · exact (h1 s h).mono (by omega)
        · rw [List.mem_singleton.1 h]
          exact ⟨a + n,[],rfl,.inl rfl,fun k hk=>by rw [List.mem_singleton.1 hk];omega⟩
    · intro _
      unfold slot1
      split
      · rename_i h
        have g1:=h.1
        rw [Bool.and_eq_true] at g1
        have g4:=zOT g1.2
        rw [List.length_set]
        refine ⟨_,List.getElem?_set_self (by omega),?_⟩
        rw [List.getLast?_append]
        show some (a + (n:Int))=_
        congr 1;omega
      · refine ⟨[a + n],?_,?_⟩
        · rw [List.length_append,List.length_singleton,List.getElem?_append_right (by omega)]
          have:out.length + 1 - 1 - out.length=0:=by omega
          rw [this];rfl
        · show some (a + (n:Int))=_
          congr 1;omega
theorem zkQ {x:GTyp} (h0:0 ≤ x.root):∀ s ∈ slots x,SlotOk x.fields x.root x.fields.length s:=by
  unfold slots
  rcases Int.lt_or_le x.root x.fields.length with h | h
  · have e:((x.fields.length:Nat):Int)=x.root + ((((x.fields.length:Int) - x.root).toNat:Nat):Int):=by omega
    rw [e]
    exact (zrS _ x.fields x.root _).1
  · rw [ze6 h]
    intro s hs;cases hs
theorem znD {t:GTab} {i:Int} {x:GTyp} (h0:0 ≤ i) (hx:t.types[i.toNat]?=some x) (hk:x.kind=7 ∨ x.kind=8):slotsT t i=slots x:=by
  unfold slotsT
  rw [if_pos h0,hx]
  exact if_pos (by omega)
theorem zns {x:GTyp} (h0:0 ≤ x.root):(slots x).length ≤ x.fields.length:=by
  have:=(zgG (c:=!decide (x.kind=9)) (fs:=x.fields) (rng x.root x.fields.length) [] 0 (Nat.le_refl _) (fun s hs=>by cases hs)).1
  rw [ziu] at this
  unfold slots
  omega
theorem zmT {x:GTyp} (h0:0 ≤ x.root):∀ s ∈ slots x,s.length ≤ x.fields.length:=fun s hs=>by
  have:=(zgG (c:=!decide (x.kind=9)) (fs:=x.fields) (rng x.root x.fields.length) [] 0 (Nat.le_refl _) (fun s hs=>by cases hs)).2 s hs
  rw [ziu] at this
  omega

/-! ### Small parts -/
theorem nt {c:Bool} (h:(!c)=false):c=true:=by
  cases c with
  | false=>cases h
  | true=>rfl
def wthn (c:GCon) (v:Int):Bool:=!c.has || ((!c.hasLow || decide (c.low ≤ v)) && (!c.hasHigh || decide (v ≤ c.high)))
theorem zkx (c:GCon) (v:Int):zcC c v=some (wthn c v):=by
  unfold zcC wthn
  generalize decide (c.low ≤ v)=d1
  generalize decide (v ≤ c.high)=d2
  cases c.has <;> cases c.hasLow <;> cases c.hasHigh <;> cases d1 <;> cases d2 <;> rfl
theorem zkC (c:GCon) (v:Int):zcV c v=some (wthn c v):=by
  unfold zcV wthn
  generalize decide (c.low ≤ v)=d1
  generalize decide (v ≤ c.high)=d2
  cases c.has <;> cases c.hasLow <;> cases c.hasHigh <;> cases d1 <;> cases d2 <;> rfl
theorem zrl (x:GTyp) (n:Int) (hl:x.items.length ≤ 1000000):T (fun r=>0 ≤ r→∃ it ∈ x.items,it.number=n) (zf5 x n):=by
  unfold zf5
  refine T.lp (ι:=Int) (fun (q:Int)=>0 ≤ q∧q ≤ (x.items.length:Int)) (fun (q:Int)=>((x.items.length:Int) - q).toNat) ⟨Int.le_refl _,by omega⟩ (by omega) fun L q ⟨q1,q2⟩ hL=>T.br (fun h=>T.get q1 (zOT h) fun y hy=>T.br (fun h2=>T.some fun _=>⟨y,List.mem_of_getElem? hy,zOT h2⟩) fun _=>T.ck (by have:=zOT h;omega) (hL _ ⟨by omega,by have:=zOT h;omega⟩ (by have:=zOT h;omega))) fun _=>T.some fun h=>absurd h (by decide)
theorem zta (x:GTyp) (n:Int) (hl:x.items.length ≤ 1000000) (hi:∃ it ∈ x.items,it.number=n):T (fun r=>0 ≤ r) (zdr x n):=by
  unfold zdr zaK
  refine T.cal (Q:=fun r=>0 ≤ r) ?_ fun r _ hr=>T.some hr
  refine T.lp (ι:=Int) (fun (q:Int)=>0 ≤ q∧q ≤ (x.items.length:Int)∧∀ k:Nat,(k:Int) < q→∀ it,x.items[k]?=some it→it.number ≠ n) (fun (q:Int)=>((x.items.length:Int) - q).toNat) ⟨Int.le_refl _,by omega,fun k h=>by omega⟩ (by omega) fun L q ⟨q1,q2,q3⟩ hL=>T.br (fun h=>?_) fun h=>?_
  · have h:=zOT h
    refine T.get q1 h fun y hy=>T.eq (y:=decide (y.number=n)) rfl (T.br (fun h2=>T.some q1) fun h2=>T.ck (by omega) (hL _ ⟨by omega,by omega,fun k hk it hit=>?_⟩ (by omega)))
    rcases Int.lt_or_le (k:Int) q with h4 | h4
    · exact q3 k h4 it hit
    · have:k=q.toNat:=by omega
      rw [this,hy] at hit;cases hit
      exact zOF h2
  · have h:=zOF h
    obtain ⟨it,h1,h2⟩:=hi
    obtain ⟨k,hk⟩:=List.mem_iff_getElem?.1 h1
    have:=(List.getElem?_eq_some_iff.1 hk).1
    exact absurd h2 (q3 k (by omega) it hk)
theorem zr9 {t:GTab} (ht:TabOk t) {i:Int} (h0:0 ≤ i) (h1:i < t.types.length) {v:Val} (hf:Fine v):T (fun r=>r=true→v.more=[]→v.rule=0) (zg3 t i v):=by
  by_cases hm:v.more=[]
  · unfold zg3
    refine T.br (fun _=>T.some fun h _=>zOT h) fun h=>?_
    have:=zOF h
    rw [hm] at this
    exact absurd rfl this
  · exact (zpK ht h0 h1 hf).mono fun r _ _ h=>absurd h hm

/-! ### What fits -/
def zeroV:Val:=Val.mk 0 0 [] [] 0 []
def thr (v:Val) (k:Int):Bool:=match v.l[k.toNat]? with
  | some w=>!decide (w.kind=0)
  | none=>false
def lck (x:GTyp) (v:Val) (k:Int):Bool:=!thr v k && !(match x.fields[k.toNat]? with
  | some f=>f.optional || f.has
  | none=>false)
def Grp (x:GTyp) (v:Val) (s:List Int):Prop:=(decide (0 < grp x.fields (s.headD 0)) && s.any (thr v) && s.any (lck x v))=false
def FldF (x:GTyp) (F:Int→Val→Prop) (k:Nat) (f:GFld) (w:Val):Prop :=
  (w.kind=0∧w=zeroV∧(f.optional=true ∨ f.has=true ∨ x.root ≤ (k:Int))) ∨ (w.kind ≠ 0∧F f.ty w∧(f.has=true→w ≠ f.dflt))
def FitK (x:GTyp) (v:Val) (F:Int→Val→Prop):Prop :=
  (x.kind=1∧pln v true false false false=true∧(decide (v.n=0) || decide (v.n=1))=true) ∨
  (x.kind=2∧pln v true false false false=true∧(x.con.more || wthn x.con v.n)=true) ∨
  (x.kind=3∧pln v true false false false=true∧∃ it ∈ x.items,it.number=v.n) ∨
  (x.kind=4∧pln v false false false false=true) ∨
  ((x.kind=5 ∨ x.kind=6)∧pln v false true false false=true∧(v.b.length:Int) ≤ 70000∧(x.con.more || wthn x.con (v.b.length:Int))=true∧(x.kind=5 ∨ zcW v.b=some true)) ∨
  (x.kind=10∧pln v false false true false=true∧(x.con.more || wthn x.con (v.l.length:Int))=true∧∀ w ∈ v.l,F x.of w) ∨
  (x.kind=9∧pln v true false true false=true∧0 ≤ v.n∧∃ f w,x.fields[v.n.toNat]?=some f∧v.l=[w]∧F f.ty w) ∨
  ((x.kind=7 ∨ x.kind=8)∧pln v false false true true=true∧(v.more=[]→v.rule=0)∧v.l.length=x.fields.length ∧
    (∀ (k:Nat) f w,x.fields[k]?=some f→v.l[k]?=some w→FldF x F k f w)∧∀ s ∈ slots x,Grp x v s)
def Fit (t:GTab):Nat→Int→Val→Prop
  | 0,_,_=>False
  | h + 1,i,v=>0 ≤ i∧∃ x:GTyp,t.types[i.toNat]?=some x∧(v.kind=12 ∨ v.kind=x.kind∧FitK x v (Fit t h))
theorem zkH {l:List Int} {p:Int→Bool} {n:Nat} {y:Int} (h:l[n]?=some y):(l.take (n + 1)).any p=((l.take n).any p || p y):=by
  rw [List.take_add_one,h,List.any_append]
  simp
theorem zoE {t:GTab} (ht:TabOk t) {h:Nat} {i:Int} {x:GTyp} {v:Val} {d:Int} {Fi Fs} (h0:0 ≤ i) (hx:t.types[i.toNat]?=some x) (hk:x.kind=7 ∨ x.kind=8) (hf:Fine v) (hc:cnt v ≤ 100000) (hd:0 ≤ d∧d ≤ 17)
    (ih:∀ (j:Int) w,w ∈ v.l→T (fun r=>r=true→Fit t h j w) (Fi t j w (d + 1))):T (fun r=>r=true→FitK x v (Fit t h)) (zd9 Fs Fi t i v d):=by
  unfold zd9
  have htl:=ht.types
  have hlt:=(List.getElem?_eq_some_iff.1 hx).1
  have hi:i < t.types.length:=by omega
  obtain ⟨j,hj⟩:=SubT.sub ht.kids i.toNat (by omega) (by omega)
  have hjl:=hj.inb
  obtain ⟨x',hx',hok,hkid⟩:=hj
  rw [hx] at hx';cases hx'
  have hfl:=zf3 hkid hjl (by omega)
  have hr0:=hok.root0
  have hvl:=hf.l
  have eg:getI t.types i=some x:=by rw [zdB h0 hi];exact congrArg some (List.getElem?_eq_some_iff.1 hx).2
  refine T.eq eg (T.eq (zdY v _ _ _ _) (T.or' ?_))
  refine T.jp (fun b=>b=false→pln v false false true true=true∧v.l.length=x.fields.length∧(v.more=[]→v.rule=0)) (fun J kk=>T.br (fun _=>kk _ fun h=>by cases h) fun h1=>T.cal (zr9 ht h0 hi hf) fun y _ hy=>kk _ fun h2=>?_) fun q7 h7=>T.br (fun _=>T.some fun h=>by cases h) fun hq=>?_
  · rw [Bool.or_eq_false_iff] at h1
    exact ⟨by simpa using h1.1,zqM h1.2,hy (by simpa using h2)⟩
  obtain ⟨hp,hlen,hrule⟩:=h7 hq
  refine T.lp (ι:=Int) (fun (q:Int)=>0 ≤ q∧q ≤ (x.fields.length:Int)∧∀ (k:Nat),(k:Int) < q→∀ f w,x.fields[k]?=some f→v.l[k]?=some w→FldF x (Fit t h) k f w) (fun (q:Int)=>((x.fields.length:Int) - q).toNat) ⟨Int.le_refl _,by omega,fun k hk=>by omega⟩ (by omega) fun L q ⟨q1,q2,q3⟩ hL=>T.br (fun hb=>?_) fun hb=>?_
  · have hb:=zOT hb
    refine T.jp (ι:=Unit) (fun _=>∀ f w,x.fields[q.toNat]?=some f→v.l[q.toNat]?=some w→FldF x (Fit t h) q.toNat f w) (fun J kk=>?_) fun _ hu=>T.ck (by omega) (hL _ ⟨by omega,by omega,fun k hk f w hkf hkw=>?_⟩ (by omega))
    · refine T.get q1 hb fun f hff=>T.or' (T.get q1 (by omega) fun w hw=>?_)
      have hwm:=List.mem_of_getElem? hw
      have hg:∀ {β:Type} {R:β→Prop} {K:Val→Option β},T R (K w)→T R (Sy.cal (getI v.l q) K):=fun hK=>T.get q1 (by omega) fun y hy=>by rw [hw] at hy;cases hy;exact hK
      have hcw:=zcN hwm
      refine T.br (fun hz=>hg ?_) fun hz=>hg ?_
      · have hz:=zOT hz
        refine T.cal (zkv (k:=100000) (n:=fuel) (by omega) (by unfold fuel;omega) (hf.kid w hwm) _) fun r _ hr=>T.orJ (d:=!(f.optional || f.has) && decide (q < x.root)) (fun J2 h2=>T.and' h2) (T.br (fun _=>T.some fun h=>by cases h) fun hq=>kk _ fun f' w' hf' hw'=>?_)
        rw [hff] at hf';cases hf'
        rw [hw] at hw';cases hw'
        rw [Bool.or_eq_false_iff] at hq
        refine .inl ⟨hz,hr.1 (by simpa using hq.1),?_⟩
        have h2:=hq.2
        rw [Bool.and_eq_false_iff] at h2
        rcases h2 with h2 | h2
        · have:(f.optional || f.has)=true:=nt h2
          rw [Bool.or_eq_true] at this
          exact this.elim .inl fun h=>.inr (.inl h)
        · have:=zOF h2
          exact .inr (.inr (by omega))
      · have hz:=zOF hz
        refine T.ck (by omega) (T.cal (ih f.ty w hwm) fun y _ hy=>?_)
        refine T.jp (fun b=>b=false→y=true∧(f.has=true→w ≠ f.dflt)) (fun J2 k2=>T.br (fun _=>k2 _ fun h=>by cases h) fun hy2=>?_) fun b hb2=>T.br (fun _=>T.some fun h=>by cases h) fun hq=>kk _ fun f' w' hf' hw'=>?_
        · have hy2:y=true:=by simpa using hy2
          refine T.jp (fun b=>b=false→f.has=true→w ≠ f.dflt) (fun J3 k3=>T.br (fun hh=>hg (T.cal (zkv (k:=100000) (n:=fuel) (by omega) (by unfold fuel;omega) (hf.kid w hwm) _) fun r _ hr=>k3 _ fun h1 _ h2=>?_)) fun hh=>k3 _ fun _ h=>by rw [hh] at h;cases h) fun b hb3=>k2 _ fun h=>⟨hy2,hb3 h⟩
          rw [hr.2 h2] at h1;cases h1
        · rw [hff] at hf';cases hf'
          rw [hw] at hw';cases hw'
          obtain ⟨b1,b2⟩:=hb2 hq
          exact .inr ⟨hz,hy b1,b2⟩
    · rcases Int.lt_or_le (k:Int) q with h4 | h4
      · exact q3 k h4 f w hkf hkw
      · have:k=q.toNat:=by omega
        subst this
        exact hu f w hkf hkw
  have hb:=zOF hb
  have hfields:∀ (k:Nat) f w,x.fields[k]?=some f→v.l[k]?=some w→FldF x (Fit t h) k f w:=fun k f w h1 h2=>q3 k (by have:=(List.getElem?_eq_some_iff.1 h1).1;omega) f w h1 h2
  clear hL q3
  refine T.eq (zkk ht i) ?_
  rw [znD h0 hx hk]
  have hsl:=zns hr0
  refine T.lp (ι:=Int) (fun (q:Int)=>0 ≤ q∧q ≤ ((slots x).length:Int)∧∀ (k:Nat),(k:Int) < q→∀ s,(slots x)[k]?=some s→Grp x v s) (fun (q:Int)=>(((slots x).length:Int) - q).toNat) ⟨Int.le_refl _,by omega,fun k hk=>by omega⟩ (by omega) fun L q ⟨q1,q2,q3⟩ hL=>T.br (fun hb=>?_) fun hb=>T.some fun _=>?_
  · have hb:=zOT hb
    obtain ⟨s,hs⟩:∃ s,(slots x)[q.toNat]?=some s:=⟨_,List.getElem?_eq_getElem (by omega)⟩
    have hg:∀ {β:Type} {R:β→Prop} {K:List Int→Option β},T R (K s)→T R (Sy.cal (getI (slots x) q) K):=fun hK=>T.get q1 hb fun y hy=>by rw [hs] at hy;cases hy;exact hK
    have hsm:=List.mem_of_getElem? hs
    obtain ⟨k0,r,e0,e1,e2⟩:=zkQ hr0 s hsm
    have hsl2:=zmT hr0 s hsm
    refine T.lp (ι:=Bool × Bool × Int) (fun p=>0 ≤ p.2.2∧p.2.2 ≤ (s.length:Int)∧p.1=(s.take p.2.2.toNat).any (thr v)∧p.2.1=(s.take p.2.2.toNat).any (lck x v)) (fun p=>((s.length:Int) - p.2.2).toNat) ⟨Int.le_refl _,by dsimp only;omega,rfl,rfl⟩ (by dsimp only;omega) fun L2 p ⟨p1,p2,p3,p4⟩ hL2=>hg (T.br (fun hc2=>?_) fun hc2=>?_)
    · obtain ⟨so,la,m⟩:=p
      dsimp only at p1 p2 p3 p4 hL2 hc2 ⊢
      have hc2:=zOT hc2
      have em:(m + 1).toNat=m.toNat + 1:=by omega
      refine hg (T.get p1 hc2 fun k hk=>?_)
      obtain ⟨k1,k2⟩:=e2 k (List.mem_of_getElem? hk)
      refine T.get (by omega) k2 fun f hff=>hg (T.get p1 hc2 fun k' hk'=>?_)
      rw [hk] at hk';cases hk'
      refine T.get (by omega) (by omega) fun w hw=>T.or' ?_
      have eth:(!decide (w.kind=0))=thr v k:=by unfold thr;rw [hw]
      have elk:(!(!decide (w.kind=0)) && (!f.optional) && (!f.has))=lck x v k:=by
        unfold lck
        rw [← eth,hff]
        show _=(!(!decide (w.kind=0)) && !(f.optional || f.has))
        cases decide (w.kind=0) <;> cases f.optional <;> cases f.has <;> rfl
      refine T.orJ (d:=lck x v k) (fun J h2=>T.and' (T.and' ?_)) (T.ck (by omega) (hL2 _ ⟨by dsimp only;omega,by dsimp only;omega,?_,?_⟩ (by dsimp only;omega)))
      · rw [elk];exact h2
      · dsimp only;rw [em,zkH hk,p3,eth]
      · dsimp only;rw [em,zkH hk,p4]
    · obtain ⟨so,la,m⟩:=p
      dsimp only at p1 p2 p3 p4 hL2 hc2 ⊢
      have hc2:=zOF hc2
      rw [List.take_of_length_le (by omega)] at p3 p4
      refine hg (T.get (Int.le_refl _) (by rw [e0,List.length_cons];omega) fun k hk=>?_)
      have ek:k=k0:=by rw [e0] at hk;simpa using hk.symm
      subst ek
      obtain ⟨k1,k2⟩:=e2 k (by rw [e0];exact List.mem_cons_self)
      refine T.get (by omega) k2 fun f hff=>T.and' (T.and' (T.br (fun _=>T.some fun h=>by cases h) fun hq=>T.ck (by omega) (hL _ ⟨by omega,by omega,fun n hn s' hs'=>?_⟩ (by omega))))
      rcases Int.lt_or_le (n:Int) q with h4 | h4
      · exact q3 n h4 s' hs'
      · have:n=q.toNat:=by omega
        subst this
        rw [hs] at hs';cases hs'
        unfold Grp
        have eg:grp x.fields (s.headD 0)=f.group:=by
          rw [e0]
          show grp x.fields k=_
          unfold grp
          rw [hff];rfl
        rw [eg,← p3,← p4]
        exact hq
  · have hb:=zOF hb
    refine .inr (.inr (.inr (.inr (.inr (.inr (.inr ⟨hk,hp,hrule,hlen,hfields,fun s hs=>?_⟩))))))
    obtain ⟨n,hn⟩:=List.mem_iff_getElem?.1 hs
    exact q3 n (by have:=(List.getElem?_eq_some_iff.1 hn).1;omega) s hn
theorem zrv {t:GTab} (ht:TabOk t):∀ {h n:Nat} {i:Int} {v:Val} {d:Int},0 ≤ d→d + h=18→2 * h + 2 ≤ n→Fine v→cnt v ≤ 100000→T (fun r=>r=true→Fit t h i v) (zfZ n t i v d):=by
  intro h
  induction h with
  | zero =>
    intro n i v d d0 hd hn hf hc
    obtain ⟨n,rfl⟩:∃ n',n=n' + 1:=⟨n - 1,by omega⟩
    show T _ (zeK (ziz n) (zfZ n) t i v d)
    unfold zeK
    refine T.or' (T.or' (T.br (fun _=>T.some fun h=>by cases h) fun hq=>?_))
    rw [Bool.or_eq_false_iff] at hq
    have:=zOF hq.2
    omega
  | succ h ih =>
    intro n i v d d0 hd hn hf hc
    obtain ⟨n,rfl⟩:∃ n',n=n' + 2:=⟨n - 2,by omega⟩
    show T _ (zeK (ziz (n + 1)) (zfZ (n + 1)) t i v d)
    unfold zeK
    have htl:=ht.types
    have hvl:=hf.l
    refine T.or' (T.or' (T.br (fun _=>T.some fun h=>by cases h) fun hq=>?_))
    rw [Bool.or_eq_false_iff,Bool.or_eq_false_iff] at hq
    have i0:0 ≤ i:=by have:=zOF hq.1.1;omega
    have i1:i < t.types.length:=by have:=zOF hq.1.2;omega
    obtain ⟨x,hx⟩:∃ x,t.types[i.toNat]?=some x:=⟨_,List.getElem?_eq_getElem (by omega)⟩
    obtain ⟨j,hj⟩:=SubT.sub ht.kids i.toNat (by omega) (by omega)
    have hjl:=hj.inb
    obtain ⟨x',hx',hok,hkid⟩:=hj
    rw [hx] at hx';cases hx'
    have hil:=hok.ilen
    have kid:∀ (j:Int) w,w ∈ v.l→T (fun r=>r=true→Fit t h j w) (zfZ (n + 1) t j w (d + 1)):=fun j w hw=>ih (by omega) (by omega) (by omega) (hf.kid w hw) (by have:=zcN hw;omega)
    have mk:∀ r:Bool,v.kind=x.kind→(r=true→FitK x v (Fit t h))→(r=true→Fit t (h + 1) i v):=fun r e k hr=>⟨i0,x,hx,.inr ⟨e,k hr⟩⟩
    refine T.get i0 i1 fun y hy=>?_
    rw [hx] at hy;cases hy
    refine T.br (fun h12=>T.cal (znf ht i0 i1 hf) fun y _ _=>T.some fun _=>⟨i0,x,hx,.inl (zOT h12)⟩) fun h12=>T.br (fun _=>T.some fun h=>by cases h) fun hkk=>?_
    have hkk:v.kind=x.kind:=by simpa using hkk
    refine T.br (fun k1=>?_) fun _=>T.br (fun k2=>?_) fun _=>T.br (fun k3=>?_) fun _=>T.br (fun k4=>?_) fun _=>?_
    · refine T.eq (zdY v _ _ _ _) (T.andJ (d:=decide (v.n=0) || decide (v.n=1)) (fun J hh=>T.or' hh) (T.some (mk _ hkk fun hr=>?_)))
      rw [Bool.and_eq_true] at hr
      exact .inl ⟨zOT k1,hr.1,hr.2⟩
    · refine T.eq (zdY v _ _ _ _) (T.andJ (d:=x.con.more || wthn x.con v.n) (fun J hh=>T.orJ (d:=wthn x.con v.n) (fun J2 h2=>T.eq (zkx _ _) h2) hh) (T.some (mk _ hkk fun hr=>?_)))
      rw [Bool.and_eq_true] at hr
      exact .inr (.inl ⟨zOT k2,hr.1,hr.2⟩)
    · refine T.eq (zdY v _ _ _ _) (T.jp (fun b=>b=true→pln v true false false false=true∧∃ it ∈ x.items,it.number=v.n) (fun J kk=>T.br (fun hp=>T.cal (zrl x v.n (by omega)) fun y _ hy=>kk _ fun h=>⟨hp,hy (zOT h)⟩) fun _=>kk _ fun h=>by cases h) fun b hb=>T.some (mk _ hkk fun hr=>?_))
      exact .inr (.inr (.inl ⟨zOT k3,(hb hr).1,(hb hr).2⟩))
    · exact T.eq (zdY v _ _ _ _) (T.some (mk _ hkk fun hr=>.inr (.inr (.inr (.inl ⟨zOT k4,hr⟩)))))
    refine T.jp (fun b=>b=true→x.kind=5 ∨ x.kind=6) (fun J kk=>T.br (fun h5=>kk _ fun _=>.inl (zOT h5)) fun _=>kk _ fun h=>.inr (zOT h)) fun b56 h56=>T.br (fun hb=>?_) fun _=>T.br (fun k10=>?_) fun _=>T.br (fun k9=>?_) fun _=>?_
    · refine T.eq (zdY v _ _ _ _) (T.and' (T.andJ (d:=x.con.more || wthn x.con (v.b.length:Int)) (fun J hh=>T.orJ (d:=wthn x.con (v.b.length:Int)) (fun J2 h2=>T.eq (zkx _ _) h2) hh) ?_))
      refine T.jp (fun b=>b=true→(pln v false true false false=true∧(v.b.length:Int) ≤ 70000∧(x.con.more || wthn x.con (v.b.length:Int))=true)∧(x.kind=5 ∨ zcW v.b=some true)) (fun J kk=>T.br (fun hp=>?_) fun _=>kk _ fun h=>by cases h) fun b hb2=>T.some (mk _ hkk fun hr=>?_)
      · rw [Bool.and_eq_true,Bool.and_eq_true] at hp
        have hp1:=zOT hp.1.2
        refine T.jp (fun b=>b=true→x.kind=5 ∨ zcW v.b=some true) (fun J2 k2=>T.br (fun h5=>k2 _ fun _=>.inl (zOT h5)) fun _=>T.cal (zpi v.b (by omega)) fun y hy _=>k2 _ fun h=>.inr (by rw [hy,h])) fun b hb3=>kk _ fun h=>⟨⟨hp.1.1,hp1,hp.2⟩,hb3 h⟩
      · obtain ⟨⟨r1,r2,r3⟩,r4⟩:=hb2 hr
        exact .inr (.inr (.inr (.inr (.inl ⟨h56 hb,r1,r2,r3,r4⟩))))
    · refine T.eq (zdY v _ _ _ _) (T.orJ (d:=!x.con.more && !wthn x.con (v.l.length:Int)) (fun J hh=>T.andJ (d:=!wthn x.con (v.l.length:Int)) (fun J2 h2=>T.eq (zkx _ _) h2) hh) (T.br (fun _=>T.some fun h=>by cases h) fun hq2=>?_))
      rw [Bool.or_eq_false_iff] at hq2
      have hp:pln v false false true false=true:=by simpa using hq2.1
      have hw:(x.con.more || wthn x.con (v.l.length:Int))=true:=by
        have:=hq2.2
        cases h1:x.con.more <;> cases h2:wthn x.con (v.l.length:Int) <;> simp_all
      refine T.lp (ι:=Int) (fun (q:Int)=>0 ≤ q∧q ≤ (v.l.length:Int)∧∀ (k:Nat),(k:Int) < q→∀ w,v.l[k]?=some w→Fit t h x.of w) (fun (q:Int)=>((v.l.length:Int) - q).toNat) ⟨Int.le_refl _,by omega,fun k hk=>by omega⟩ (by omega) fun L q ⟨q1,q2,q3⟩ hL=>T.br (fun hb=>?_) fun hb=>T.some (mk _ hkk fun _=>?_)
      · have hb:=zOT hb
        refine T.get q1 hb fun w hw=>T.ck (by omega) (T.cal (kid x.of w (List.mem_of_getElem? hw)) fun y _ hy=>T.br (fun _=>T.some fun h=>by cases h) fun hy2=>T.ck (by omega) (hL _ ⟨by omega,by omega,fun k hk w' hw'=>?_⟩ (by omega)))
        rcases Int.lt_or_le (k:Int) q with h4 | h4
        · exact q3 k h4 w' hw'
        · have:k=q.toNat:=by omega
          subst this
          rw [hw] at hw';cases hw'
          exact hy (by simpa using hy2)
      · have hb:=zOF hb
        refine .inr (.inr (.inr (.inr (.inr (.inl ⟨zOT k10,hp,hw,fun w hw=>?_⟩)))))
        obtain ⟨k,hk⟩:=List.mem_iff_getElem?.1 hw
        exact q3 k (by have:=(List.getElem?_eq_some_iff.1 hk).1;omega) w hk
    · refine T.eq (zdY v _ _ _ _) (T.and' (T.and' (T.and' ?_)))
      refine T.jp (fun b=>b=true→FitK x v (Fit t h)) (fun J kk=>T.br (fun hp=>?_) fun _=>kk _ fun h=>by cases h) fun b hb=>T.some (mk _ hkk hb)
      rw [Bool.and_eq_true,Bool.and_eq_true,Bool.and_eq_true] at hp
      have hn0:=zOT hp.1.1.2
      have hn1:=zOT hp.1.2
      have hl1:=zOT hp.2
      refine T.get hn0 hn1 fun f hff=>T.get (Int.le_refl _) (by omega) fun w hw=>T.ck (by omega) (T.cal (kid f.ty w (List.mem_of_getElem? hw)) fun y _ hy=>kk _ fun hr=>?_)
      have hvl:v.l=[w]:=by
        match hl:v.l,hl1,hw with
        | [w'],_,hw =>
          have:w'=w:=by simpa using hw
          rw [this]
      exact .inr (.inr (.inr (.inr (.inr (.inr (.inl ⟨zOT k9,hp.1.1.1,hn0,f,w,hff,hvl,hy hr⟩))))))
    · refine T.jp (fun b=>b=true→x.kind=7 ∨ x.kind=8) (fun J kk=>T.br (fun h5=>kk _ fun _=>.inl (zOT h5)) fun _=>kk _ fun h=>.inr (zOT h)) fun b78 h78=>T.br (fun hb=>?_) fun _=>T.some fun h=>by cases h
      refine T.cal (Q:=fun r=>r=true→FitK x v (Fit t h)) ?_ fun y _ hy=>T.some (mk _ hkk hy)
      show T _ (zd9 (ziz n) (zfZ n) t i v d)
      exact zoE ht i0 hx (h78 hb) hf hc (by omega) fun j w hw=>ih (by omega) (by omega) (by omega) (hf.kid w hw) (by have:=zcN hw;omega)
theorem zrt (x y:Raw):T (fun r=>r=true ↔ x=y) (zet x y):=by
  unfold zet
  refine T.andI (P:=x.n=y.n) (Q:=x.b=y.b) decide_eq_true_iff (fun J kk=>T.eq (y:=decide (Str.mk x.b=Str.mk y.b)) rfl (kk _ ?_)) fun b hb=>T.some ?_
  · rw [decide_eq_true_iff]
    exact ⟨fun h=>congrArg Str.b h,fun h=>by rw [h]⟩
  · rw [hb]
    obtain ⟨a,b⟩:=x
    obtain ⟨c,d⟩:=y
    exact ⟨fun ⟨h1,h2⟩=>(by cases h1;cases h2;rfl),fun h=>by cases h;exact ⟨rfl,rfl⟩⟩
theorem znK:∀ {k n:Nat} {f:Val},cnt f ≤ k→2 * k ≤ n→Fine f→∀ g,T (fun r=>r=true ↔ f=g) (zeI n f g):=by
  intro k
  induction k with
  | zero=>intro n f h;have:=zc5 f;omega
  | succ k ih =>
    intro n f hk hn hf g
    obtain ⟨n,rfl⟩:∃ n',n=n' + 2:=⟨n - 2,by omega⟩
    show T _ (ze5 (zeI (n + 1)) (zaD (n + 1)) f g)
    unfold ze5
    refine T.andI (P:=f.kind=g.kind) (Q:=f.n=g.n) decide_eq_true_iff (fun J kk=>kk _ decide_eq_true_iff) fun b1 h1=>?_
    refine T.andI (Q:=f.b=g.b) h1 (fun J kk=>T.eq (y:=decide (Str.mk f.b=Str.mk g.b)) rfl (kk _ ?_)) fun b2 h2=>?_
    · rw [decide_eq_true_iff]
      exact ⟨fun h=>congrArg Str.b h,fun h=>by rw [h]⟩
    refine T.andI (Q:=f.l=g.l) h2 (fun J kk=>T.cal (Q:=fun r=>r=true ↔ f.l=g.l) ?_ fun r _ hr=>kk _ hr) fun b3 h3=>?_
    · show T _ (zae (zeI n) (zaD n) f.l g.l)
      unfold zae
      exact zlb f.l g.l hf.l (fun x hx y=>ih (by have:=zcN hx;omega) (by omega) (hf.kid x hx) y) fun L q=>rfl
    refine T.andI (Q:=f.rule=g.rule) h3 (fun J kk=>kk _ decide_eq_true_iff) fun b4 h4=>?_
    refine T.andI (Q:=f.more=g.more) h4 (fun J kk=>T.cal (Q:=fun r=>r=true ↔ f.more=g.more) ?_ fun r _ hr=>kk _ hr) fun b5 h5=>T.some ?_
    · unfold zaw
      exact zlb f.more g.more hf.more (fun x hx y=>zrt x y) fun L q=>rfl
    · rw [h5,← Val.eta f,← Val.eta g]
      constructor
      · rintro ⟨⟨⟨⟨⟨e1,e2⟩,e3⟩,e4⟩,e5⟩,e6⟩
        simp only [Val.eta] at e1 e2 e3 e4 e5 e6
        rw [e1,e2,e3,e4,e5,e6]
      · intro h
        rw [Val.eta,Val.eta] at h
        subst h
        exact ⟨⟨⟨⟨⟨rfl,rfl⟩,rfl⟩,rfl⟩,rfl⟩,rfl⟩

theorem zga {v:Val} (hk:v.kind ≠ 12):strip v=Val.mk v.kind v.n v.b (v.l.map strip) 0 []:=by rw [zgA,if_neg hk]
theorem ziB (v:Val):(strip v).kind=v.kind:=by
  rw [zgA]
  split
  · rename_i h;exact h.symm
  · rfl
theorem zis:strip zeroV=zeroV:=by rw [zga (by decide)];rfl
theorem zqh:∀ (n:Nat) (v:Val),cnt v ≤ n→Fine v→Fine (strip v):=by
  intro n
  induction n with
  | zero=>intro v h;have:=zc5 v;omega
  | succ n ih =>
    intro v hn hf
    rw [zgA]
    split
    · exact .mk (Nat.zero_le _) (Nat.zero_le _) (Nat.zero_le _) (fun r hr=>by cases hr) fun w hw=>by cases hw
    · refine .mk hf.b (by show (v.l.map strip).length ≤ _;rw [List.length_map];exact hf.l) (Nat.zero_le _) (fun r hr=>by cases hr) fun w hw=>?_
      obtain ⟨w',h1,h2⟩:=List.mem_map.1 (show w ∈ v.l.map strip from hw)
      subst h2
      exact ih w' (by have:=zcN h1;omega) (hf.kid w' h1)
theorem zrx {v:Val} (hk:v.kind ≠ 12) {n b l m m':Bool} (h:pln v n b l m=true):pln (strip v) n b l m'=true:=by
  rw [zga hk]
  unfold pln at h ⊢
  rw [Bool.and_eq_true] at h
  rw [Bool.and_eq_true]
  refine ⟨?_,?_⟩
  · show ((n || decide (v.n=0)) && (b || decide ((v.b.length:Int)=0)) && (l || decide (((v.l.map strip).length:Int)=0)))=true
    rw [List.length_map];exact h.1
  · show (m' || (decide ((0:Int)=0) && decide (((0:Nat):Int)=0)))=true
    cases m' <;> rfl
theorem zjc {v:Val} {n b:Bool} (hk:v.kind ≠ 12) (h:pln v n b false false=true):strip v=v:=by
  unfold pln at h
  simp only [Bool.false_or,Bool.and_eq_true,decide_eq_true_eq] at h
  obtain ⟨⟨⟨_,_⟩,h3⟩,h4,h5⟩:=h
  have e1:v.l=[]:=List.length_eq_zero_iff.1 (by omega)
  have e2:v.more=[]:=List.length_eq_zero_iff.1 (by omega)
  rw [zga hk,e1,← h4,← e2,List.map_nil,← e1]
  exact Val.eta v
theorem zrp {t:GTab}:∀ {h:Nat} {i:Int} {v:Val},Fit t h i v→bare v=true→strip v=v:=by
  intro h
  induction h with
  | zero=>intro i v hf;exact hf.elim
  | succ h ih =>
    intro i v ⟨_,x,hx,hf⟩ hb
    rw [zoa,Bool.and_eq_true] at hb
    have hb1:(decide (v.kind=12) || decide (0 < v.more.length))=false:=by simpa using hb.1
    rw [Bool.or_eq_false_iff] at hb1
    have hk:=zOF hb1.1
    have hm:v.more=[]:=List.length_eq_zero_iff.1 (by have:=zOF hb1.2;omega)
    have hkid:∀ w ∈ v.l,bare w=true:=fun w hw=>List.all_eq_true.1 hb.2 _ (List.mem_map.2 ⟨w,hw,rfl⟩)
    have hf:=hf.resolve_left hk
    have fin:v.rule=0→(∀ w ∈ v.l,strip w=w)→strip v=v:=fun hr hl=>by
      have:v.l.map strip=v.l:=by
        conv=>rhs;rw [← List.map_id v.l]
        exact List.map_congr_left fun w hw=>hl w hw
      rw [zga hk,this]
      conv=>rhs;rw [← Val.eta v,hr,hm]
    have pl:∀ {n b l:Bool},pln v n b l false=true→v.rule=0:=fun h=>by
      unfold pln at h
      simp only [Bool.false_or,Bool.and_eq_true,decide_eq_true_eq] at h
      exact h.2.1
    rcases hf.2 with ⟨_,h,_⟩ | ⟨_,h,_⟩ | ⟨_,h,_⟩ | ⟨_,h⟩ | ⟨_,h,_⟩ | ⟨_,h,_,h2⟩ | ⟨_,h,_,f,w,_,h2,h3⟩ | ⟨_,h,hr,hl,h2,_⟩
    · exact zjc hk h
    · exact zjc hk h
    · exact zjc hk h
    · exact zjc hk h
    · exact zjc hk h
    · exact fin (pl h) fun w hw=>ih (h2 w hw) (hkid w hw)
    · refine fin (pl h) fun w' hw=>?_
      rw [h2] at hw
      rw [List.mem_singleton.1 hw]
      exact ih h3 (hkid w (by rw [h2];exact List.mem_singleton.2 rfl))
    · refine fin (hr hm) fun w hw=>?_
      obtain ⟨k,hkw⟩:=List.mem_iff_getElem?.1 hw
      have hlt:=(List.getElem?_eq_some_iff.1 hkw).1
      obtain ⟨f,hf⟩:∃ f,x.fields[k]?=some f:=⟨_,List.getElem?_eq_getElem (by omega)⟩
      rcases h2 k f w hf hkw with ⟨_,e,_⟩ | ⟨_,e,_⟩
      · rw [e];exact zis
      · exact ih e (hkid w hw)

/-! ### The code's side -/
def zl9 (t:GTab) (b:Bool):GChk:=GChk.mk (GTbd.mk t) b
theorem zry {x:GTyp} {k:Int} {f:GFld} (h0:0 ≤ k) (hf:x.fields[k.toNat]?=some f):zeX x k=some (f.optional || f.has || decide (x.root ≤ k)):=by
  have hlt:=(List.getElem?_eq_some_iff.1 hf).1
  have e:getI x.fields k=some f:=by rw [zdB h0 (by omega)];exact congrArg some (List.getElem?_eq_some_iff.1 hf).2
  refine T.eqs ?_
  unfold zeX
  refine T.eq e (T.orJ (d:=f.has) (fun J h=>T.eq e h) (T.or' (T.some rfl)))
theorem zpP {t:GTab} (ht:TabOk t) {b:Bool} {i:Int} {x:GTyp} {v:Val} (h0:0 ≤ i) (hx:t.types[i.toNat]?=some x) (hk:x.kind=7 ∨ x.kind=8) (hlen:v.l.length=x.fields.length)
    (hw:∀ w ∈ v.l,w.kind=0→w=zeroV) (hg:∀ s ∈ slots x,Grp x v s) (hfl:x.fields.length ≤ 1000) (hr0:0 ≤ x.root):zcd (zl9 t b) i v=some (true,zl9 t b):=by
  refine T.eqs ?_
  unfold zcd
  have hlt:=(List.getElem?_eq_some_iff.1 hx).1
  have e:getI t.types i=some x:=by rw [zdB h0 (by omega)];exact congrArg some (List.getElem?_eq_some_iff.1 hx).2
  refine T.eq e (T.eq (zrG ht i) ?_)
  rw [znD h0 hx hk]
  have hsl:=zns hr0
  refine T.lp (ι:=Int) (fun (q:Int)=>0 ≤ q∧q ≤ ((slots x).length:Int)) (fun (q:Int)=>(((slots x).length:Int) - q).toNat) ⟨Int.le_refl _,by omega⟩ (by omega) fun L q ⟨q1,q2⟩ hL=>T.br (fun hb=>?_) fun hb=>T.some rfl
  have hb:=zOT hb
  refine T.jp (ι:=Unit) (fun _=>True) (fun J kk=>?_) fun _ _=>T.ck (by omega) (hL _ ⟨by omega,by omega⟩ (by omega))
  refine T.get q1 hb fun s hs=>?_
  have hsm:=List.mem_of_getElem? hs
  obtain ⟨k0,r,e0,e1,e2⟩:=zkQ hr0 s hsm
  have hsl2:=zmT hr0 s hsm
  obtain ⟨k1,k2⟩:=e2 k0 (by rw [e0];exact List.mem_cons_self)
  refine T.get (Int.le_refl _) (by rw [e0,List.length_cons];omega) fun k hk'=>?_
  have ek:k=k0:=by rw [e0] at hk';simpa using hk'.symm
  subst ek
  refine T.get (by omega) k2 fun f hff=>T.br (fun _=>kk _ trivial) fun hgz=>?_
  have hgz:=zOF hgz
  have eg:grp x.fields k=f.group:=by unfold grp;rw [hff];rfl
  refine T.lp (ι:=Bool × Bool × Int) (fun p=>0 ≤ p.2.2∧p.2.2 ≤ (s.length:Int)∧p.1=(s.take p.2.2.toNat).any (thr v)∧p.2.1=(s.take p.2.2.toNat).any (lck x v)) (fun p=>((s.length:Int) - p.2.2).toNat) ⟨Int.le_refl _,by dsimp only;omega,rfl,rfl⟩ (by dsimp only;omega) fun L2 p ⟨p1,p2,p3,p4⟩ hL2=>T.br (fun hc2=>?_) fun hc2=>?_
  · obtain ⟨so,la,m⟩:=p
    dsimp only at p1 p2 p3 p4 hL2 hc2 ⊢
    have hc2:=zOT hc2
    have em:(m + 1).toNat=m.toNat + 1:=by omega
    refine T.get p1 hc2 fun k hk=>?_
    obtain ⟨k1,k2⟩:=e2 k (List.mem_of_getElem? hk)
    refine T.get (by omega) (by omega) fun w hwk=>T.eq (zlO w) ?_
    have ea:(decide (w.kind=0) && pln w false false false false)=decide (w.kind=0):=by
      by_cases hz:w.kind=0
      · rw [zpu.2 (hw w (List.mem_of_getElem? hwk) hz),zDT hz]
      · rw [zDF hz];rfl
    rw [ea]
    obtain ⟨f',hf'⟩:∃ f,x.fields[k.toNat]?=some f:=⟨_,List.getElem?_eq_getElem (by omega)⟩
    have e':getI x.fields k=some f':=by rw [zdB (by omega) (by omega)];exact congrArg some (List.getElem?_eq_some_iff.1 hf').2
    have eth:(!decide (w.kind=0))=thr v k:=by unfold thr;rw [hwk]
    have elk:(!(!decide (w.kind=0)) && (!f'.optional) && (!f'.has))=lck x v k:=by
      unfold lck
      rw [← eth,hf']
      show _=(!(!decide (w.kind=0)) && !(f'.optional || f'.has))
      cases decide (w.kind=0) <;> cases f'.optional <;> cases f'.has <;> rfl
    refine T.or' (T.orJ (d:=lck x v k) (fun J h2=>T.andJ (d:=!f'.optional) (fun J3 h3=>T.eq e' h3) (T.andJ (d:=!f'.has) (fun J3 h3=>T.eq e' h3) ?_)) (T.ck (by omega) (hL2 _ ⟨by dsimp only;omega,by dsimp only;omega,?_,?_⟩ (by dsimp only;omega))))
    · rw [elk];exact h2
    · dsimp only;rw [em,zkH hk,p3,eth]
    · dsimp only;rw [em,zkH hk,p4]
  · obtain ⟨so,la,m⟩:=p
    dsimp only at p1 p2 p3 p4 hL2 hc2 ⊢
    have hc2:=zOF hc2
    rw [List.take_of_length_le (by omega)] at p3 p4
    refine T.and' ?_
    have hno:(so && la)=false:=by
      rcases e1 with e1 | e1
      · rw [p3,p4,e0,e1]
        unfold lck
        show ((thr v k || false) && ((!thr v k && _) || false))=false
        cases thr v k <;> rfl
      · have:=hg s hsm
        unfold Grp at this
        have eh:s.headD 0=k:=by rw [e0];rfl
        rw [eh,zDT e1,Bool.true_and] at this
        rw [p3,p4];exact this
    rw [hno]
    exact T.br (fun h=>by cases h) fun _=>kk _ trivial
theorem zrC {t:GTab} (ht:TabOk t) (i:Int) {v:Val} (hf:Fine v) (hc:cnt v ≤ 100000):T (fun r=>r=true→Fit t 17 i v∧cnt v ≤ 5000) (ziS t i v):=by
  unfold ziS
  refine T.eq (zp9 (by unfold fuel;omega) (by omega) hf) (T.jp (fun b=>b=true→Fit t 17 i v∧cnt v ≤ 5000) (fun J kk=>T.br (fun h=>T.cal (zrv ht (h:=17) (by decide) (by decide) (by unfold fuel;decide) hf hc) fun y _ hy=>kk _ fun h2=>⟨hy h2,by have:=zOT h;omega⟩) fun _=>kk _ fun h=>by cases h) fun b hb=>T.some hb)
end Go.Proofs.Q


namespace Go.Proofs.Q
open Go.Sy
set_option linter.unusedVariables false

def u12:Val:=Val.mk 12 0 [] [] 0 []
def pfl (F:Int→Int→Val→Val) (x y:GTyp) (l:List Val) (q:Nat):Val :=
  match x.fields[q]?,y.fields[q]?,l[q]? with
  | some f,some g,some w=>if w.kind=0 then zeroV else F f.ty g.ty w
  | _,_,_=>zeroV
def pch (F:Int→Int→Val→Val) (x y:GTyp) (v:Val):Val :=
  match x.fields[v.n.toNat]?,y.fields[v.n.toNat]?,v.l[0]? with
  | some f,some g,some w=>Val.mk v.kind v.n v.b [F f.ty g.ty w] 0 []
  | _,_,_=>u12
def prjK (F:Int→Int→Val→Val) (x y:GTyp) (v:Val):Val :=
  if v.kind=3 then (if y.items.any (fun it=>decide (it.number=v.n)) then Val.mk v.kind v.n v.b [] 0 [] else u12)
  else if v.kind=10 then Val.mk v.kind v.n v.b (v.l.map (F x.of y.of)) 0 []
  else if v.kind=9 then (if (y.fields.length:Int) ≤ v.n then u12 else pch F x y v)
  else if v.kind=7 ∨ v.kind=8 then Val.mk v.kind v.n v.b ((List.range y.fields.length).map (pfl F x y v.l)) 0 []
  else Val.mk v.kind v.n v.b [] 0 []
def prj:Nat→List GTyp→List GTyp→Int→Int→Val→Val
  | 0,_,_,_,_,v=>v
  | h + 1,a,b,i,k,v=>if v.kind=12 then u12 else match at_ a i,at_ b k with
    | some x,some y=>prjK (prj h a b) x y v
    | _,_=>zeroV
theorem zgV {h:Nat} {a b:List GTyp} {i k:Int} {x y:GTyp} {v:Val} (hk:v.kind ≠ 12) (hx:at_ a i=some x) (hy:at_ b k=some y):prj (h + 1) a b i k v=prjK (prj h a b) x y v:=by
  show (if v.kind=12 then u12 else match at_ a i,at_ b k with
    | some x,some y=>prjK (prj h a b) x y v
    | _,_=>zeroV)=_
  rw [if_neg hk,hx,hy]
theorem ziQ {h:Nat} {a b:List GTyp} {i k:Int}:prj (h + 1) a b i k u12=u12:=if_pos rfl
def FitB (t:List GTyp):Nat→Int→Val→Prop
  | 0,_,_=>False
  | h + 1,i,v=>∃ x,at_ t i=some x∧((v=u12∧x.more=true∧(x.kind=9 ∨ x.kind=3)) ∨ (v.kind ≠ 12∧v.kind=x.kind∧v.rule=0∧v.more=[]∧FitK x v (FitB t h)))
def Sim:Nat→List GTyp→List GTyp→Int→Int→Prop
  | 0,_,_,_,_=>True
  | h + 1,a,b,i,k=>∃ x y,at_ a i=some x∧at_ b k=some y∧x.kind=y.kind∧(x.fields.length=y.fields.length ∨ x.more=true∧y.more=true)∧x.fields.length ≤ 1000∧y.fields.length ≤ 1000∧y.items.length ≤ 1000000 ∧
    (x.kind=10→Sim h a b x.of y.of)∧∀ (q:Nat) f g,x.fields[q]?=some f→y.fields[q]?=some g→Sim h a b f.ty g.ty
theorem sidesP {a b:GTab} {i k:Int} {x y:GTyp} (hx:at_ a.types i=some x) (hy:at_ b.types k=some y):zcq ⟨a,b⟩ i k=some (x,y,decide (x.kind=y.kind)):=by
  obtain ⟨h1,h2,h3⟩:=zg9 hx
  obtain ⟨k1,k2,k3⟩:=zg9 hy
  refine T.eqs ?_
  unfold zcq
  refine T.or (T.or (T.or (T.br (fun hb=>?_) fun hb=>?_)))
  · dsimp only at hb
    rw [zDF (by omega),zDF (by omega),zDF (by omega),zDF (by omega)] at hb
    cases hb
  · dsimp only
    have gx:getI a.types i=some x:=by rw [zdB h1 h2];exact congrArg some (List.getElem?_eq_some_iff.1 h3).2
    have gy:getI b.types k=some y:=by rw [zdB k1 k2];exact congrArg some (List.getElem?_eq_some_iff.1 k3).2
    exact T.eq gx (T.eq gy (T.eq gx (T.eq gy (T.some rfl))))
theorem zrj (x:GTyp) (n:Int) (hl:x.items.length ≤ 1000000):T (fun r=>decide (r < 0)=!(x.items.any fun it=>decide (it.number=n))) (zdr x n):=by
  unfold zdr zaK
  refine T.cal (Q:=fun r=>decide (r < 0)=!(x.items.any fun it=>decide (it.number=n))) ?_ fun r _ hr=>T.some hr
  refine T.lp (ι:=Int) (fun (q:Int)=>0 ≤ q∧q ≤ (x.items.length:Int)∧∀ k:Nat,(k:Int) < q→∀ it,x.items[k]?=some it→it.number ≠ n) (fun (q:Int)=>((x.items.length:Int) - q).toNat) ⟨Int.le_refl _,by omega,fun k h=>by omega⟩ (by omega) fun L q ⟨q1,q2,q3⟩ hL=>T.br (fun h=>?_) fun h=>?_
  · have h:=zOT h
    refine T.get q1 h fun y hy=>T.eq (y:=decide (y.number=n)) rfl (T.br (fun h2=>T.some ?_) fun h2=>T.ck (by omega) (hL _ ⟨by omega,by omega,fun k hk it hit=>?_⟩ (by omega)))
    · have:(x.items.any fun it=>decide (it.number=n))=true:=List.any_eq_true.2 ⟨y,List.mem_of_getElem? hy,h2⟩
      rw [this,zDF (by omega)];rfl
    rcases Int.lt_or_le (k:Int) q with h4 | h4
    · exact q3 k h4 it hit
    · have:k=q.toNat:=by omega
      rw [this,hy] at hit;cases hit
      exact zOF h2
  · have h:=zOF h
    refine T.some ?_
    have:(x.items.any fun it=>decide (it.number=n))=false:=List.any_eq_false.2 fun it hit=>by
      obtain ⟨k,hk⟩:=List.mem_iff_getElem?.1 hit
      have:=(List.getElem?_eq_some_iff.1 hk).1
      have:=q3 k (by omega) it hk
      simpa using this
    rw [this];rfl
def zts (p q:GTab):GWlk:=GWlk.mk (GSid.mk p q) 0
theorem zpX {p q:GTab} {x y:GTyp} {v:Val} {Ff Fv} {F:Int→Int→Val→Val} (hl:v.l.length=x.fields.length) (hlen:x.fields.length=y.fields.length ∨ x.more=true∧y.more=true) (hx:x.fields.length ≤ 1000) (hy:y.fields.length ≤ 1000)
    (hz:∀ w ∈ v.l,w.kind=0→w=zeroV) (hF:∀ (k:Nat) f g w,x.fields[k]?=some f→y.fields[k]?=some g→v.l[k]?=some w→w.kind ≠ 0→Fv (zts p q) f.ty g.ty w=some (F f.ty g.ty w,zts p q)) :
    zbl Ff Fv (zts p q) x y v=some ((List.range y.fields.length).map (pfl F x y v.l),zts p q):=by
  refine T.eqs ?_
  unfold zbl
  refine T.jp (fun b=>b=false) (fun J kk=>T.br (fun h=>T.or' (kk _ ?_)) fun _=>kk _ rfl) fun b hb=>?_
  · rcases hlen with h2 | ⟨h2,h3⟩
    · rw [h2,zDT rfl] at h;cases h
    · rw [h2,h3];rfl
  subst hb
  refine T.br (fun h=>by cases h) fun _=>T.asd ⟨by omega,by omega⟩ ?_
  refine T.lp (ι:=List Val × Int × GWlk) (fun s=>0 ≤ s.2.1∧s.2.1 ≤ (y.fields.length:Int)∧s.2.2=zts p q∧s.1=(List.range s.2.1.toNat).map (pfl F x y v.l) ++ List.replicate (y.fields.length - s.2.1.toNat) zeroV) (fun s=>((y.fields.length:Int) - s.2.1).toNat) ⟨Int.le_refl _,by dsimp only;omega,rfl,by simp [zeroV]⟩ (by dsimp only;omega) fun L s ⟨s1,s2,s3,s4⟩ hL=>?_
  obtain ⟨o,j,w⟩:=s
  dsimp only at s1 s2 s3 s4 hL ⊢
  subst s3 s4
  refine T.br (fun hb=>?_) fun hb=>T.some ?_
  · have hb := zOT hb
    have en:(j + 1).toNat=j.toNat + 1:=by omega
    have er:y.fields.length - j.toNat=(y.fields.length - (j.toNat + 1)) + 1:=by omega
    have hml:((List.range j.toNat).map (pfl F x y v.l)).length=j.toNat:=by rw [List.length_map,List.length_range]
    refine T.jp (ι:=List Val × GWlk) (fun r=>r=((List.range (j.toNat + 1)).map (pfl F x y v.l) ++ List.replicate (y.fields.length - (j.toNat + 1)) zeroV,zts p q)) (fun J kk=>?_) fun r hr=>?_
    · refine T.get s1 hb fun g hg=>?_
      have keep:pfl F x y v.l j.toNat=zeroV→(List.range j.toNat).map (pfl F x y v.l) ++ List.replicate (y.fields.length - j.toNat) zeroV=(List.range (j.toNat + 1)).map (pfl F x y v.l) ++ List.replicate (y.fields.length - (j.toNat + 1)) zeroV:=fun h=>by
        rw [List.range_succ,List.map_append,List.map_singleton,h,er,List.replicate_succ,List.append_assoc];rfl
      refine T.jp (fun b=>b=(match v.l[j.toNat]? with | some w=>!decide (w.kind=0) | none=>false)) (fun J2 k2=>T.br (fun hc=>T.get s1 (by have:=zOT hc;omega) fun w hw=>T.eq (zlO w) (k2 _ ?_)) fun hc=>k2 _ ?_) fun b hb2=>?_
      · rw [hw]
        have ea:(decide (w.kind=0) && pln w false false false false)=decide (w.kind=0):=by
          by_cases hz0:w.kind=0
          · rw [zpu.2 (hz w (List.mem_of_getElem? hw) hz0),zDT hz0]
          · rw [zDF hz0];rfl
        rw [ea]
      · have:=zOF hc
        rw [List.getElem?_eq_none (by omega)]
      refine T.br (fun hb3=>?_) fun hb3=>?_
      · rw [hb3] at hb2
        obtain ⟨w,hw⟩:∃ w,v.l[j.toNat]?=some w:=by
          cases hv:v.l[j.toNat]? with
          | none=>rw [hv] at hb2;cases hb2
          | some w=>exact ⟨w,rfl⟩
        rw [hw] at hb2
        have hw0:w.kind ≠ 0:=fun h=>by simp [h] at hb2
        have hwl:=(List.getElem?_eq_some_iff.1 hw).1
        have gw:getI v.l j=some w:=by rw [zdB s1 (by omega)];exact congrArg some (List.getElem?_eq_some_iff.1 hw).2
        refine T.get s1 (by omega) fun f hf=>T.eq gw (T.eq (hF j.toNat f g w hf hg hw hw0) ?_)
        have hlen2:((List.range j.toNat).map (pfl F x y v.l) ++ List.replicate (y.fields.length - j.toNat) zeroV).length=y.fields.length:=by rw [List.length_append,hml,List.length_replicate];omega
        refine T.asd ⟨s1,by rw [hlen2];exact hb⟩ ?_
        have hget:((List.range j.toNat).map (pfl F x y v.l) ++ List.replicate (y.fields.length - j.toNat) zeroV)[j.toNat]?=some zeroV:=by
          rw [List.getElem?_append_right (by rw [hml];exact Nat.le_refl _),hml,Nat.sub_self,er,List.replicate_succ];rfl
        refine T.eq hget (kk _ ?_)
        congr 1
        have hp:pfl F x y v.l j.toNat=F f.ty g.ty w:=by
          unfold pfl;rw [hf,hg,hw];exact if_neg hw0
        rw [List.set_append_right (h:=by rw [hml];exact Nat.le_refl _),hml,Nat.sub_self,er,List.replicate_succ,List.set_cons_zero,List.range_succ,List.map_append,List.map_singleton,hp,List.append_assoc];rfl
      · refine kk _ ?_
        congr 1
        refine keep ?_
        rw [hb3] at hb2
        unfold pfl
        cases hv:v.l[j.toNat]? with
        | none=>cases x.fields[j.toNat]? <;> cases y.fields[j.toNat]? <;> rfl
        | some w =>
          rw [hv] at hb2
          have hw0:w.kind=0:=zOT (by simpa using hb2.symm)
          cases x.fields[j.toNat]? with
          | none=>rfl
          | some f=>cases y.fields[j.toNat]? with
            | none=>rfl
            | some g=>exact if_pos hw0
    · subst hr
      exact T.ck (by omega) (hL _ ⟨by dsimp only;omega,by dsimp only;omega,rfl,by dsimp only;rw [en]⟩ (by dsimp only;omega))
  · have hb:=zOF hb
    have:j.toNat=y.fields.length:=by omega
    rw [this,Nat.sub_self]
    simp
end Go.Proofs.Q


namespace Go.Proofs.Q
open Go.Sy
set_option linter.unusedVariables false

theorem mkpf (n:Nat):zbo (n + 1)=zbP (zcG n) (zbo n):=rfl
theorem mkpg (n:Nat):zcG (n + 1)=zbl (zcG n) (zbo n):=rfl
theorem zra {x:GTyp} {v:Val} {F:Int→Val→Prop} (h7:x.kind=7 ∨ x.kind=8) (h:FitK x v F):(∀ w ∈ v.l,w.kind=0→w=zeroV)∧v.l.length=x.fields.length∧∀ (k:Nat) f w,x.fields[k]?=some f→v.l[k]?=some w→FldF x F k f w:=by
  rcases h with ⟨k,_⟩ | ⟨k,_⟩ | ⟨k,_⟩ | ⟨k,_⟩ | ⟨k,_⟩ | ⟨k,_⟩ | ⟨k,_⟩ | ⟨_,_,_,h3,h4,_⟩
  · omega
  · omega
  · omega
  · omega
  · omega
  · omega
  · omega
  · refine ⟨fun w hw h0=>?_,h3,h4⟩
    obtain ⟨k,hk⟩:=List.mem_iff_getElem?.1 hw
    have hlt:=(List.getElem?_eq_some_iff.1 hk).1
    obtain ⟨f,hf⟩:∃ f,x.fields[k]?=some f:=⟨_,List.getElem?_eq_getElem (by omega)⟩
    rcases h4 k f w hf hk with ⟨_,e,_⟩ | ⟨e,_⟩
    · exact e
    · exact absurd h0 e
theorem ztM {p q:GTab}:∀ {h n:Nat} {i k:Int} {v:Val},2 * h ≤ n→Sim h p.types q.types i k→FitB p.types h i v→Fine v→cnt v ≤ 100000→zbo n (zts p q) i k v=some (prj h p.types q.types i k v,zts p q):=by
  intro h
  induction h with
  | zero=>intro n i k v _ _ hf;exact hf.elim
  | succ h ih =>
    intro n i k v hn ⟨x,y,hx,hy,hkd,hlen,hxl,hyl,hil,hof,hfs⟩ ⟨x',hx',hfit⟩ hf hc
    rw [hx] at hx';cases hx'
    obtain ⟨n,rfl⟩:∃ n',n=n' + 2:=⟨n - 2,by omega⟩
    refine T.eqs ?_
    rw [mkpf]
    unfold zbP
    rcases hfit with ⟨hv,_⟩ | ⟨h12,hk,hr,hm,hfk⟩
    · subst hv
      exact T.br (fun _=>T.some (by rw [ziQ];rfl)) fun h=>absurd (zOF h) (by decide)
    refine T.br (fun h=>absurd (zOT h) h12) fun _=>?_
    rw [zgV h12 hx hy]
    refine T.eq (sidesP hx hy) (T.br (fun h=>?_) fun _=>?_)
    · rw [zDT hkd] at h;cases h
    have hvl:=hf.l
    refine T.jp (ι:=Val) (fun z=>z=Val.mk v.kind v.n v.b [] 0 []) (fun J kk=>T.eq (zoY _ hf.b) (kk _ rfl)) fun z hz=>?_
    subst hz
    dsimp only
    refine T.jp (ι:=Val × GWlk) (fun r=>r=(prjK (prj h p.types q.types) x y v,zts p q)) (fun J kk=>?_) fun r hr=>T.some (by rw [hr])
    unfold prjK at kk ⊢
    refine T.br (fun h3=>?_) fun h3=>?_
    · have h3:=zOT h3
      rw [if_pos h3] at kk ⊢
      refine T.cal (zrj y v.n hil) fun r _ hr=>?_
      rw [hr]
      refine T.br (fun h4=>T.some ?_) fun h4=>kk _ ?_
      · rw [if_neg (by rw [Bool.not_eq_true,← Bool.not_eq_true'];exact h4)];rfl
      · rw [if_pos (by simpa using h4)]
    have h3:=zOF h3
    rw [if_neg h3] at kk ⊢
    refine T.br (fun h10=>?_) fun h10=>?_
    · have h10:=zOT h10
      rw [if_pos h10] at kk ⊢
      have hkid:∀ w ∈ v.l,FitB p.types h x.of w:=by
        rcases hfk with ⟨e,_⟩ | ⟨e,_⟩ | ⟨e,_⟩ | ⟨e,_⟩ | ⟨e,_⟩ | ⟨_,_,_,h2⟩ | ⟨e,_⟩ | ⟨e,_⟩
        · omega
        · omega
        · omega
        · omega
        · omega
        · exact h2
        · omega
        · omega
      refine T.lp (ι:=Int × Val × GWlk) (fun s=>0 ≤ s.1∧s.1 ≤ (v.l.length:Int)∧s.2.2=zts p q∧s.2.1=Val.mk v.kind v.n v.b ((v.l.take s.1.toNat).map (prj h p.types q.types x.of y.of)) 0 []) (fun s=>((v.l.length:Int) - s.1).toNat) ⟨Int.le_refl _,by dsimp only;omega,rfl,rfl⟩ (by dsimp only;omega) fun L s ⟨s1,s2,s3,s4⟩ hL=>?_
      obtain ⟨j,o,w⟩:=s
      dsimp only at s1 s2 s3 s4 hL ⊢
      subst s3 s4
      refine T.br (fun hb=>?_) fun hb=>kk _ ?_
      · have hb:=zOT hb
        refine T.get s1 hb fun w hw=>?_
        have hwm:=List.mem_of_getElem? hw
        have hcw:=zcN hwm
        have hml:((v.l.take j.toNat).map (prj h p.types q.types x.of y.of)).length=j.toNat:=by rw [List.length_map,List.length_take];omega
        refine T.eq (ih (by omega) (hof (by omega)) (hkid w hwm) (hf.kid w hwm) (by omega)) (T.abl (by show ((v.l.take j.toNat).map (prj h p.types q.types x.of y.of)).length + 1 ≤ _;rw [hml];omega) (T.ck (by omega) (hL _ ⟨by dsimp only;omega,by dsimp only;omega,rfl,?_⟩ (by dsimp only;omega))))
        have e:(j + 1).toNat=j.toNat + 1:=by omega
        dsimp only
        rw [e,List.take_add_one,hw,List.map_append]
        rfl
      · have hb:=zOF hb
        rw [List.take_of_length_le (by omega)]
    have h10:=zOF h10
    rw [if_neg h10] at kk ⊢
    refine T.br (fun h9=>?_) fun h9=>?_
    · have h9:=zOT h9
      rw [if_pos h9] at kk ⊢
      refine T.br (fun hb=>T.some ?_) fun hb=>?_
      · rw [if_pos (zOT hb)];rfl
      have hb:=zOF hb
      rw [if_neg hb] at kk ⊢
      obtain ⟨f,w,c0,c1,c2,c3⟩:∃ f w,0 ≤ v.n∧x.fields[v.n.toNat]?=some f∧v.l=[w]∧FitB p.types h f.ty w:=by
        rcases hfk with ⟨e,_⟩ | ⟨e,_⟩ | ⟨e,_⟩ | ⟨e,_⟩ | ⟨e,_⟩ | ⟨e,_⟩ | ⟨_,_,h2,f,w,h3,h4,h5⟩ | ⟨e,_⟩
        · omega
        · omega
        · omega
        · omega
        · omega
        · omega
        · exact ⟨f,w,h2,h3,h4,h5⟩
        · omega
      have c4:=(List.getElem?_eq_some_iff.1 c1).1
      have gf:getI x.fields v.n=some f:=by rw [zdB c0 (by omega)];exact congrArg some (List.getElem?_eq_some_iff.1 c1).2
      refine T.eq gf (T.get c0 (by omega) fun g hg=>T.eq (y:=w) (by rw [c2];rfl) ?_)
      have hwm:w ∈ v.l:=by rw [c2];exact List.mem_singleton.2 rfl
      have hcw:=zcN hwm
      refine T.eq (ih (by omega) (hfs _ f g c1 hg) c3 (hf.kid w hwm) (by omega)) (kk _ ?_)
      unfold pch
      rw [c1,hg,c2]
      rfl
    have h9:=zOF h9
    rw [if_neg h9] at kk ⊢
    refine T.jp (fun b=>b=decide (v.kind=7 ∨ v.kind=8)) (fun J2 k2=>T.br (fun h=>k2 _ ?_) fun h=>k2 _ ?_) fun b hb=>?_
    · rw [h,zDT (.inl (zOT h))]
    · exact decide_eq_decide.2 ⟨.inr,fun e=>e.resolve_left (zOF h)⟩
    subst hb
    refine T.br (fun h78=>?_) fun h78=>?_
    · have h78:=zOT h78
      rw [if_pos h78] at kk ⊢
      obtain ⟨g1,g2,g3⟩:=zra (by rw [← hk];exact h78) hfk
      rw [mkpg]
      refine T.eq (zpX (F:=prj h p.types q.types) g2 hlen hxl hyl g1 fun k f g w c1 c2 c3 c4=>?_) (kk _ rfl)
      have hwm:=List.mem_of_getElem? c3
      have hcw:=zcN hwm
      refine ih (by omega) (hfs _ f g c1 c2) ?_ (hf.kid w hwm) (by omega)
      rcases g3 k f w c1 c3 with ⟨e,_⟩ | ⟨_,e,_⟩
      · exact absurd e c4
      · exact e
    · have h78:=zOF h78
      rw [if_neg h78] at kk ⊢
      exact kk _ rfl
end Go.Proofs.Q


namespace Go.Proofs.Q
open Go.Sy
set_option linter.unusedVariables false

theorem ziR {t:GTab} (ht:TabOk t) {i:Int} {x:GTyp} (hx:at_ t.types i=some x):TypOk x∧x.fields.length ≤ 1000:=by
  obtain ⟨i0,i1,hx⟩:=zg9 hx
  have htl:=ht.types
  obtain ⟨j,hj⟩:=SubT.sub ht.kids i.toNat (by omega) (by omega)
  have hjl:=hj.inb
  obtain ⟨x',hx',hok,hkid⟩:=hj
  rw [hx] at hx';cases hx'
  exact ⟨hok,zf3 hkid hjl (by omega)⟩
structure Later (R:Int→Int→Prop) (x y:GTyp):Prop where
  kind:x.kind=y.kind
  con:x.con=y.con
  more:x.more=y.more
  of:x.kind=10→R x.of y.of
  root:x.kind=7 ∨ x.kind=8 ∨ x.kind=9→x.root=y.root
  len:x.fields.length ≤ y.fields.length
  lenm:x.more=true ∨ y.fields.length=x.fields.length
  fld:∀ (q:Nat) (f g:GFld),x.fields[q]?=some f→y.fields[q]?=some g→f.optional=g.optional∧f.has=g.has∧f.dflt=g.dflt∧f.group=g.group∧R f.ty g.ty
  tl:y.fields.length=x.fields.length ∨ x.fields.length=0 ∨ ∀ g,y.fields[x.fields.length]?=some g→g.group=0 ∨ ∀ f,x.fields[x.fields.length - 1]?=some f→g.group ≠ f.group
  ilen:x.items.length ≤ y.items.length
  itake:x.kind=3→y.items.take x.items.length=x.items
  imore:x.kind=3→x.more=true ∨ y.items.length=x.items.length
theorem ztW {f g:Val} (hf:DOk f) (hg:DOk g) (h:vsm f g=true):f=g:=by
  obtain ⟨_,f2,f3,_,_,f6⟩:=hf
  obtain ⟨_,g2,g3,_,_,g6⟩:=hg
  unfold vsm at h
  simp only [Bool.and_eq_true,decide_eq_true_eq] at h
  obtain ⟨⟨⟨⟨⟨h1,h2⟩,h3⟩,_⟩,_⟩,_⟩:=h
  have h3:f.b=g.b:=congrArg Str.b h3
  rw [← Val.eta f,← Val.eta g,h1,h2,h3,f2,g2,f3,g3,f6,g6]
theorem zhT {a b:GTab} (ha:TabOk a) (hb:TabOk b) {h:Nat} {i k:Int} (he:ext (h + 1) a.types b.types i k=true):∃ x y,at_ a.types i=some x∧at_ b.types k=some y∧Later (fun i k=>ext h a.types b.types i k=true) x y:=by
  obtain ⟨x,y,hx,hy,h1,h2⟩:=zsC he
  obtain ⟨k1,k2,k3,k4⟩:=zuk.1 h1
  obtain ⟨tx,lx⟩:=ziR ha hx
  obtain ⟨ty,ly⟩:=ziR hb hy
  refine ⟨x,y,hx,hy,?_⟩
  unfold body at h2
  by_cases c7:x.kind=7 ∨ x.kind=8 ∨ x.kind=9
  · rw [if_neg (by omega),if_neg (by omega),if_pos c7] at h2
    obtain ⟨⟨e1,e2,e3⟩,e4,e5⟩:=zsA.1 h2
    have ix:x.items=[]:=tx.items (by omega)
    have iy:y.items=[]:=ty.items (by omega)
    refine ⟨k1,k3,k4,fun h=>by omega,fun _=>e1,e2,e3,fun q f g hf hg=>?_,ztX.1 e5,by rw [ix];exact Nat.zero_le _,fun h=>by omega,fun h=>by omega⟩
    obtain ⟨_,u2,u3,u4,u5,u6⟩:=zty.1 (e4 q f g hf hg)
    exact ⟨u2,u3,ztW (tx.dflt f (List.mem_of_getElem? hf)) (ty.dflt g (List.mem_of_getElem? hg)) u4,u5,u6⟩
  · have fx:x.fields=[]:=tx.fields c7
    have fy:y.fields=[]:=ty.fields (by rw [← k1];exact c7)
    have z1:x.fields.length=0:=by rw [fx];rfl
    have z2:y.fields.length=0:=by rw [fy];rfl
    by_cases c10:x.kind=10
    · rw [if_pos c10] at h2
      have ix:x.items=[]:=tx.items (by omega)
      exact ⟨k1,k3,k4,fun _=>h2,fun h=>absurd h c7,by omega,.inr (by omega),fun q f g hf=>(by rw [fx] at hf;cases hf),.inl (by omega),by rw [ix];exact Nat.zero_le _,fun h=>by omega,fun h=>by omega⟩
    · rw [if_neg c10] at h2
      by_cases c3:x.kind=3
      · rw [if_pos c3] at h2
        obtain ⟨e1,e2,e3,e4⟩:=ztB.1 h2
        exact ⟨k1,k3,k4,fun h=>by omega,fun h=>absurd h c7,by omega,.inr (by omega),fun q f g hf=>(by rw [fx] at hf;cases hf),.inl (by omega),e2,fun _=>e3,fun _=>e4⟩
      · have ix:x.items=[]:=tx.items c3
        exact ⟨k1,k3,k4,fun h=>by omega,fun h=>absurd h c7,by omega,.inr (by omega),fun q f g hf=>(by rw [fx] at hf;cases hf),.inl (by omega),by rw [ix];exact Nat.zero_le _,fun h=>absurd h c3,fun h=>absurd h c3⟩
theorem zoj {a b:GTab} (ha:TabOk a) (hb:TabOk b):∀ {h:Nat} {i k:Int},ext h a.types b.types i k=true→Sim h a.types b.types i k∧Sim h b.types a.types k i:=by
  intro h
  induction h with
  | zero=>intro i k _;exact ⟨trivial,trivial⟩
  | succ h ih =>
    intro i k he
    obtain ⟨x,y,hx,hy,L⟩:=zhT ha hb he
    obtain ⟨tx,lx⟩:=ziR ha hx
    obtain ⟨ty,ly⟩:=ziR hb hy
    have i1:=tx.ilen
    have i2:=ty.ilen
    have hl:x.fields.length=y.fields.length ∨ x.more=true∧y.more=true:=L.lenm.elim (fun h=>.inr ⟨h,by rw [← L.more];exact h⟩) fun h=>.inl h.symm
    refine ⟨⟨x,y,hx,hy,L.kind,hl,lx,ly,by omega,fun h=>(ih (L.of h)).1,fun q f g hf hg=>(ih (L.fld q f g hf hg).2.2.2.2).1⟩,⟨y,x,hy,hx,L.kind.symm,?_,ly,lx,by omega,fun h=>(ih (L.of (by rw [L.kind];exact h))).2,fun q g f hg hf=>(ih (L.fld q f g hf hg).2.2.2.2).2⟩⟩
    rcases hl with h | ⟨h1,h2⟩
    · exact .inl h.symm
    · exact .inr ⟨h2,h1⟩

/-! ### Stripped -/
theorem zrH {x:GTyp} {v:Val} {F:Int→Val→Prop} (h:FitK x v F) (P:Val→Prop) (h0:P zeroV) (hF:∀ i w,w ∈ v.l→F i w→P w):∀ w ∈ v.l,P w:=by
  have leaf:∀ {n b m:Bool},pln v n b false m=true→∀ w ∈ v.l,P w:=fun h w hw=>by
    unfold pln at h
    simp only [Bool.false_or,Bool.and_eq_true,decide_eq_true_eq] at h
    have e1:v.l=[]:=List.length_eq_zero_iff.1 (by have:=h.1.2;omega)
    rw [e1] at hw;cases hw
  rcases h with ⟨_,h,_⟩ | ⟨_,h,_⟩ | ⟨_,h,_⟩ | ⟨_,h⟩ | ⟨_,h,_⟩ | ⟨_,h,_,h2⟩ | ⟨_,h,_,f,w,_,h2,h3⟩ | ⟨_,h,hr,hl,h2,_⟩
  · exact leaf h
  · exact leaf h
  · exact leaf h
  · exact leaf h
  · exact leaf h
  · exact fun w hw=>hF _ w hw (h2 w hw)
  · intro w' hw
    rw [h2] at hw
    rw [List.mem_singleton.1 hw]
    exact hF _ w (by rw [h2];exact List.mem_singleton.2 rfl) h3
  · intro w hw
    obtain ⟨k,hkw⟩:=List.mem_iff_getElem?.1 hw
    have hlt:=(List.getElem?_eq_some_iff.1 hkw).1
    obtain ⟨f,hf⟩:∃ f,x.fields[k]?=some f:=⟨_,List.getElem?_eq_getElem (by omega)⟩
    rcases h2 k f w hf hkw with ⟨_,e,_⟩ | ⟨_,e,_⟩
    · rw [e];exact h0
    · exact hF _ w hw e
theorem zq7 {x:GTyp} {v:Val} {F G:Int→Val→Prop} (h:FitK x v F) (hF:∀ i w,w ∈ v.l→F i w→G i w):FitK x v G:=by
  rcases h with h | h | h | h | h | ⟨h1,h2,h3,h4⟩ | ⟨h1,h2,h3,f,w,h4,h5,h6⟩ | ⟨h1,h2,h3,h4,h5,h6⟩
  · exact .inl h
  · exact .inr (.inl h)
  · exact .inr (.inr (.inl h))
  · exact .inr (.inr (.inr (.inl h)))
  · exact .inr (.inr (.inr (.inr (.inl h))))
  · exact .inr (.inr (.inr (.inr (.inr (.inl ⟨h1,h2,h3,fun w hw=>hF _ w hw (h4 w hw)⟩)))))
  · exact .inr (.inr (.inr (.inr (.inr (.inr (.inl ⟨h1,h2,h3,f,w,h4,h5,hF _ w (by rw [h5];exact List.mem_singleton.2 rfl) h6⟩))))))
  · refine .inr (.inr (.inr (.inr (.inr (.inr (.inr ⟨h1,h2,h3,h4,fun k f w hf hw=>?_,h6⟩))))))
    rcases h5 k f w hf hw with e | ⟨e1,e2,e3⟩
    · exact .inl e
    · exact .inr ⟨e1,hF _ w (List.mem_of_getElem? hw) e2,e3⟩
theorem zuf {t:GTab}:∀ {h:Nat} {i:Int} {v:Val},Fit t h i v→bare v=true→FitB t.types h i v:=by
  intro h
  induction h with
  | zero=>intro i v hf;exact hf.elim
  | succ h ih =>
    intro i v hfit hb
    have hs:=zrp hfit hb
    obtain ⟨i0,x,hx,hf⟩:=hfit
    rw [zoa,Bool.and_eq_true] at hb
    have hb1:(decide (v.kind=12) || decide (0 < v.more.length))=false:=by simpa using hb.1
    rw [Bool.or_eq_false_iff] at hb1
    have hk:=zOF hb1.1
    have hkid:∀ w ∈ v.l,bare w=true:=fun w hw=>List.all_eq_true.1 hb.2 _ (List.mem_map.2 ⟨w,hw,rfl⟩)
    obtain ⟨hkk,hf⟩:=hf.resolve_left hk
    have hr:v.rule=0:=by rw [← hs,zga hk];rfl
    have hm:v.more=[]:=by rw [← hs,zga hk];rfl
    refine ⟨x,?_,.inr ⟨hk,hkk,hr,hm,zq7 hf fun i w hw h1=>ih h1 (hkid w hw)⟩⟩
    unfold at_
    rw [if_pos i0];exact hx
theorem zkn {t:List GTyp}:∀ {h:Nat} {i:Int} {v:Val},FitB t h i v→strip v=v:=by
  intro h
  induction h with
  | zero=>intro i v hf;exact hf.elim
  | succ h ih =>
    intro i v ⟨x,hx,hf⟩
    rcases hf with ⟨hv,_⟩ | ⟨h12,hk,hr,hm,hf⟩
    · subst hv;rw [zgA];rfl
    · have hl:v.l.map strip=v.l:=by
        conv=>rhs;rw [← List.map_id v.l]
        exact List.map_congr_left fun w hw=>zrH hf (fun w=>strip w=w) zis (fun i w _ h=>ih h) w hw
      rw [zga h12,hl]
      conv=>rhs;rw [← Val.eta v,hr,hm]

/-! ### How much there is -/
theorem zow:Fine u12:=.mk (Nat.zero_le _) (Nat.zero_le _) (Nat.zero_le _) (fun r hr=>by cases hr) fun w hw=>by cases hw
theorem zth:Fine zeroV:=.mk (Nat.zero_le _) (Nat.zero_le _) (Nat.zero_le _) (fun r hr=>by cases hr) fun w hw=>by cases hw
theorem zkM {k n r:Int} {b:List UInt8} {l:List Val} (hb:b.length ≤ 68719476736) (hl:l.length ≤ 68719476736) (hk:∀ w ∈ l,Fine w):Fine (Val.mk k n b l r []) :=
  .mk hb hl (Nat.zero_le _) (fun r hr=>by cases hr) hk
theorem fk3 {x:GTyp} {v:Val} {F:Int→Val→Prop} (h:FitK x v F) (hk:x.kind=3):pln v true false false false=true∧∃ it ∈ x.items,it.number=v.n:=by
  rcases h with ⟨k,_⟩ | ⟨k,_⟩ | ⟨_,h⟩ | ⟨k,_⟩ | ⟨k,_⟩ | ⟨k,_⟩ | ⟨k,_⟩ | ⟨k,_⟩
  · omega
  · omega
  · exact h
  all_goals omega
theorem fk10 {x:GTyp} {v:Val} {F:Int→Val→Prop} (h:FitK x v F) (hk:x.kind=10):pln v false false true false=true∧(x.con.more || wthn x.con (v.l.length:Int))=true∧∀ w ∈ v.l,F x.of w:=by
  rcases h with ⟨k,_⟩ | ⟨k,_⟩ | ⟨k,_⟩ | ⟨k,_⟩ | ⟨k,_⟩ | ⟨_,h⟩ | ⟨k,_⟩ | ⟨k,_⟩
  · omega
  · omega
  · omega
  · omega
  · omega
  · exact h
  all_goals omega
theorem fk9 {x:GTyp} {v:Val} {F:Int→Val→Prop} (h:FitK x v F) (hk:x.kind=9):pln v true false true false=true∧0 ≤ v.n∧∃ f w,x.fields[v.n.toNat]?=some f∧v.l=[w]∧F f.ty w:=by
  rcases h with ⟨k,_⟩ | ⟨k,_⟩ | ⟨k,_⟩ | ⟨k,_⟩ | ⟨k,_⟩ | ⟨k,_⟩ | ⟨_,h⟩ | ⟨k,_⟩
  · omega
  · omega
  · omega
  · omega
  · omega
  · omega
  · exact h
  · omega
theorem fk78 {x:GTyp} {v:Val} {F:Int→Val→Prop} (h:FitK x v F) (hk:x.kind=7 ∨ x.kind=8):pln v false false true true=true∧(v.more=[]→v.rule=0)∧v.l.length=x.fields.length ∧
    (∀ (k:Nat) f w,x.fields[k]?=some f→v.l[k]?=some w→FldF x F k f w)∧∀ s ∈ slots x,Grp x v s:=by
  rcases h with ⟨k,_⟩ | ⟨k,_⟩ | ⟨k,_⟩ | ⟨k,_⟩ | ⟨k,_⟩ | ⟨k,_⟩ | ⟨k,_⟩ | ⟨_,h⟩
  · omega
  · omega
  · omega
  · omega
  · omega
  · omega
  · omega
  · exact h
theorem fkl {x y:GTyp} {v:Val} {F G:Int→Val→Prop} (h:FitK x v F) (h3:x.kind ≠ 3) (h10:x.kind ≠ 10) (h9:x.kind ≠ 9) (h78:¬ (x.kind=7 ∨ x.kind=8)) (hk:x.kind=y.kind) (hc:x.con=y.con):v.l=[]∧v.kind=v.kind∧FitK y v G:=by
  have leaf:∀ {n b m:Bool},pln v n b false m=true→v.l=[]:=fun h=>by
    unfold pln at h
    simp only [Bool.false_or,Bool.and_eq_true,decide_eq_true_eq] at h
    exact List.length_eq_zero_iff.1 (by have:=h.1.2;omega)
  rcases h with ⟨k,h⟩ | ⟨k,h⟩ | ⟨k,_⟩ | ⟨k,h⟩ | ⟨k,h⟩ | ⟨k,_⟩ | ⟨k,_⟩ | ⟨k,_⟩
  · exact ⟨leaf h.1,rfl,.inl ⟨by rw [← hk];exact k,h⟩⟩
  · exact ⟨leaf h.1,rfl,.inr (.inl ⟨by rw [← hk];exact k,by rw [← hc];exact h⟩)⟩
  · exact absurd k h3
  · exact ⟨leaf h,rfl,.inr (.inr (.inr (.inl ⟨by rw [← hk];exact k,h⟩)))⟩
  · exact ⟨leaf h.1,rfl,.inr (.inr (.inr (.inr (.inl ⟨by rw [← hk];exact k,by rw [← hk,← hc];exact h⟩))))⟩
  · exact absurd k h10
  · exact absurd k h9
  · exact absurd k h78
theorem zph {a b:List GTyp}:∀ {h:Nat} {i k:Int} {v:Val},Sim h a b i k→FitB a h i v→Fine v→Fine (prj h a b i k v):=by
  intro h
  induction h with
  | zero=>intro i k v _ _ hf;exact hf
  | succ h ih =>
    intro i k v ⟨x,y,hx,hy,hkd,hlen,hxl,hyl,hil,hof,hfs⟩ ⟨x',hx',hfit⟩ hf
    rw [hx] at hx';cases hx'
    rcases hfit with ⟨hv,_⟩ | ⟨h12,hk,hr,hm,hfk⟩
    · subst hv;rw [ziQ];exact zow
    rw [zgV h12 hx hy]
    unfold prjK
    split
    · split
      · exact zkM hf.b (Nat.zero_le _) fun w hw=>by cases hw
      · exact zow
    split
    · rename_i h10
      obtain ⟨_,_,g3⟩:=fk10 hfk (by omega)
      refine zkM hf.b (by rw [List.length_map];exact hf.l) fun w hw=>?_
      obtain ⟨w',h1,h2⟩:=List.mem_map.1 hw
      subst h2
      exact ih (hof (by omega)) (g3 w' h1) (hf.kid w' h1)
    split
    · rename_i h9
      obtain ⟨_,_,f0,w0,g1,g2,g3⟩:=fk9 hfk (by omega)
      split
      · exact zow
      · unfold pch
        split
        · rename_i f g w e1 e2 e3
          refine zkM hf.b (by show 1 ≤ _;omega) fun w' hw=>?_
          rw [List.mem_singleton.1 hw]
          rw [g1] at e1;cases e1
          rw [g2] at e3;cases e3
          exact ih (hfs _ f0 g g1 e2) g3 (hf.kid w0 (by rw [g2];exact List.mem_singleton.2 rfl))
        · exact zow
    split
    · rename_i h78
      obtain ⟨_,_,_,g3,_⟩:=fk78 hfk (by rw [← hk];exact h78)
      refine zkM hf.b (by rw [List.length_map,List.length_range];omega) fun w hw=>?_
      obtain ⟨q,_,h2⟩:=List.mem_map.1 hw
      subst h2
      unfold pfl
      split
      · rename_i f g w e1 e2 e3
        split
        · exact zth
        · rename_i h0
          rcases g3 q f w e1 e3 with ⟨e,_⟩ | ⟨_,e,_⟩
          · exact absurd e h0
          · exact ih (hfs _ f g e1 e2) e (hf.kid w (List.mem_of_getElem? e3))
      · exact zth
    · exact zkM hf.b (Nat.zero_le _) fun w hw=>by cases hw
end Go.Proofs.Q


namespace Go.Proofs.Q
open Go.Sy
set_option linter.unusedVariables false

theorem zuj {r m:Int} (h:r ≤ m):∀ d:Nat,rng r (m + d)=rng r m ++ rng m (m + d):=by
  intro d
  induction d with
  | zero=>rw [show m + ((0:Nat):Int)=m by omega,ze6 (Int.le_refl m),List.append_nil]
  | succ d ih =>
    rw [show m + ((d + 1:Nat):Int)=(m + d) + 1 by omega,zg5 (by omega),zg5 (by omega),ih,List.append_assoc]
theorem zud {a b k:Int} (h:k ∈ rng a b):a ≤ k∧k < b:=by
  unfold rng at h
  obtain ⟨i,h1,h2⟩:=List.mem_map.1 h
  have:=List.mem_range.1 h1
  omega
theorem zpo {α β:Type} {f g:β→α→β}:∀ (l:List α) (o:β),(∀ o,∀ x ∈ l,f o x=g o x)→l.foldl f o=l.foldl g o
  | [],_,_=>rfl
  | x :: r,o,h=>by
    rw [List.foldl_cons,List.foldl_cons,h o x List.mem_cons_self]
    exact zpo r _ fun o y hy=>h o y (List.mem_cons_of_mem _ hy)
theorem zkE {α:Type} {p q:α→Bool}:∀ {l:List α},(∀ x ∈ l,p x=q x)→l.any p=l.any q
  | [],_=>rfl
  | a :: r,h=>by rw [List.any_cons,List.any_cons,h a List.mem_cons_self,zkE fun x hx=>h x (List.mem_cons_of_mem _ hx)]
theorem zhV {R:Int→Int→Prop} {x y:GTyp} (L:Later R x y) {k:Int} (hk:k.toNat < x.fields.length):grp y.fields k=grp x.fields k:=by
  obtain ⟨f,hf⟩:∃ f,x.fields[k.toNat]?=some f:=⟨_,List.getElem?_eq_getElem hk⟩
  obtain ⟨g,hg⟩:∃ g,y.fields[k.toNat]?=some g:=⟨_,List.getElem?_eq_getElem (by have:=L.len;omega)⟩
  unfold grp
  rw [hf,hg]
  exact (L.fld _ f g hf hg).2.2.2.1.symm
theorem zl2 {R : Int→Int→Prop} {x y:GTyp} (L:Later R x y) (hk:x.kind=7 ∨ x.kind=8) (h0:0 ≤ x.root) (hr:x.root ≤ x.fields.length):∃ rest,slots y=slots x ++ rest∧∀ s ∈ rest,∀ k ∈ s,(x.fields.length:Int) ≤ k:=by
  have hlen:=L.len
  have hroot:=L.root (by omega)
  have c1:(!decide (y.kind=9))=(!decide (x.kind=9)):=by rw [L.kind]
  have e1:(rng x.root x.fields.length).foldl (slot1 (!decide (y.kind=9)) y.fields) []=slots x:=by
    unfold slots
    rw [c1]
    refine zpo _ _ fun o k hm=>?_
    obtain ⟨k1,k2⟩:=zud hm
    unfold slot1
    rw [zhV L (k:=k) (by omega),zhV L (k:=k - 1) (by omega)]
  have key : ∀ d : Nat,x.fields.length + d ≤ y.fields.length→∃ rest,(rng x.fields.length (x.fields.length + d)).foldl (slot1 (!decide (y.kind=9)) y.fields) (slots x)=slots x ++ rest∧(∀ s ∈ rest,∀ k ∈ s,(x.fields.length:Int) ≤ k)∧(0 < d→rest ≠ []):=by
    intro d
    induction d with
    | zero=>exact fun _=>⟨[],by rw [show (x.fields.length:Int) + ((0:Nat):Int)=x.fields.length by omega,ze6 (Int.le_refl _),List.append_nil];rfl,fun s hs=>(by cases hs),fun h=>absurd h (by omega)⟩
    | succ d ih =>
      intro hd
      obtain ⟨rest,i1,i2,i3⟩:=ih (by omega)
      rw [show (x.fields.length:Int) + ((d + 1:Nat):Int)=((x.fields.length:Int) + d) + 1 by omega,zg5 (by omega),List.foldl_append,i1]
      show ∃ rest',slot1 (!decide (y.kind=9)) y.fields (slots x ++ rest) ((x.fields.length:Int) + d)=slots x ++ rest'∧_
      unfold slot1
      split
      · rename_i hc
        obtain ⟨hc1,hc2⟩:=hc
        by_cases hz:rest=[]
        · exfalso
          have d0:d=0:=by
            rcases Nat.eq_zero_or_pos d with h | h
            · exact h
            · exact absurd hz (i3 h)
          subst d0 hz
          rw [List.append_nil] at hc1
          simp only [Bool.and_eq_true,decide_eq_true_eq] at hc1
          rcases L.tl with t | t | t
          · omega
          · have:slots x=[]:=by
              unfold slots
              rw [ze6 (by omega)];rfl
            rw [this] at hc1
            exact absurd hc1.2 (by decide)
          · have hm:0 < x.fields.length:=by
              rcases Nat.eq_zero_or_pos x.fields.length with h | h
              · have:slots x=[]:=by
                  unfold slots
                  rw [ze6 (by omega)];rfl
                rw [this] at hc1
                exact absurd hc1.2 (by decide)
              · exact h
            obtain ⟨g,hg⟩:∃ g,y.fields[x.fields.length]?=some g:=⟨_,List.getElem?_eq_getElem (by omega)⟩
            obtain ⟨f,hf⟩:∃ f,x.fields[x.fields.length - 1]?=some f:=⟨_,List.getElem?_eq_getElem (by omega)⟩
            have eg:grp y.fields ((x.fields.length:Int) + ((0:Nat):Int))=g.group:=by
              unfold grp
              rw [show ((x.fields.length:Int) + ((0:Nat):Int)).toNat=x.fields.length by omega,hg];rfl
            have ef:grp y.fields ((x.fields.length:Int) + ((0:Nat):Int) - 1)=f.group:=by
              rw [zhV L (by omega)]
              unfold grp
              rw [show ((x.fields.length:Int) + ((0:Nat):Int) - 1).toNat=x.fields.length - 1 by omega,hf];rfl
            rw [eg] at hc1
            rw [eg,ef] at hc2
            rcases t g hg with t | t
            · rw [t] at hc1;exact absurd hc1.1.2 (by decide)
            · exact t f hf hc2.symm
        · have hl:0 < rest.length:=List.length_pos_iff.2 hz
          have e:(slots x ++ rest).length - 1=(slots x).length + (rest.length - 1):=by rw [List.length_append];omega
          rw [e,List.set_append_right (h:=by omega),Nat.add_sub_cancel_left,List.getElem?_append_right (by omega),Nat.add_sub_cancel_left]
          refine ⟨_,rfl,fun s hs k hk=>?_,fun _ h=>hz (by simpa using h)⟩
          rcases List.mem_or_eq_of_mem_set hs with h | h
          · exact i2 s h k hk
          · subst h
            rcases List.mem_append.1 hk with h | h
            · cases hg:rest[rest.length - 1]? with
              | none=>rw [hg] at h;cases h
              | some s'=>rw [hg] at h;exact i2 s' (List.mem_of_getElem? hg) k h
            · rw [List.mem_singleton.1 h];omega
      · refine ⟨rest ++ [[(x.fields.length:Int) + d]],by rw [List.append_assoc],fun s hs k hk=>?_,fun _=>by simp⟩
        rcases List.mem_append.1 hs with h | h
        · exact i2 s h k hk
        · rw [List.mem_singleton.1 h] at hk
          rw [List.mem_singleton.1 hk];omega
  obtain ⟨rest,r1,r2,_⟩:=key (y.fields.length - x.fields.length) (by omega)
  refine ⟨rest,?_,r2⟩
  have ey:((x.fields.length:Int) + ((y.fields.length - x.fields.length:Nat):Int))=(y.fields.length:Int):=by omega
  have:=zuj hr (y.fields.length - x.fields.length)
  rw [ey] at this r1
  rw [← r1,← e1,← List.foldl_append,← this]
  unfold slots
  rw [hroot]
end Go.Proofs.Q


/- Numbers of 64 bits that may wrap. No condition: general lemmas. -/
import Derived.WalkKit
import Derived.Lib.DecodeN
import Derived.ProofKit
import Derived.OpenShut
import Derived.SizedLaws
import Derived.Laws.BytesString
import Derived.Lib.ConvBytes
set_option linter.unusedVariables false
set_option linter.unusedSimpArgs false
set_option maxRecDepth 4000
set_option maxHeartbeats 4000000
namespace Go.Sy
theorem e {α:Sort _} {a:α}:a=a:=rfl
theorem zOT {p:Prop} [Decidable p] (h:decide p=true):p:=of_decide_eq_true h
theorem zOF {p:Prop} [Decidable p] (h:decide p=false):¬ p:=of_decide_eq_false h
theorem zDT {p:Prop} [Decidable p] (h:p):decide p=true:=decide_eq_true h
theorem zDF {p:Prop} [Decidable p] (h:¬ p):decide p=false:=decide_eq_false h
theorem zLa {α:Type _} {as bs:List α}:(as ++ bs).length=as.length + bs.length:=List.length_append
theorem zLc {α:Type _} {a:α} {b:List α}:(a :: b).length=b.length + 1:=rfl
theorem zLs {α:Type _} {a:α}:[a].length=1:=rfl
theorem zLd {α:Type _} {i:Nat} {l:List α}:(l.drop i).length=l.length - i:=List.length_drop
theorem zLt {α:Type _} {i:Nat} {l:List α}:(l.take i).length=min i l.length:=List.length_take
theorem zLn {α:Type _}:([]:List α).length=0:=rfl
theorem zBa (a b:Bool):((a && b)=true)=(a=true/\b=true):=Bool.and_eq_true a b
theorem zIl (a:Int):a <= a:=Int.le_refl a
theorem zNl (a:Nat):a <= a:=Nat.le_refl a
theorem zNz (a:Nat):0 <= a:=Nat.zero_le a
theorem zCt {α:Type _} (a b:α):(bif true then a else b)=a:=rfl
theorem zCf {α:Type _} (a b:α):(bif false then a else b)=b:=rfl
theorem zLA {α:Type _} (a b c:List α):a ++ b ++ c=a ++ (b ++ c):=List.append_assoc a b c
theorem zGe {α:Type _} {l:List α} {i:Nat} (h:i < l.length):l[i]?=some l[i]:=List.getElem?_eq_getElem h
theorem zGm {α:Type _} {l:List α} {i:Nat} {a:α} (h:l[i]?=some a):a ∈ l:=List.mem_of_getElem? h
theorem zGs {α:Type _} {l:List α} {i:Nat} {a:α}:l[i]?=some a ↔ ∃ h:i < l.length,l[i]=a:=List.getElem?_eq_some_iff
theorem zDn {α:Type _} {as:List α} {i:Nat} (h:as.length <= i):as.drop i=[]:=List.drop_eq_nil_of_le h
theorem zMs {α:Type _} {a:α} {l:List α}:a ∈ a :: l:=List.mem_cons_self
theorem zMo {α:Type _} {a b:α}:a ∈ [b] ↔ a=b:=List.mem_singleton
theorem zTl {α:Type _} {l:List α} {i:Nat} (h:l.length <= i):l.take i=l:=List.take_of_length_le h
theorem zMm {α:Type _} (y:α) {a:α} {l:List α} (h:a ∈ l):a ∈ y :: l:=List.mem_cons_of_mem y h
theorem znC {α:Type} {l l':List α} (h:l <+: l') {i:Nat} (hi:i < l.length):l'[i]?=l[i]?:=by
 obtain ⟨t,rfl⟩:=h
 exact List.getElem?_append_left hi

abbrev Frz:=Nat->Option (List Value)

def Frz.le (S S':Frz):Prop:=∀ b cs,S b=some cs->∃ cs',S' b=some cs'/\cs <+: cs'
theorem Frz.le_refl (S:Frz):S.le S:=λ_ cs h=>⟨cs,h,List.prefix_refl _⟩
theorem Frz.le_trans {A B C:Frz} (h:A.le B) (k:B.le C):A.le C:=λb cs hb=>by
 obtain ⟨c1,h1,p1⟩:=h b cs hb
 obtain ⟨c2,h2,p2⟩:=k b c1 h1
 exact ⟨c2,h2,p1.trans p2⟩

def Frz.sub (S:Frz) (w:World):Prop:=∀ b cs,S b=some cs->∃ c T fr,w.heap[b]?=some (.cells c T fr)/\cs <+: c.toList

def Frz.has (S:Frz) (a:Addr) (cs:List Value):Prop :=
 a.spot=none/\∃ c,S a.block=some c/\∀ i v,cs[i]?=some v->c[a.off + i]?=some v

theorem Frz.has_mono {S S':Frz} {a:Addr} {cs:List Value} (h:S.le S') (k:S.has a cs):S'.has a cs:=by
 obtain ⟨hs,c,hc,hv⟩:=k
 obtain ⟨c',hc',hp⟩:=h _ _ hc
 refine ⟨hs,c',hc',λi v hi=>?_⟩
 have h1:=hv i v hi
 have hlt:a.off + i < c.length:=(List.getElem?_eq_some_iff.1 h1).1
 rw [<- h1]
 exact znC hp hlt

theorem Frz.has_cell {S:Frz} {w:World} {a:Addr} {cs:List Value} (hs:S.sub w) (k:S.has a cs) {i:Nat} {v:Value} (hi:cs[i]?=some v) :
    w.cell? (a.add i)=some v:=by
  obtain ⟨hsp,c,hc,hv⟩:=k
  obtain ⟨c',T,fr,hh,hp⟩:=hs _ _ hc
  have h1:=hv i v hi
  have hlt:a.off + i < c.length:=(List.getElem?_eq_some_iff.1 h1).1
  have h2:c'.toList[a.off + i]?=some v:=by
    rw [<- h1];exact znC hp hlt
  have hadd:(a.add i).block=a.block/\(a.add i).off=a.off + i/\(a.add i).spot=none:=by
    unfold Addr.add;split
    · rename_i h0;subst h0;exact ⟨rfl,rfl,hsp⟩
    · exact ⟨rfl,rfl,rfl⟩
  unfold World.cell?
  rw [hadd.1,hh]
  simp only [hadd.2.2,hadd.2.1]
  simpa using h2

theorem Frz.has_sub {S:Frz} {a:Addr} {cs:List Value} (k:S.has a cs) (o:Nat):S.has (a.add o) (cs.drop o):=by
 obtain ⟨hsp,c,hc,hv⟩:=k
 have hadd:(a.add o).block=a.block/\(a.add o).off=a.off + o/\(a.add o).spot=none:=by
  unfold Addr.add;split
  ·rename_i h0;subst h0;exact ⟨rfl,rfl,hsp⟩
  ·exact ⟨rfl,rfl,rfl⟩
 refine ⟨hadd.2.2,c,by rw [hadd.1];exact hc,λi v hi=>?_⟩
 rw [hadd.2.1,Nat.add_assoc]
 exact hv _ _ (by rw [List.getElem?_drop] at hi;exact hi)

theorem Frz.has_take {S:Frz} {a:Addr} {cs:List Value} (k:S.has a cs) (n:Nat):S.has a (cs.take n):=by
 obtain ⟨hsp,c,hc,hv⟩:=k
 refine ⟨hsp,c,hc,λi v hi=>hv i v ?_⟩
 rw [List.getElem?_take] at hi
 split at hi
 ·exact hi
 ·cases hi

structure VP where
 p:Frz->Value->Prop
 mono:∀ {S S':Frz} {v:Value},S.le S'->p S v->p S' v

structure HP where
 p:Nat->Frz->Obj->Prop
 mono:∀ {S S':Frz} {b:Nat} {o:Obj},S.le S'->S' b=S b->p b S o->p b S' o

structure Ent where
 k:Option Nat
 φ:HP

def Ent.sat (e:Ent) (S:Frz) (w:World):Prop :=
 match e.k with
 | none=>True
 | some b=>∃ o,w.heap[b]?=some o/\e.φ.p b S o

abbrev zM:=List (Nat × VP)

def zcg:zM->Nat->Option VP
 | [],_=>none
 | (k,R) :: r,i=>bif Nat.beq k i then some R else zcg r i

structure St where
 Γ:zM
 H:List Ent

structure zjn (M:List Nat) (w w':World):Prop where
 os:w'.os=w.os
 tape:w'.tape=w.tape
 output:w'.output=w.output
 size:w.heap.size <= w'.heap.size
 block:∀ k,k < w.heap.size->k ∉ M->w'.heap[k]?=w.heap[k]?

theorem zjn.refl (M:List Nat) (w:World):zjn M w w:=⟨rfl,rfl,rfl,zNl _,λ_ _ _=>rfl⟩
theorem zjn.below {w w':World} (h:zjn [] w w'):RowKit.Below w.heap.size w w':=⟨h.os,h.tape,h.output,h.size,λk hk=>h.block k hk (by simp)⟩
theorem zjn.then {M N:List Nat} {a b c:World} (h:zjn M a b) (k:zjn N b c) (hN:∀ n,n ∈ N->n ∈ M \/ a.heap.size <= n):zjn M a c :=
 ⟨k.os.trans h.os,k.tape.trans h.tape,k.output.trans h.output,Nat.le_trans h.size k.size,λi hi hm=>(k.block i (Nat.lt_of_lt_of_le hi h.size) (λhn=>by
  rcases hN i hn with h1 | h1
  ·exact hm h1
  ·omega)).trans (h.block i hi hm)⟩

structure Grow (M:List Nat) (w:World) (S S':Frz):Prop where
 le:S.le S'
 old:∀ b,b < w.heap.size->b ∉ M->S' b=S b

theorem Grow.refl (M:List Nat) (w:World) (S:Frz):Grow M w S S:=⟨S.le_refl,λ_ _ _=>rfl⟩
theorem Grow.then {M N:List Nat} {a b:World} {A B C:Frz} (h:Grow M a A B) (k:Grow N b B C) (hs:a.heap.size <= b.heap.size) (hN:∀ n,n ∈ N->n ∈ M \/ a.heap.size <= n):Grow M a A C :=
 ⟨Frz.le_trans h.le k.le,λi hi hm=>(k.old i (Nat.lt_of_lt_of_le hi hs) (λhn=>by
  rcases hN i hn with h1 | h1
  ·exact hm h1
  ·omega)).trans (h.old i hi hm)⟩

structure Ctx where
 P:Program
 n:Nat
 w0:World
 S0:Frz
 M:List Nat
 /-- Blocks that nothing turns for a while. -/
 pin:List (Nat × Obj)

def zbP (H:List Ent):List Nat:=H.filterMap (·.k)

structure zmW (M:List Nat) (B:Nat) (H:List Ent) (S:Frz) (w:World):Prop where
 sat:∀ e ∈ H,e.sat S w
 nodup:(zbP H).Nodup
 own:∀ b ∈ zbP H,b ∈ M \/ B <= b

structure za6 (c:Ctx) (σ:St) (S:Frz) (a:Act) (w:World):Prop where
 size:a.tmps.size=c.n
 dfr:a.defers=[]
 sub:S.sub w
 keep:zjn c.M c.w0 w
 grow:Grow c.M c.w0 c.S0 S
 env:∀ i R,zcg σ.Γ i=some R->∃ v,a.tmps[i]?=some v/\R.p S v
 owns:zmW c.M c.w0.heap.size σ.H S w
 pins:∀ x ∈ c.pin,w.heap[x.1]?=some x.2/\S x.1=none/\x.1 ∉ zbP σ.H/\(x.1 ∈ c.M \/ c.w0.heap.size <= x.1)

def Wp (c:Ctx) (code:Code) (σ:St) (Q:Exit->Act->World->Prop):Prop :=
 ∀ S a w,za6 c σ S a w->code.wp c.P Q a w

def Fin (c:Ctx) (σ:St) (Q:Exit->Act->World->Prop):Prop:=∀ S a w,za6 c σ S a w->Q .normal a w
def Exi (c:Ctx) (id:Nat) (σ:St) (Q:Exit->Act->World->Prop):Prop:=∀ S a w,za6 c σ S a w->Q (.exit id) a w
def Ret (c:Ctx) (σ:St) (Q:Exit->Act->World->Prop):Prop:=∀ S a w,za6 c σ S a w->Q .ret a w

def nxt (c:Ctx) (code:Code) (Q:Exit->Act->World->Prop):Exit->Act->World->Prop:=Exit.then (λa w=>code.wp c.P Q a w) Q

section control
variable {c:Ctx} {σ:St} {Q:Exit->Act->World->Prop}

theorem zeT {x y:Code} (h:Wp c x σ (nxt c y Q)):Wp c (.seq x y) σ Q:=λS a w m=>wp_seq (h S a w m)
theorem zm5 (h:Fin c σ Q):Wp c .skip σ Q:=λS a w m=>wp_skip (h S a w m)
theorem zwc {id:Nat} (h:Exi c id σ Q):Wp c (.exit id) σ Q:=λS a w m=>wp_exit (h S a w m)
theorem znZ (h:Ret c σ Q):Wp c .ret σ Q:=λS a w m=>wp_ret (h S a w m)
theorem zej {id:Nat} {x:Code} (h:Wp c x σ (Exit.inBlock id Q)):Wp c (.block id x) σ Q:=λS a w m=>wp_block (h S a w m)

theorem zc7 {y:Code} (h:Wp c y σ Q):Fin c σ (nxt c y Q):=λS a w m=>h S a w m
theorem zgB {id:Nat} (h:Fin c σ Q):Fin c σ (Exit.inBlock id Q):=λS a w m=>h S a w m
theorem ztd {id:Nat} {y:Code} (h:Exi c id σ Q):Exi c id σ (nxt c y Q):=λS a w m=>h S a w m
theorem zeR {id:Nat} (h:Fin c σ Q):Exi c id σ (Exit.inBlock id Q):=λS a w m=>by
 show (if id=id then Q .normal a w else Q (.exit id) a w)
 rw [if_pos rfl];exact h S a w m
theorem zve {id id':Nat} (hne:Nat.beq id id'=false) (h:Exi c id σ Q):Exi c id σ (Exit.inBlock id' Q):=λS a w m=>by
 show (if id=id' then Q .normal a w else Q (.exit id) a w)
 rw [if_neg (by intro e;subst e;simp at hne)];exact h S a w m
theorem zhD {y:Code} (h:Ret c σ Q):Ret c σ (nxt c y Q):=λS a w m=>h S a w m
theorem zeW {id:Nat} (h:Ret c σ Q):Ret c σ (Exit.inBlock id Q):=λS a w m=>h S a w m

end control

def Value.isAgg':Value->Bool
 | .agg _=>true
 | _=>false

class Rep (α:Type) where
 n:Nat
 agg:Bool
 rd:Frz->List Value->α->Prop
 len:∀ {S:Frz} {cs:List Value} {x:α},rd S cs x->cs.length=n
 mono:∀ {S S':Frz} {cs:List Value} {x:α},S.le S'->rd S cs x->rd S' cs x
 cell:∀ {S:Frz} {cs:List Value} {x:α},rd S cs x->∀ v ∈ cs,v.oneCell'=true
 one:agg=false->n=1

def isv {α:Type} [Rep α] (x:α):VP where
 p:=λS v=>Value.isAgg' v=Rep.agg α/\Rep.rd S v.cells.toList x
 mono:=λh k=>⟨k.1,Rep.mono h k.2⟩

theorem zeV {α:Type} [Rep α] {x:α} {S:Frz} {v:Value} (h:(isv x).p S v) (ha:Rep.agg α=false):v.oneCell'=true/\Rep.rd S [v] x:=by
 obtain ⟨h1,h2⟩:=h
 rw [ha] at h1
 have hc:=Rep.cell h2
 cases v <;> simp [Value.isAgg',Value.cells,Value.oneCell'] at *
 all_goals first | exact h2 | exact hc

theorem znv {α:Type} [Rep α] {x:α} {S:Frz} {v:Value} (h:(isv x).p S v) (ha:Rep.agg α=true):∃ cs,v=.agg cs/\Rep.rd S cs.toList x:=by
 obtain ⟨h1,h2⟩:=h
 rw [ha] at h1
 cases v <;> simp [Value.isAgg',Value.cells] at *
 exact h2

theorem ze8 {α:Type} [Rep α] {x:α} {S:Frz} {v:Value} (ha:Rep.agg α=false) (h:Rep.rd S [v] x):(isv x).p S v:=by
 have hc:=Rep.cell h v (by simp)
 refine ⟨?_,?_⟩
 ·rw [ha];cases v <;> simp [Value.isAgg',Value.oneCell'] at *
 ·cases v <;> simp [Value.cells,Value.oneCell'] at * <;> exact h

theorem ziC {α:Type} [Rep α] {x:α} {S:Frz} {cs:Array Value} (ha:Rep.agg α=true) (h:Rep.rd S cs.toList x):(isv x).p S (.agg cs) :=
 ⟨by rw [ha];rfl,h⟩

def zc3 (x:Int):Prop:=-9223372036854775808 <= x/\x <= 9223372036854775807
def zfr:Nat:=281474976710656
def zhG:Nat:=4611686018427387904

instance:Rep Int where
 n:=1
 agg:=false
 rd:=λ_ cs x=>cs=[.int .i64 x]/\zc3 x
 len:=λh=>by rw [h.1];rfl
 mono:=λ_ h=>h
 cell:=λh v hv=>by rw [h.1] at hv;simp at hv;subst hv;rfl
 one:=λ_=>rfl

instance:Rep Bool where
 n:=1
 agg:=false
 rd:=λ_ cs x=>cs=[.bool x]
 len:=λh=>by rw [h];rfl
 mono:=λ_ h=>h
 cell:=λh v hv=>by rw [h] at hv;simp at hv;subst hv;rfl
 one:=λ_=>rfl

instance:Rep UInt8 where
 n:=1
 agg:=false
 rd:=λ_ cs x=>cs=[.int .u8 (x.toNat:Int)]
 len:=λh=>by rw [h];rfl
 mono:=λ_ h=>h
 cell:=λh v hv=>by rw [h] at hv;simp at hv;subst hv;rfl
 one:=λ_=>rfl

instance:Rep UInt64 where
 n:=1
 agg:=false
 rd:=λ_ cs x=>cs=[.int .u64 (x.toNat:Int)]
 len:=λh=>by rw [h];rfl
 mono:=λ_ h=>h
 cell:=λh v hv=>by rw [h] at hv;simp at hv;subst hv;rfl
 one:=λ_=>rfl

structure Str where
 b:List UInt8
deriving DecidableEq
def Str.ba (s:Str):ByteArray:=⟨s.b.toArray⟩
theorem Str.ba_size (s:Str):s.ba.size=s.b.length:=by simp [Str.ba,ByteArray.size]
theorem Str.ba_of (s:ByteArray):(Str.mk s.data.toList).ba=s:=by obtain ⟨a⟩:=s;simp [Str.ba]
theorem Str.ba_inj {s t:Str} (h:s.ba=t.ba):s=t:=by
 obtain ⟨s⟩:=s;obtain ⟨t⟩:=t
 simp [Str.ba] at h;rw [h]

instance:Rep Str where
 n:=1
 agg:=false
 rd:=λ_ cs x=>cs=[.string x.ba]/\x.b.length <= zhG
 len:=λh=>by rw [h.1];rfl
 mono:=λ_ h=>h
 cell:=λh v hv=>by rw [h.1] at hv;simp at hv;subst hv;rfl
 one:=λ_=>rfl

def rdL {α:Type} (r:List Value->α->Prop):List α->List Value->Prop
 | [],cs=>cs=[]
 | x :: l,cs=>∃ c1 c2,cs=c1 ++ c2/\r c1 x/\rdL r l c2

section lists
variable {α:Type} {r r':List Value->α->Prop}

theorem zgc (h:∀ cs x,r cs x->r' cs x):∀ {l:List α} {cs:List Value},rdL r l cs->rdL r' l cs
 | [],_,k=>k
 | _ :: _,_,⟨c1,c2,e,k1,k2⟩=>⟨c1,c2,e,h _ _ k1,zgc h k2⟩

theorem zte {n:Nat} (h:∀ cs x,r cs x->cs.length=n):∀ {l:List α} {cs:List Value},rdL r l cs->cs.length=l.length * n
 | [],_,k=>by cases k;simp
 | _ :: l,_,⟨c1,c2,e,k1,k2⟩=>by
  subst e
  rw [zLa,h _ _ k1,zte h k2,zLc,Nat.add_mul,Nat.one_mul,Nat.add_comm]

theorem zjK (h:∀ cs x,r cs x->∀ v ∈ cs,v.oneCell'=true):∀ {l:List α} {cs:List Value},rdL r l cs->∀ v ∈ cs,v.oneCell'=true
 | [],_,k=>by cases k;simp
 | _ :: l,_,⟨c1,c2,e,k1,k2⟩=>by
  subst e
  intro v hv
  rcases List.mem_append.1 hv with hv | hv
  ·exact h _ _ k1 v hv
  ·exact zjK h k2 v hv

theorem zgp:∀ {l m:List α} {cs ds:List Value},rdL r l cs->rdL r m ds->rdL r (l ++ m) (cs ++ ds)
 | [],_,_,_,k,k'=>by cases k;exact k'
 | _ :: l,_,_,_,⟨c1,c2,e,k1,k2⟩,k'=>by
  subst e
  exact ⟨c1,c2 ++ _,by rw [zLA],k1,zgp k2 k'⟩

theorem znz {n:Nat} (hn:∀ cs x,r cs x->cs.length=n):∀ {l:List α} {cs:List Value} {i:Nat} {x:α},rdL r l cs->l[i]?=some x->r ((cs.drop (i * n)).take n) x
 | [],_,_,_,_,hi=>by simp at hi
 | y :: l,_,0,x,⟨c1,c2,e,k1,k2⟩,hi=>by
  simp at hi;subst hi;subst e
  have:=hn _ _ k1
  simp [<- this,k1]
 | y :: l,_,i + 1,x,⟨c1,c2,e,k1,k2⟩,hi=>by
  subst e
  have h1:=hn _ _ k1
  have:List.drop ((i + 1) * n) (c1 ++ c2)=List.drop (i * n) c2:=by
   rw [Nat.add_mul,Nat.one_mul,Nat.add_comm,<- List.drop_drop,<- h1,List.drop_left]
  rw [this]
  exact znz hn k2 (by simpa using hi)

theorem zrj {n:Nat} (hn:∀ cs x,r cs x->cs.length=n):∀ {l:List α} {cs:List Value} (i:Nat),rdL r l cs->rdL r (l.drop i) (cs.drop (i * n))
 | l,cs,0,k=>by simpa using k
 | [],cs,i + 1,k=>by cases k;simp [rdL]
 | y :: l,_,i + 1,⟨c1,c2,e,k1,k2⟩=>by
  subst e
  have h1:=hn _ _ k1
  have:List.drop ((i + 1) * n) (c1 ++ c2)=List.drop (i * n) c2:=by
   rw [Nat.add_mul,Nat.one_mul,Nat.add_comm,<- List.drop_drop,<- h1,List.drop_left]
  rw [this]
  exact zrj hn i k2

theorem ziy {n:Nat} (hn:∀ cs x,r cs x->cs.length=n):∀ {l:List α} {cs:List Value} (i:Nat),rdL r l cs->rdL r (l.take i) (cs.take (i * n))
 | l,cs,0,_=>by simp [rdL]
 | [],cs,i + 1,k=>by cases k;simp [rdL]
 | y :: l,_,i + 1,⟨c1,c2,e,k1,k2⟩=>by
  subst e
  have h1:=hn _ _ k1
  have:List.take ((i + 1) * n) (c1 ++ c2)=c1 ++ List.take (i * n) c2:=by
   rw [Nat.add_mul,Nat.one_mul,Nat.add_comm,List.take_append,h1]
   rw [zTl (by omega)]
   congr 2
   omega
  rw [this]
  exact ⟨c1,_,rfl,k1,ziy hn i k2⟩
end lists

def zsS {α:Type} (n:Nat) (r:Frz->List Value->α->Prop) (S:Frz) (v:Value) (l:List α):Prop :=
 ∃ p cap,v=.slice p l.length cap/\l.length <= cap/\l.length <= zfr/\(l=[] \/ ∃ a cs,p=some a/\S.has a cs/\cs.length=l.length * n/\rdL (r S) l cs)

instance {α:Type} [Rep α]:Rep (List α) where
 n:=1
 agg:=false
 rd:=λS cs l=>∃ v,cs=[v]/\zsS (Rep.n α) Rep.rd S v l
 len:=λ⟨v,e,_⟩=>by rw [e];rfl
 mono:=λh ⟨v,e,p,cap,k1,k2,k3,k4⟩=>⟨v,e,p,cap,k1,k2,k3,k4.imp id λ⟨a,cs,j1,j2,j3,j4⟩=>⟨a,cs,j1,Frz.has_mono h j2,j3,zgc (λ_ _=>Rep.mono h) j4⟩⟩
 cell:=λ⟨v,e,p,cap,k1,_⟩ u hu=>by rw [e] at hu;simp at hu;subst hu;subst k1;rfl
 one:=λ_=>rfl

theorem zah {x:Int} {S:Frz} {v:Value}:(isv x).p S v ↔ v=.int .i64 x/\zc3 x:=by
 constructor
 ·intro h
  have:=(zeV h rfl).2
  simpa [Rep.rd] using this
 ·rintro ⟨rfl,h⟩;exact ⟨rfl,rfl,h⟩
theorem zbO {x:Bool} {S:Frz} {v:Value}:(isv x).p S v ↔ v=.bool x:=by
 constructor
 ·intro h
  have:=(zeV h rfl).2
  simpa [Rep.rd] using this
 ·rintro rfl;exact ⟨rfl,rfl⟩
theorem zbS {x:UInt8} {S:Frz} {v:Value}:(isv x).p S v ↔ v=.int .u8 (x.toNat:Int):=by
 constructor
 ·intro h
  have:=(zeV h rfl).2
  simpa [Rep.rd] using this
 ·rintro rfl;exact ⟨rfl,rfl⟩
theorem zaW {x:UInt64} {S:Frz} {v:Value}:(isv x).p S v ↔ v=.int .u64 (x.toNat:Int):=by
 constructor
 ·intro h
  have:=(zeV h rfl).2
  simpa [Rep.rd] using this
 ·rintro rfl;exact ⟨rfl,rfl⟩
theorem zdv {x:Str} {S:Frz} {v:Value}:(isv x).p S v ↔ v=.string x.ba/\x.b.length <= zhG:=by
 constructor
 ·intro h
  have:=(zeV h rfl).2
  simpa [Rep.rd] using this
 ·rintro ⟨rfl,h⟩;exact ⟨rfl,rfl,h⟩
theorem zcs {α:Type} [Rep α] {l:List α} {S:Frz} {v:Value}:(isv l).p S v ↔ zsS (Rep.n α) Rep.rd S v l:=by
 constructor
 ·intro h
  obtain ⟨u,e,h⟩:=(zeV h rfl).2
  simp at e;subst e;exact h
 ·intro h
  exact ze8 rfl ⟨v,rfl,h⟩

theorem za6.put {c:Ctx} {σ:St} {S:Frz} {a:Act} {w:World} (m:za6 c σ S a w) {d:Nat} (hd:Nat.blt d c.n=true) {R:VP} {v:Value} (hv:R.p S v) :
    za6 c ⟨(d,R) :: σ.Γ,σ.H⟩ S (a.put (some d) v) w:=by
  have hd':d < a.tmps.size:=by rw [m.size];exact (by simpa using hd)
  refine ⟨by simp [Act.put,m.size],m.dfr,m.sub,m.keep,m.grow,λi R' hi=>?_,m.owns,m.pins⟩
  unfold zcg at hi
  cases hk:Nat.beq d i with
  | true =>
    rw [hk] at hi
    have e:d=i:=Nat.eq_of_beq_eq_true hk
    subst e
    cases hi
    exact ⟨v,by simp [Act.put,hd'],hv⟩
  | false =>
    rw [hk] at hi
    have e:d ≠ i:=Nat.ne_of_beq_eq_false hk
    obtain ⟨u,hu,hr⟩:=m.env i R' hi
    exact ⟨u,by simp only [Act.put];rw [Array.getElem?_setIfInBounds_ne e];exact hu,hr⟩

def zf1:VP where
 p:=λ_ _=>True
 mono:=λ_ h=>h
def zem:VP where
 p:=λ_ v=>v=undef
 mono:=λ_ h=>h
def zeI:VP where
 p:=λ_ v=>v=.slice Option.none 0 0
 mono:=λ_ h=>h
def VPs (S:Frz):List VP->List Value->Prop
 | [],[]=>True
 | R :: Rs,v :: vs=>R.p S v/\VPs S Rs vs
 | _,_=>False

theorem VPs.mono {S S':Frz} (h:S.le S'):∀ {Rs:List VP} {vs:List Value},VPs S Rs vs->VPs S' Rs vs
 | [],[],_=>trivial
 | R :: _,_ :: _,⟨k1,k2⟩=>⟨R.mono h k1,VPs.mono h k2⟩
theorem VPs.length {S:Frz}:∀ {Rs:List VP} {vs:List Value},VPs S Rs vs->vs.length=Rs.length
 | [],[],_=>rfl
 | _ :: _,_ :: _,⟨_,k2⟩=>by simp [VPs.length k2]
theorem VPs.append {S:Frz}:∀ {Rs Rs':List VP} {vs vs':List Value},VPs S Rs vs->VPs S Rs' vs'->VPs S (Rs ++ Rs') (vs ++ vs')
 | [],_,[],_,_,k=>k
 | _ :: _,_,_ :: _,_,⟨k1,k2⟩,k=>⟨k1,VPs.append k2 k⟩
theorem VPs.get {S:Frz}:∀ {Rs:List VP} {vs:List Value} {i:Nat} {R:VP},VPs S Rs vs->Rs[i]?=some R->∃ v,vs[i]?=some v/\R.p S v
 | [],[],_,_,_,h=>by simp at h
 | _ :: _,v :: _,0,_,⟨k1,_⟩,h=>by simp at h;subst h;exact ⟨v,rfl,k1⟩
 | _ :: _,_ :: _,i + 1,_,⟨_,k2⟩,h=>by
  obtain ⟨v,hv,hr⟩:=VPs.get (i:=i) k2 (by simpa using h)
  exact ⟨v,by simpa using hv,hr⟩

def zdV (f:FuncId) (caps:List VP):VP where
 p:=λS v=>∃ vs:List Value,v=.func (.func f) #[] vs.toArray/\VPs S caps vs
 mono:=λh ⟨vs,e,k⟩=>⟨vs,e,k.mono h⟩

def zt4:Int->Bool
 | .ofNat k=>Nat.ble k 9223372036854775807
 | .negSucc k=>Nat.ble k 9223372036854775807

theorem ztq {n:Int} (h:zt4 n=true):zc3 n:=by
 unfold zc3
 cases n with
 | ofNat k =>
  have:k <= 9223372036854775807:=Nat.le_of_ble_eq_true h
  simp only [Int.ofNat_eq_natCast]
  omega
 | negSucc k =>
  have:k <= 9223372036854775807:=Nat.le_of_ble_eq_true h
  omega

def aggv (cs:Array Value):VP where
 p:=λ_ v=>v=.agg cs
 mono:=λ_ h=>h
def zB (Γ:zM):Operand->Option VP
 | .tmp t=>zcg Γ t
 | .const (.int .i64 n)=>bif zt4 n then some (isv n) else none
 | .const (.int .u8 (.ofNat n))=>bif Nat.blt n 256 then some (isv (UInt8.ofNat n)) else none
 | .const (.int .u64 (.ofNat n))=>bif Nat.ble n 18446744073709551615 then some (isv (UInt64.ofNat n)) else none
 | .const (.bool b)=>some (isv b)
 | .const (.string s)=>bif Nat.ble s.size 4294967296 then some (isv (Str.mk s.data.toList)) else none
 | .const (.slice Option.none 0 0)=>some zeI
 | .const (.agg cs)=>some (aggv cs)
 | .func f=>some (zdV f [])
 | _=>none

theorem zb {c:Ctx} {σ:St} {S:Frz} {a:Act} {w:World} (m:za6 c σ S a w) {x:Operand} {R:VP} (h:zB σ.Γ x=some R):R.p S (a.eval x):=by
 unfold zB at h
 split at h
 ·obtain ⟨v,hv,hr⟩:=m.env _ _ h
  show R.p S (a.tmps.getD _ undef)
  rw [Array.getD_eq_getD_getElem?,hv]
  exact hr
 ·cases hb:zt4 _ with
  | false=>rw [hb] at h;cases h
  | true=>rw [hb] at h;cases h;exact zah.2 ⟨rfl,ztq hb⟩
 ·rename_i n
  cases hb:Nat.blt n 256 with
  | false=>rw [hb] at h;cases h
  | true =>
   rw [hb] at h;cases h
   have:n < 256:=(by simpa using hb)
   refine zbS.2 ?_
   show Value.int .u8 (Int.ofNat n)=_
   rw [UInt8.toNat_ofNat',Nat.mod_eq_of_lt this];rfl
 ·rename_i n
  cases hb:Nat.ble n 18446744073709551615 with
  | false=>rw [hb] at h;cases h
  | true =>
   rw [hb] at h;cases h
   have:n <= 18446744073709551615:=Nat.le_of_ble_eq_true hb
   refine zaW.2 ?_
   show Value.int .u64 (Int.ofNat n)=_
   rw [UInt64.toNat_ofNat',Nat.mod_eq_of_lt (by omega)];rfl
 ·cases h;exact zbO.2 rfl
 ·rename_i s
  cases hb:Nat.ble s.size 4294967296 with
  | false=>rw [hb] at h;cases h
  | true =>
   rw [hb] at h;cases h
   have:s.size <= 4294967296:=Nat.le_of_ble_eq_true hb
   refine zdv.2 ⟨by rw [Str.ba_of];rfl,?_⟩
   have h2:s.data.toList.length=s.size:=rfl
   show s.data.toList.length <= zhG
   unfold zhG;omega
 ·cases h;exact rfl
 ·cases h;exact rfl
 ·cases h;exact ⟨[],rfl,trivial⟩
 ·cases h

def OpT (c:Ctx) (o:Oper) (σ:St) (K:St->Prop):Prop :=
 ∀ S a w next Q,za6 c σ S a w->(∀ σ' S' a' w',S.le S'->K σ'->za6 c σ' S' a' w'->next a' w')->o.wp c.P a w next Q

def cls (c:Ctx) (S:Frz) (w:World):Prop:=S.sub w/\∀ x ∈ c.pin,w.heap[x.1]?=some x.2
theorem za6.cls {c:Ctx} {σ:St} {S:Frz} {a:Act} {w:World} (m:za6 c σ S a w):cls c S w:=⟨m.sub,λx hx=>(m.pins x hx).1⟩

def OpV (c:Ctx) (o:Oper) (σ:St) (R:VP):Prop :=
 ∀ S a w,za6 c σ S a w->∃ v,R.p S v/\∀ w',cls c S w'->(execOp a.eval o).run c.P w'=.ok (.value v) w'

theorem OpV.t {Γ:zM} {H:List Ent} {c:Ctx} {d:Nat} {op:Op} {ty:TypeId} {pos:String} {af:Array Edge} {g:Option (Nat × Bool)}  {R:VP} {K:St->Prop}
    (h:OpV c ⟨some d,op,ty,pos,af,g⟩ ⟨Γ,H⟩ R) (k:K ⟨(d,R) :: Γ,H⟩) (hd:Nat.blt d c.n=true:=by rfl):OpT c ⟨some d,op,ty,pos,af,g⟩ ⟨Γ,H⟩ K:=by
  intro S a w next Q m hn
  obtain ⟨v,hv,hr⟩:=h S a w m
  unfold Oper.wp
  rw [hr w m.cls]
  exact hn _ _ _ _ (Frz.le_refl _) k (m.put hd hv)

def Rl (c:Ctx) (ops:Array Oper) (l:List Oper) (σ:St) (Q:Exit->Act->World->Prop):Prop :=
 ∀ k,ops.toList.drop k=l->∀ S a w,za6 c σ S a w->wpOps c.P ops Q (List.range' k l.length) a w

section regions
variable {c:Ctx} {ops:Array Oper} {σ:St} {Q:Exit->Act->World->Prop}

theorem zdU {id:Nat} (h:Rl c ops ops.toList σ Q):Wp c (.region id ops false) σ Q:=λS a w m=>by
 refine wp_region ?_
 have:=h 0 rfl S a w m
 rwa [List.range_eq_range',<- Array.length_toList]

theorem zkU (h:Fin c σ Q):Rl c ops [] σ Q:=λ_ _ S a w m=>h S a w m

theorem zs2 {k:Nat} {o:Oper} {rest:List Oper} (h:ops.toList.drop k=o :: rest):ops[k]?=some o/\ops.toList.drop (k + 1)=rest:=by
 have h1:ops.toList[k]?=some o:=by
  have:=congrArg (·[0]?) h
  simpa [List.getElem?_drop] using this
 refine ⟨by simpa using h1,?_⟩
 rw [<- List.drop_drop,h]
 rfl

theorem zmo {o:Oper} {rest:List Oper} (hg:o.guard=none) (h:OpT c o σ λσ'=>Rl c ops rest σ' Q):Rl c ops (o :: rest) σ Q:=by
 intro k hk S a w m
 obtain ⟨h1,h2⟩:=zs2 hk
 show wpOps c.P ops Q (k :: List.range' (k + 1) rest.length) a w
 unfold wpOps
 simp only [h1]
 rw [if_pos (by unfold Region.wanted;rw [hg])]
 exact .inl (h S a w _ _ m λσ' S' a' w' _ hr m'=>hr (k + 1) h2 S' a' w' m')

theorem zhr {S:Frz} {a:Act} {w:World} (m:za6 c σ S a w) {j dj:Nat} {b:Bool} (hj:(ops[j]?).bind (·.dst)=some dj) (hl:zcg σ.Γ dj=some (isv b)) :
    yielded ops a.tmps j=some b:=by
  obtain ⟨v,hv,hr⟩:=m.env _ _ hl
  have e:=zbO.1 hr
  subst e
  unfold yielded
  rw [hj]
  simp [hv]

theorem zqh {o:Oper} {rest:List Oper} {j dj:Nat} {want b:Bool} (hg:o.guard=some (j,want)) (hj:(ops[j]?).bind (·.dst)=some dj) (hl:zcg σ.Γ dj=some (isv b)) (hb:b=want)
    (h:OpT c o σ λσ'=>Rl c ops rest σ' Q):Rl c ops (o :: rest) σ Q:=by
  intro k hk S a w m
  obtain ⟨h1,h2⟩:=zs2 hk
  show wpOps c.P ops Q (k :: List.range' (k + 1) rest.length) a w
  unfold wpOps
  simp only [h1]
  rw [if_pos (by unfold Region.wanted;rw [hg];simp only;rw [zhr m hj hl,hb];simp)]
  exact .inl (h S a w _ _ m λσ' S' a' w' _ hr m'=>hr (k + 1) h2 S' a' w' m')

theorem ztG {Γ:zM} {H:List Ent} {d:Nat} {op:Op} {ty:TypeId} {pos:String} {af:Array Edge} {rest:List Oper} {j dj:Nat} {want b:Bool} (hj:(ops[j]?).bind (·.dst)=some dj) (hl:zcg Γ dj=some (isv b)) (hb:b=!want)
    (h:Rl c ops rest ⟨(d,zem) :: Γ,H⟩ Q) (hd:Nat.blt d c.n=true:=by rfl):Rl c ops (⟨some d,op,ty,pos,af,some (j,want)⟩ :: rest) ⟨Γ,H⟩ Q:=by
  intro k hk S a w m
  obtain ⟨h1,h2⟩:=zs2 hk
  show wpOps c.P ops Q (k :: List.range' (k + 1) rest.length) a w
  unfold wpOps
  simp only [h1]
  rw [if_neg (by unfold Region.wanted;simp only;rw [zhr m hj hl,hb];cases want <;> simp)]
  exact h (k + 1) h2 S _ w (m.put hd rfl)

theorem zjd {σ:St} {S:Frz} {a:Act} {w:World} (m:za6 c σ S a w) {j dj:Nat} (hj:(ops[j]?).bind (·.dst)=some dj) (hl:zcg σ.Γ dj=some zem):yielded ops a.tmps j=none:=by
 obtain ⟨v,hv,hr⟩:=m.env _ _ hl
 have e:v=undef:=hr
 subst e
 unfold yielded
 rw [hj]
 simp [hv,undef]

theorem zv4 {Γ:zM} {H:List Ent} {d:Nat} {op:Op} {ty:TypeId} {pos:String} {af:Array Edge} {rest:List Oper} {j dj:Nat} {want:Bool} (hj:(ops[j]?).bind (·.dst)=some dj) (hl:zcg Γ dj=some zem)
    (h:Rl c ops rest ⟨(d,zem) :: Γ,H⟩ Q) (hd:Nat.blt d c.n=true:=by rfl):Rl c ops (⟨some d,op,ty,pos,af,some (j,want)⟩ :: rest) ⟨Γ,H⟩ Q:=by
  intro k hk S a w m
  obtain ⟨h1,h2⟩:=zs2 hk
  show wpOps c.P ops Q (k :: List.range' (k + 1) rest.length) a w
  unfold wpOps
  simp only [h1]
  rw [if_neg (by unfold Region.wanted;simp only;rw [zjd m hj hl];simp)]
  exact h (k + 1) h2 S _ w (m.put hd rfl)

theorem zwy {x:Operand} {t e:Code} {b:Bool} (hx:zB σ.Γ x=some (isv b)) (ht:b=true->Wp c t σ Q) (he:b=false->Wp c e σ Q):Wp c (.cond x t e) σ Q:=λS a w m=>by
 have hb:=zbO.1 (zb m hx)
 exact wp_cond_split hb (λh=>ht h S a w m) (λh=>he h S a w m)

def zM.imp (Γ Γ':zM):Prop:=∀ i R',zcg Γ' i=some R'->∃ R,zcg Γ i=some R/\∀ S v,R.p S v->R'.p S v

theorem zsf {Γ Γ':zM} {i:Nat} {R R':VP} (h:zcg Γ i=some R) (hr:∀ S v,R.p S v->R'.p S v) (k:zM.imp Γ Γ'):zM.imp Γ ((i,R') :: Γ'):=λj R1 h1=>by
 unfold zcg at h1
 cases hk:Nat.beq i j with
 | true =>
  rw [hk] at h1
  have e:i=j:=Nat.eq_of_beq_eq_true hk
  subst e
  cases h1
  exact ⟨R,h,hr⟩
 | false=>rw [hk] at h1;exact k j R1 h1
theorem zt1 {Γ:zM} {i:Nat} {R R':VP} (h:zcg Γ i=some R) (hr:∀ S v,R.p S v->R'.p S v):zM.imp Γ ((i,R') :: Γ) :=
 zsf h hr λ_ R1 h1=>⟨R1,h1,λ_ _ h=>h⟩

theorem za6.imp {Γ:zM} {S:Frz} {a:Act} {w:World} (m:za6 c σ S a w) (h:zM.imp σ.Γ Γ):za6 c ⟨Γ,σ.H⟩ S a w :=
 ⟨m.size,m.dfr,m.sub,m.keep,m.grow,λi R hi=>by
  obtain ⟨R0,h0,h1⟩:=h i R hi
  obtain ⟨v,hv,hr⟩:=m.env i R0 h0
  exact ⟨v,hv,h1 _ _ hr⟩,m.owns,m.pins⟩

end regions

theorem zk3 {x:Int} (h:-9223372036854775808 <= x) (k:x <= 9223372036854775807):zc3 x:=⟨h,k⟩
section ops
variable {c:Ctx} {d:Option Nat} {ty:TypeId} {pos:String} {af:Array Edge} {g:Option (Nat × Bool)} {σ:St}

theorem zc0 {x:Operand} {R:VP} (hx:zB σ.Γ x=some R):OpV c ⟨d,.move x,ty,pos,af,g⟩ σ R:=λS a w m =>
 ⟨a.eval x,zb m hx,λw' _=>by simp [execOp]⟩
theorem zjD {x:Operand} {R:VP} (hx:zB σ.Γ x=some R):OpV c ⟨d,.assign x,ty,pos,af,g⟩ σ R:=λS a w m =>
 ⟨a.eval x,zb m hx,λw' _=>by simp [execOp]⟩

theorem zb8 {x y z:Operand} {b:Bool} {R:VP} (hx:zB σ.Γ x=some (isv b)) (hb:b=true) (hy:zB σ.Γ y=some R):OpV c ⟨d,.pick x y z,ty,pos,af,g⟩ σ R:=λS a w m=>by
 have h1:=zbO.1 (zb m hx)
 exact ⟨a.eval y,zb m hy,λw' _=>by simp [execOp,h1,asBool,hb]⟩
theorem zcb {x y z:Operand} {b:Bool} {R:VP} (hx:zB σ.Γ x=some (isv b)) (hb:b=false) (hz:zB σ.Γ z=some R):OpV c ⟨d,.pick x y z,ty,pos,af,g⟩ σ R:=λS a w m=>by
 have h1:=zbO.1 (zb m hx)
 exact ⟨a.eval z,zb m hz,λw' _=>by simp [execOp,h1,asBool,hb]⟩

theorem zvI {x:Operand} {t:TypeId} {b:Bool} (hx:zB σ.Γ x=some (isv b)):OpV c ⟨d,.unOp .not t x,ty,pos,af,g⟩ σ (isv (!b)):=λS a w m=>by
 have h1:=zbO.1 (zb m hx)
 exact ⟨.bool (!b),zbO.2 rfl,λw' _=>by simp [execOp,Op.unary,h1]⟩

theorem zfz {n:Int} (h:zc3 n):IntKind.i64.wrap n=n:=IntWalk.i64_in n h

section int
variable {x y:Operand} {t u:TypeId} {p q:Int}
theorem zpl (hx:zB σ.Γ x=some (isv p)) (hy:zB σ.Γ y=some (isv q)) (hb:zc3 (p + q)):OpV c ⟨d,.binOp .add t x y u,ty,pos,af,g⟩ σ (isv (p + q)):=λS a w m=>by
 obtain ⟨h1,_⟩:=zah.1 (zb m hx)
 obtain ⟨h2,_⟩:=zah.1 (zb m hy)
 exact ⟨.int .i64 (p + q),zah.2 ⟨rfl,hb⟩,λw' _=>by simp [execOp,binOp,eqGuard,h1,h2,Op.intArith,zfz hb]⟩
theorem zpH (hx:zB σ.Γ x=some (isv p)) (hy:zB σ.Γ y=some (isv q)) (hb:zc3 (p - q)):OpV c ⟨d,.binOp .sub t x y u,ty,pos,af,g⟩ σ (isv (p - q)):=λS a w m=>by
 obtain ⟨h1,_⟩:=zah.1 (zb m hx)
 obtain ⟨h2,_⟩:=zah.1 (zb m hy)
 exact ⟨.int .i64 (p - q),zah.2 ⟨rfl,hb⟩,λw' _=>by simp [execOp,binOp,eqGuard,h1,h2,Op.intArith,zfz hb]⟩
theorem zzZ (hx:zB σ.Γ x=some (isv p)) (hy:zB σ.Γ y=some (isv q)) (hb:zc3 (p * q)):OpV c ⟨d,.binOp .mul t x y u,ty,pos,af,g⟩ σ (isv (p * q)):=λS a w m=>by
 obtain ⟨h1,_⟩:=zah.1 (zb m hx)
 obtain ⟨h2,_⟩:=zah.1 (zb m hy)
 exact ⟨.int .i64 (p * q),zah.2 ⟨rfl,hb⟩,λw' _=>by simp [execOp,binOp,eqGuard,h1,h2,Op.intArith,zfz hb]⟩
theorem zmh (hx:zB σ.Γ x=some (isv p)) (hy:zB σ.Γ y=some (isv q)):OpV c ⟨d,.binOp .lss t x y u,ty,pos,af,g⟩ σ (isv (decide (p < q))):=λS a w m=>by
 obtain ⟨h1,_⟩:=zah.1 (zb m hx)
 obtain ⟨h2,_⟩:=zah.1 (zb m hy)
 exact ⟨.bool (decide (p < q)),zbO.2 rfl,λw' _=>by simp [execOp,binOp,eqGuard,h1,h2,Op.intCmp]⟩
theorem zz8 (hx:zB σ.Γ x=some (isv p)) (hy:zB σ.Γ y=some (isv q)):OpV c ⟨d,.binOp .leq t x y u,ty,pos,af,g⟩ σ (isv (decide (p <= q))):=λS a w m=>by
 obtain ⟨h1,_⟩:=zah.1 (zb m hx)
 obtain ⟨h2,_⟩:=zah.1 (zb m hy)
 exact ⟨.bool (decide (p <= q)),zbO.2 rfl,λw' _=>by simp [execOp,binOp,eqGuard,h1,h2,Op.intCmp]⟩
theorem zl6 (hx:zB σ.Γ x=some (isv p)) (hy:zB σ.Γ y=some (isv q)):OpV c ⟨d,.binOp .gtr t x y u,ty,pos,af,g⟩ σ (isv (decide (q < p))):=λS a w m=>by
 obtain ⟨h1,_⟩:=zah.1 (zb m hx)
 obtain ⟨h2,_⟩:=zah.1 (zb m hy)
 exact ⟨.bool (decide (q < p)),zbO.2 rfl,λw' _=>by simp [execOp,binOp,eqGuard,h1,h2,Op.intCmp]⟩
theorem zyp (hx:zB σ.Γ x=some (isv p)) (hy:zB σ.Γ y=some (isv q)):OpV c ⟨d,.binOp .geq t x y u,ty,pos,af,g⟩ σ (isv (decide (q <= p))):=λS a w m=>by
 obtain ⟨h1,_⟩:=zah.1 (zb m hx)
 obtain ⟨h2,_⟩:=zah.1 (zb m hy)
 exact ⟨.bool (decide (q <= p)),zbO.2 rfl,λw' _=>by simp [execOp,binOp,eqGuard,h1,h2,Op.intCmp]⟩
theorem zou (hx:zB σ.Γ x=some (isv p)) (hy:zB σ.Γ y=some (isv q)):OpV c ⟨d,.binOp .eql t x y u,ty,pos,af,g⟩ σ (isv (decide (p=q))):=λS a w m=>by
 obtain ⟨h1,_⟩:=zah.1 (zb m hx)
 obtain ⟨h2,_⟩:=zah.1 (zb m hy)
 exact ⟨.bool (decide (p=q)),zbO.2 rfl,λw' _=>by simp [execOp,binOp,eqGuard,h1,h2,Op.intCmp];rfl⟩
theorem zkK (hx:zB σ.Γ x=some (isv p)) (hy:zB σ.Γ y=some (isv q)):OpV c ⟨d,.binOp .neq t x y u,ty,pos,af,g⟩ σ (isv (!decide (p=q))):=λS a w m=>by
 obtain ⟨h1,_⟩:=zah.1 (zb m hx)
 obtain ⟨h2,_⟩:=zah.1 (zb m hy)
 exact ⟨.bool (!decide (p=q)),zbO.2 rfl,λw' _=>by simp [execOp,binOp,eqGuard,h1,h2,Op.intCmp];rfl⟩
end int

end ops
inductive zcw (e:Ent):List Ent->List Ent->Prop
 | here {H:List Ent}:zcw e (e :: H) H
 | there {x:Ent} {H H':List Ent}:zcw e H H'->zcw e (x :: H) (x :: H')
inductive zbq:List Ent->List Ent->List Ent->Prop
 | nil {H:List Ent}:zbq H [] H
 | cons {e:Ent} {H H1 Hc Hr:List Ent}:zcw e H H1->zbq H1 Hc Hr->zbq H (e :: Hc) Hr

theorem zcw.perm {e:Ent} {H H':List Ent} (h:zcw e H H'):H.Perm (e :: H'):=by
 induction h with
 | here=>exact List.Perm.refl _
 | there _ ih=>exact (List.Perm.cons _ ih).trans (List.Perm.swap _ _ _)
theorem zbq.perm {H Hc Hr:List Ent} (h:zbq H Hc Hr):H.Perm (Hc ++ Hr):=by
 induction h with
 | nil=>exact List.Perm.refl _
 | cons p _ ih=>exact p.perm.trans (List.Perm.cons _ ih)

theorem zgC (H H':List Ent):zbP (H ++ H')=zbP H ++ zbP H':=List.filterMap_append ..
theorem zjI {H H':List Ent} (h:H.Perm H'):(zbP H).Perm (zbP H'):=h.filterMap _
theorem zrh {H:List Ent} {b:Nat}:b ∈ zbP H ↔ ∃ e ∈ H,e.k=some b:=by simp [zbP,List.mem_filterMap]

structure zkC (N:List Nat) (S S':Frz) (w w':World):Prop where
 keep:zjn N w w'
 grow:Grow N w S S'
 sub:S'.sub w'

theorem Ent.sat_lt {e:Ent} {S:Frz} {w:World} {b:Nat} (h:e.sat S w) (hk:e.k=some b):b < w.heap.size:=by
 unfold Ent.sat at h
 rw [hk] at h
 obtain ⟨o,ho,_⟩:=h
 exact (Array.getElem?_eq_some_iff.1 ho).1

theorem Ent.sat_step {e:Ent} {N:List Nat} {S S':Frz} {w w':World} (h:e.sat S w) (hs:zkC N S S' w w') (hn:∀ b,e.k=some b->b ∉ N):e.sat S' w':=by
 have hlt:=λb hk=>Ent.sat_lt (b:=b) h hk
 unfold Ent.sat at *
 cases hk:e.k with
 | none=>simp only
 | some b =>
  rw [hk] at h
  obtain ⟨o,ho,hp⟩:=h
  have hb:=hlt b hk
  exact ⟨o,by rw [hs.keep.block b hb (hn b hk)];exact ho,e.φ.mono hs.grow.le (hs.grow.old b hb (hn b hk)) hp⟩

theorem za6.step {c:Ctx} {σ:St} {S S':Frz} {a:Act} {w w':World} (m:za6 c σ S a w) {Hc Hr H':List Ent} (ht:zbq σ.H Hc Hr)
    (hs:zkC (zbP Hc) S S' w w') (ho:zmW (zbP Hc) w.heap.size H' S' w'):za6 c ⟨σ.Γ,H' ++ Hr⟩ S' a w':=by
  have hp:=ht.perm
  have hkp:=zjI hp
  rw [zgC] at hkp
  have hnd:=hkp.nodup_iff.1 m.owns.nodup
  have hN:∀ n,n ∈ zbP Hc->n ∈ c.M \/ c.w0.heap.size <= n:=λn hn=>m.owns.own n (hkp.mem_iff.2 (List.mem_append_left _ hn))
  have hdis:∀ b,b ∈ zbP Hr->b ∉ zbP Hc:=λb hb hc=>(List.nodup_append.1 hnd).2.2 b hc b hb rfl
  have hrlt:∀ b,b ∈ zbP Hr->b < w.heap.size:=λb hb=>by
    obtain ⟨e,he,hk⟩:=zrh.1 hb
    exact Ent.sat_lt (m.owns.sat e (hp.mem_iff.2 (List.mem_append_right _ he))) hk
  refine ⟨m.size,m.dfr,hs.sub,m.keep.then hs.keep hN,m.grow.then hs.grow m.keep.size hN,λi R hi=>?_,⟨λe he=>?_,?_,λb hb=>?_⟩,λx hx=>?_⟩
  · obtain ⟨v,hv,hr⟩:=m.env i R hi
    exact ⟨v,hv,R.mono hs.grow.le hr⟩
  · rcases List.mem_append.1 he with h1 | h1
    · exact ho.sat e h1
    · exact Ent.sat_step (m.owns.sat e (hp.mem_iff.2 (List.mem_append_right _ h1))) hs λb hk=>hdis b (zrh.2 ⟨e,h1,hk⟩)
  · rw [zgC]
    refine List.nodup_append.2 ⟨ho.nodup,(List.nodup_append.1 hnd).2.1,λx hx y hy hxy=>?_⟩
    subst hxy
    rcases ho.own x hx with h1 | h1
    · exact hdis x hy h1
    · have:=hrlt x hy;omega
  · rw [zgC] at hb
    rcases List.mem_append.1 hb with h1 | h1
    · rcases ho.own b h1 with h2 | h2
      · exact hN b h2
      · right;exact Nat.le_trans m.keep.size h2
    · exact m.owns.own b (hkp.mem_iff.2 (List.mem_append_right _ h1))
  · obtain ⟨h1,h2,h3,h4⟩:=m.pins x hx
    have hlt:x.1 < w.heap.size:=(Array.getElem?_eq_some_iff.1 h1).1
    have hnc:x.1 ∉ zbP Hc:=λh=>h3 (hkp.mem_iff.2 (List.mem_append_left _ h))
    refine ⟨by rw [hs.keep.block _ hlt hnc];exact h1,by rw [hs.grow.old _ hlt hnc];exact h2,λh=>?_,h4⟩
    rw [zgC] at h
    rcases List.mem_append.1 h with h | h
    · rcases ho.own _ h with h5 | h5
      · exact hnc h5
      · omega
    · exact h3 (hkp.mem_iff.2 (List.mem_append_right _ h))

theorem zgI {S:Frz} {w:World} (h:S.sub w):S w.heap.size=none:=by
 cases hs:S w.heap.size with
 | none=>rfl
 | some cs =>
  obtain ⟨c,T,fr,hh,_⟩:=h _ _ hs
  have:=(Array.getElem?_eq_some_iff.1 hh).1
  omega

theorem zpc (N:List Nat) (w:World) (o:Obj):zjn N w { w with heap:=w.heap.push o } :=
 ⟨rfl,rfl,rfl,by simp,λk hk _=>by simp [Array.getElem?_push];omega⟩
theorem zrv {S:Frz} {w:World} (h:S.sub w) (o:Obj):S.sub { w with heap:=w.heap.push o }:=λb cs hb=>by
 obtain ⟨c,T,fr,hh,hp⟩:=h b cs hb
 have hlt:=(Array.getElem?_eq_some_iff.1 hh).1
 exact ⟨c,T,fr,by simp only [Array.getElem?_push];rw [if_neg (by omega)];exact hh,hp⟩
theorem zig {S:Frz} {w:World} (h:S.sub w) (o:Obj):zkC [] S S w { w with heap:=w.heap.push o } :=
 ⟨zpc _ w o,Grow.refl _ _ _,zrv h o⟩

def Frz.put (S:Frz) (b:Nat) (cs:List Value):Frz:=λk=>if k=b then some cs else S k
theorem zrX {S:Frz} {w:World} (h:S.sub w) (cs:List Value):Grow [] w S (S.put w.heap.size cs) :=
 ⟨λb c hb=>by
  have hne:b ≠ w.heap.size:=by rintro rfl;rw [zgI h] at hb;cases hb
  exact ⟨c,by unfold Frz.put;rw [if_neg hne];exact hb,List.prefix_refl _⟩,λb hb _=>by unfold Frz.put;rw [if_neg (by omega)]⟩
theorem zje {S:Frz} {w:World} (h:S.sub w) (c:Array Value) (T:TypeId) (fr:Nat × Nat) (cs:List Value) (hp:cs <+: c.toList) :
    zkC [] S (S.put w.heap.size cs) w { w with heap:=w.heap.push (.cells c T fr) } :=
  ⟨zpc _ w _,zrX h cs,λb d hb=>by
    unfold Frz.put at hb
    split at hb
    · cases hb
      rename_i e;subst e
      exact ⟨c,T,fr,by simp,hp⟩
    · exact zrv h _ b d hb⟩

def zj {α:Type} [Rep α] (b:Nat) (x:α):Ent where
  k:=some b
  φ := { p:=λb S o=>S b=none/\∃ cs T,o=.cells cs T (0,0)/\Rep.rd S cs.toList x
         mono:=λh hb ⟨h1,cs,T,e,h2⟩=>⟨hb ▸ h1,cs,T,e,Rep.mono h h2⟩ }

theorem zff (M:List Nat) (B:Nat) (S:Frz) (w:World):zmW M B [] S w:=⟨λ_ h=>(by cases h),List.nodup_nil,λ_ h=>(by cases h)⟩
theorem zfh {M:List Nat} {B:Nat} {e:Ent} {S:Frz} {w:World} (hs:e.sat S w) (hb:∀ b,e.k=some b->b ∈ M \/ B <= b):zmW M B [e] S w:=by
 refine ⟨λx hx=>?_,?_,λb hk=>?_⟩
 ·simp at hx;subst hx;exact hs
 ·cases hk:e.k <;> simp [zbP,hk]
 ·cases hk':e.k with
  | none=>simp [zbP,hk'] at hk
  | some b'=>simp [zbP,hk'] at hk;subst hk;exact hb b hk'

/-! ### What the tables say of a type -/

def TyB (P:Program) (T:TypeId) (n:Nat) (agg:Bool):Bool :=
 ((P.info? T).map (·.size) == some n) && (match P.underlying T with | some (.struct _) | some (.array ..)=>agg | some _=>!agg | none=>false)

theorem TyB.size {P:Program} {T:TypeId} {n:Nat} {agg:Bool} (h:TyB P T n agg=true) (w:World):(sizeOf T).run P w=.ok n w:=by
 unfold TyB at h
 simp only [zBa,beq_iff_eq] at h
 cases hi:P.info? T with
 | none=>rw [hi] at h;simp at h
 | some i =>
  rw [hi] at h
  simp at h
  simp [sizeOf,typeInfo,hi,h.1]
theorem TyB.isAgg {P:Program} {T:TypeId} {n:Nat} {agg:Bool} (h:TyB P T n agg=true) (w:World):(isAgg T).run P w=.ok agg w:=by
 unfold TyB at h
 simp only [zBa,beq_iff_eq] at h
 cases hu:P.underlying T with
 | none=>rw [hu] at h;simp at h
 | some d =>
  rw [hu] at h
  have h2:=h.2
  cases d <;> simp at h2 <;> simp [Go.isAgg,underlying,hu,h2]

def ze2 {α:Type} [Rep α] (P:Program) (T:TypeId) (x:α):Prop:=∃ i z,P.info? T=some i/\i.zero=some z/\∀ S,(isv x).p S z
theorem ze2.of {α:Type} [Rep α] {P:Program} {T:TypeId} {x:α} {z:Value} (h:(P.info? T).bind (·.zero)=some z) (hz:∀ S,(isv x).p S z):ze2 P T x:=by
 cases hi:P.info? T with
 | none=>rw [hi] at h;cases h
 | some i=>rw [hi] at h;exact ⟨i,z,hi,h,hz⟩
theorem ze2.run {α:Type} [Rep α] {P:Program} {T:TypeId} {x:α} (h:ze2 P T x) (w:World):∃ z,(zeroValue T).run P w=.ok z w/\∀ S,(isv x).p S z:=by
 obtain ⟨i,z,hi,hz,hr⟩:=h
 exact ⟨z,by simp [zeroValue,typeInfo,hi,hz],hr⟩

structure Fld (α β:Type) [Rep α] [Rep β] where
 off:Nat
 get:α->β
 set:α->β->α
 fits:off + Rep.n β <= Rep.n α
 rget:∀ {S:Frz} {cs:List Value} {x:α},Rep.rd S cs x->Rep.rd S ((cs.drop off).take (Rep.n β)) (get x)
 rset:∀ {S:Frz} {cs ds:List Value} {x:α} {y:β},Rep.rd S cs x->Rep.rd S ds y->Rep.rd S (cs.take off ++ ds ++ cs.drop (off + Rep.n β)) (set x y)

@[reducible] def Fld.id (α:Type) [Rep α]:Fld α α where
 off:=0
 get:=λx=>x
 set:=λ_ y=>y
 fits:=by simp
 rget:=λh=>by have:=Rep.len h;rw [List.drop_zero,zTl (by omega)];exact h
 rset:=λh k=>by have:=Rep.len h;rw [List.take_zero,List.nil_append,Nat.zero_add,List.drop_of_length_le (by omega),List.append_nil];exact k

theorem zvN {α:Type} (l:List α) (a b n m:Nat) (h:b + m <= n):((((l.drop a).take n).drop b).take m)=(l.drop (a + b)).take m:=by
 rw [List.drop_take,List.drop_drop,List.take_take]
 congr 1
 omega

@[reducible] def Fld.comp {α β γ:Type} [Rep α] [Rep β] [Rep γ] (L:Fld α β) (M:Fld β γ):Fld α γ where
  off:=L.off + M.off
  get:=λx=>M.get (L.get x)
  set:=λx z=>L.set x (M.set (L.get x) z)
  fits:=by have:=L.fits;have:=M.fits;omega
  rget:=λh=>by
    have h1:=M.rget (L.rget h)
    rw [zvN _ _ _ _ _ M.fits] at h1
    exact h1
  rset := λ{S cs ds x z} h k=>by
    have hlen:=Rep.len h
    have hd:=Rep.len k
    have hL:=L.fits
    have hM:=M.fits
    have h1:=L.rset h (M.rset (L.rget h) k)
    have e:cs.take L.off ++ (((cs.drop L.off).take (Rep.n β)).take M.off ++ ds ++ ((cs.drop L.off).take (Rep.n β)).drop (M.off + Rep.n γ)) ++ cs.drop (L.off + Rep.n β)
        = cs.take (L.off + M.off) ++ ds ++ cs.drop (L.off + M.off + Rep.n γ):=by
      rw [List.take_take,Nat.min_eq_left (by omega)]
      have e1:cs.take (L.off + M.off)=cs.take L.off ++ (cs.drop L.off).take M.off:=List.take_add
      have e2:cs.drop (L.off + M.off + Rep.n γ)=((cs.drop L.off).take (Rep.n β)).drop (M.off + Rep.n γ) ++ cs.drop (L.off + Rep.n β):=by
        have e3:(cs.drop L.off).drop (M.off + Rep.n γ)=((cs.drop L.off).take (Rep.n β) ++ (cs.drop L.off).drop (Rep.n β)).drop (M.off + Rep.n γ):=by rw [List.take_append_drop]
        rw [List.drop_drop] at e3
        rw [Nat.add_assoc,e3,List.drop_append_of_le_length (by rw [zLt,zLd];omega),List.drop_drop]
      rw [e1,e2]
      simp only [zLA]
    rw [e] at h1
    exact h1

def zal {α β:Type} [Rep α] [Rep β] (b:Nat) (L:Fld α β):VP where
 p:=λ_ v=>v=.pointer (some ⟨b,L.off,none⟩)
 mono:=λ_ h=>h
def zbn {α:Type} [Rep α] (x:α):VP where
 p:=λS v=>∃ a cs,v=.pointer (some a)/\S.has a cs/\Rep.rd S cs x
 mono:=λh ⟨a,cs,e,h1,h2⟩=>⟨a,cs,e,Frz.has_mono h h1,Rep.mono h h2⟩

def zfw (P:Program) (T:TypeId) (f off n:Nat) (agg:Bool):Bool :=
 match P.underlying T with
 | some (.struct fs)=>match fs[f]? with
  | some fd=>fd.offset == off && n != 0 && TyB P fd.type n agg
  | none=>false
 | _=>false

theorem zfw.spec {P:Program} {T:TypeId} {f off n:Nat} {agg:Bool} (h:zfw P T f off n agg=true) :
    ∃ fs fd,P.underlying T=some (.struct fs)/\fs[f]?=some fd/\fd.offset=off/\n ≠ 0/\TyB P fd.type n agg=true:=by
  unfold zfw at h
  split at h
  · rename_i fs hu
    split at h
    · rename_i fd hf
      simp only [zBa,beq_iff_eq,bne_iff_ne] at h
      exact ⟨fs,fd,hu,hf,h.1.1,h.1.2,h.2⟩
    · cases h
  · cases h

theorem zc6 (b o n:Nat):(⟨b,o,none⟩:Addr).add n=⟨b,o + n,none⟩:=by unfold Addr.add;split <;> simp_all

section ops
variable {c:Ctx} {d:Option Nat} {ty:TypeId} {pos:String} {af:Array Edge} {g:Option (Nat × Bool)} {σ:St}

theorem zi4 {P:Program} {T:TypeId} {f off n:Nat} {agg:Bool} (h:zfw P T f off n agg=true) (a:Addr) (w:World) :
    (Instr.fieldAt T (.pointer (some a)) f).run P w=.ok (.pointer (some (a.add off))) w:=by
  obtain ⟨fs,fd,h1,h2,h3,h4,h5⟩:=zfw.spec h
  simp [Instr.fieldAt,underlying,h1,h2,Instr.sureAddr,fieldPlace,TyB.size h5,h4,h3]

theorem zra {α β γ:Type} [Rep α] [Rep β] [Rep γ] {b:Nat} {L:Fld α β} {x:Operand} {T f:Nat} (M:Fld β γ) (hf:zfw c.P T f M.off (Rep.n γ) (Rep.agg γ)=true)
    (hx:zB σ.Γ x=some (zal b L)):OpV c ⟨d,.fieldAddr T x f,ty,pos,af,g⟩ σ (zal b (L.comp M)):=λS a w m=>by
  have h1:a.eval x=.pointer (some ⟨b,L.off,none⟩):=zb m hx
  exact ⟨.pointer (some ⟨b,L.off + M.off,none⟩),rfl,λw' _=>by simp [execOp,h1,zi4 hf,zc6]⟩

theorem zqv {β γ:Type} [Rep β] [Rep γ] {y:β} {x:Operand} {T f:Nat} (M:Fld β γ) (hf:zfw c.P T f M.off (Rep.n γ) (Rep.agg γ)=true)
    (hx:zB σ.Γ x=some (zbn y)):OpV c ⟨d,.fieldAddr T x f,ty,pos,af,g⟩ σ (zbn (M.get y)):=λS a w m=>by
  obtain ⟨ad,cs,h1,h2,h3⟩:=zb m hx
  exact ⟨.pointer (some (ad.add M.off)),⟨_,_,rfl,Frz.has_take (Frz.has_sub h2 M.off) (Rep.n γ),M.rget h3⟩,λw' _=>by simp [execOp,h1,zi4 hf]⟩

theorem zfH {α:Type} [Rep α] {P:Program} {T:TypeId} (ht:TyB P T (Rep.n α) (Rep.agg α)=true) {S:Frz} {x:α} {ad:Addr} {cs:List Value} (h:Rep.rd S cs x) :
    ∃ v,(isv x).p S v/\∀ w:World,(∀ i u,cs[i]?=some u->w.cell? (ad.add i)=some u)->(loadVar T ad).run P w=.ok v w:=by
  cases ha:Rep.agg α with
  | true =>
    refine ⟨.agg cs.toArray,ziC ha (by simpa using h),λw hw=>?_⟩
    have hl:=run_loadCells_list (P:=P) w ad cs hw
    rw [Rep.len h] at hl
    simp [loadVar,TyB.isAgg ht,TyB.size ht,ha,hl]
  | false =>
    have hlen:=Rep.len h
    rw [Rep.one ha] at hlen
    obtain ⟨u,rfl⟩:=List.length_eq_one_iff.1 hlen
    refine ⟨u,ze8 ha h,λw hw=>?_⟩
    have h0:=hw 0 u rfl
    have:ad.add 0=ad:=rfl
    rw [this] at h0
    simp [loadVar,TyB.isAgg ht,ha,h0]

theorem zao {α:Type} [Rep α] {y:α} {x:Operand} {T:TypeId} (ht:TyB c.P T (Rep.n α) (Rep.agg α)=true) (hx:zB σ.Γ x=some (zbn y)) :
    OpV c ⟨d,.load T x,ty,pos,af,g⟩ σ (isv y):=λS a w m=>by
  obtain ⟨ad,cs,h1,h2,h3⟩:=zb m hx
  obtain ⟨v,hv,hr⟩:=zfH (ad:=ad) ht h3
  exact ⟨v,hv,λw' hs=>by simp [execOp,h1,Instr.loadAt,Instr.sureAddr,hr w' λi u hi=>Frz.has_cell hs.1 h2 hi]⟩

theorem zhC {α β:Type} [Rep α] [Rep β] {b:Nat} {L:Fld α β} {x:Operand} (hx:zB σ.Γ x=some (zal b L)):OpV c ⟨d,.nilCheck x,ty,pos,af,g⟩ σ (zal b L):=λS a w m=>by
 have h1:a.eval x=.pointer (some ⟨b,L.off,none⟩):=zb m hx
 exact ⟨_,rfl,λw' _=>by simp [execOp,h1]⟩
theorem zqF {α:Type} [Rep α] {y:α} {x:Operand} (hx:zB σ.Γ x=some (zbn y)):OpV c ⟨d,.nilCheck x,ty,pos,af,g⟩ σ (zbn y):=λS a w m=>by
 obtain ⟨ad,cs,h1,h2⟩:=zb m hx
 exact ⟨_,⟨ad,cs,rfl,h2⟩,λw' _=>by simp [execOp,h1]⟩

theorem zmW.get {M:List Nat} {B:Nat} {H H':List Ent} {e:Ent} {S:Frz} {w:World} (h:zmW M B H S w) (p:zcw e H H'):e.sat S w:=h.sat e (p.perm.mem_iff.2 (by simp))

theorem zzl {Γ:zM} {H:List Ent} {α β:Type} [Rep α] [Rep β] {b:Nat} {L:Fld α β} {y:α} {x:Operand} {T:TypeId} {dd:Nat} {K:St->Prop} {Hr:List Ent} (ht:TyB c.P T (Rep.n β) (Rep.agg β)=true) (hx:zB Γ x=some (zal b L))
    (hp:zcw (zj b y) H Hr) (k:K ⟨(dd,isv (L.get y)) :: Γ,H⟩) (hd:Nat.blt dd c.n=true:=by rfl) :
    OpT c ⟨some dd,.load T x,ty,pos,af,g⟩ ⟨Γ,H⟩ K:=by
  intro S a w next Q m hn
  have h1:a.eval x=.pointer (some ⟨b,L.off,none⟩):=zb m hx
  have hs:(zj b y).sat S w:=m.owns.get hp
  obtain ⟨o,ho,hnone,cs,T',e,hr⟩:=hs
  subst e
  obtain ⟨v,hv,hrun⟩:=zfH (ad:=⟨b,L.off,none⟩) ht (L.rget hr)
  unfold Oper.wp
  have : (execOp a.eval ⟨some dd,.load T x,ty,pos,af,g⟩).run c.P w=.ok (.value v) w:=by
    simp only [execOp,h1,Instr.loadAt,Instr.sureAddr]
    have h2:=hrun w λi u hi=>by
      rw [zc6]
      unfold World.cell?
      rw [ho]
      simp only
      rw [List.getElem?_take] at hi
      split at hi
      · rw [List.getElem?_drop] at hi
        simpa using hi
      · cases hi
    simp [h2]
  rw [this]
  exact hn _ _ _ _ (Frz.le_refl _) k (m.put hd hv)

theorem zhZ {Γ:zM} {H:List Ent} {α:Type} [Rep α] {T:TypeId} (y:α) {dd:Nat} {K:St->Prop} (hz:ze2 c.P T y)
    (k:∀ b,K ⟨(dd,zal b (Fld.id α)) :: Γ,zj b y :: H⟩) (hd:Nat.blt dd c.n=true:=by rfl) :
    OpT c ⟨some dd,.alloc T,ty,pos,af,g⟩ ⟨Γ,H⟩ K:=by
  intro S a w next Q m hn
  obtain ⟨z,hzr,hzp⟩:=hz.run w
  unfold Oper.wp
  have:(execOp a.eval ⟨some dd,.alloc T,ty,pos,af,g⟩).run c.P w=.ok (.value (.pointer (some ⟨w.heap.size,0,none⟩))) { w with heap:=w.heap.push (.cells z.cells T (0,0)) }:=by
    simp [execOp,Instr.alloc,hzr,newVar,newRow,newObj,Sem.run]
  rw [this]
  have m1:=m.step (Hc:=[]) (H':=[zj w.heap.size y]) .nil (zig m.sub (.cells z.cells T (0,0)))
    (zfh ⟨.cells z.cells T (0,0),by simp,zgI m.sub,_,T,rfl,(hzp S).2⟩ λb hb=>by simp [zj] at hb;subst hb;exact .inr (zNl _))
  exact hn _ _ _ _ (Frz.le_refl _) (k w.heap.size) (m1.put hd rfl)

theorem ziW {S:Frz} {w:World} {b:Nat} {cur cs:Array Value} {T:TypeId} {fr:Nat × Nat} (hs:S.sub w) (hb:S b=none) (hw:w.heap[b]?=some (.cells cur T fr)) :
    zkC [b] S S w (w.setRow b cs)/\(w.setRow b cs).heap[b]?=some (.cells cs T fr):=by
  have h0:∀ k,k ≠ b->(w.setRow b cs).heap[k]?=w.heap[k]?:=λk hk=>setRow_other w b k cs hk
  refine ⟨⟨⟨rfl,rfl,rfl,by simp [World.setRow],λk _ hk=>h0 k (by simpa using hk)⟩,Grow.refl _ _ _,λk d hk=>?_⟩,?_⟩
  · have hne:k ≠ b:=by rintro rfl;rw [hb] at hk;cases hk
    obtain ⟨c,T,fr,hh,hp⟩:=hs k d hk
    exact ⟨c,T,fr,by rw [h0 k hne];exact hh,hp⟩
  · exact setRow_heap w b cur cs T fr hw

end ops

def zyI (P : Program) (w : World) : Prop := ∀ g1 g2, P.globals.findIdx? (·.name == "unicode/utf8.first") = some g1 → P.globals.findIdx? (·.name == "unicode/utf8.acceptRanges") = some g2 →
 (∀ c,c < 256->w.cell? ⟨g1,c,none⟩=some (.int .u8 (Lib.firstT c))) /\
 (∀ i,i < 16->w.cell? ⟨g2,2 * i,none⟩=some (.int .u8 (Lib.accLo i))/\w.cell? ⟨g2,2 * i + 1,none⟩=some (.int .u8 (Lib.accHi i)))
def zys (P : Program) (w : World) : Prop := ∀ g, P.globals.findIdx? (·.name == "strconv.ErrSyntax") = some g ∨ P.globals.findIdx? (·.name == "strconv.ErrRange") = some g → ∃ ev, w.cell? ⟨g, 0, none⟩ = some ev ∧ (ev = .nilIface ∨ ∃ te pe, ev = .iface te pe)
def zwF (P:Program) (S:Frz):Prop:=∀ w,S.sub w->zyI P w/\zys P w
theorem zwF.mono {P:Program} {S S':Frz} (h:S.le S') (k:zwF P S):zwF P S':=λw hw=>k w λb cs hb=>by
 obtain ⟨cs',h1,h2⟩:=h b cs hb
 obtain ⟨c,T,fr,h3,h4⟩:=hw b cs' h1
 exact ⟨c,T,fr,h3,h2.trans h4⟩

def zpJ:Array Value:=((List.range 20).map λi=>Value.int .u64 ((10 ^ i:Nat):Int)).toArray
structure zre (P:Program) (w:World) (M:List Nat):Prop where
 out:∀ g,g < P.globals.size->g ∉ M/\g < w.heap.size
 pow : (P.globalNamed "internal/strconv.uint64pow10").isSome = true → w.var? P "internal/strconv.uint64pow10" = some zpJ
 most : ∀ g, P.globals.findIdx? (·.name == "internal/bytealg.MaxLen") = some g → ∃ m, w.cell? ⟨g, 0, none⟩ = some (.int .i64 m)
theorem znI {P:Program} {n:String} {g:Nat} (h:P.globalNamed n=some g):g < P.globals.size:=by
 unfold Program.globalNamed at h
 split at h
 ·rename_i g' hf
  obtain rfl:=Option.some.inj h
  have:g' ∈ (List.range P.globals.size).filter λg=>(P.globals[g]?).any (·.name == n):=by rw [hf];exact zMo.2 rfl
  exact List.mem_range.1 (List.mem_filter.1 this).1
 ·cases h
theorem zre.keep {P:Program} {w w':World} {M N:List Nat} (h:zre P w M) (hk:∀ g,g < P.globals.size->w'.heap[g]?=w.heap[g]?) (hs:w.heap.size <= w'.heap.size) (hN:∀ b,b ∈ N->b ∈ M \/ w.heap.size <= b):zre P w' N:=by
 refine ⟨λg hg=>⟨λhn=>?_,Nat.lt_of_lt_of_le (h.out g hg).2 hs⟩,λhp=>?_,λg hg=>?_⟩
 ·rcases hN g hn with h1 | h1
  ·exact (h.out g hg).1 h1
  ·exact absurd (h.out g hg).2 (by omega)
 ·rw [<- h.pow hp]
  unfold World.var?
  cases hg : P.globalNamed "internal/strconv.uint64pow10" with
  | none=>rfl
  | some g=>simp only [Option.bind_some];rw [hk g (znI hg)]
 ·obtain ⟨m,hm⟩:=h.most g hg
  refine ⟨m,?_⟩
  have hlt:g < P.globals.size:=(Array.findIdx?_eq_some_iff_getElem.1 hg).1
  rw [<- hm]
  unfold World.cell?
  simp only
  rw [hk g hlt]
structure zlz (P:Program) (S:Frz) (w:World) (M:List Nat):Prop where
 tabs:zwF P S
 glob:zre P w M
abbrev zkR (c:Ctx):Prop:=zlz c.P c.S0 c.w0 c.M

def zgQ (Rs:List VP):VP where
 p:=λS v=>∃ vs:List Value,v=.tuple vs.toArray/\VPs S Rs vs
 mono:=λh ⟨vs,e,k⟩=>⟨vs,e,k.mono h⟩
def zrM (P : Program) (f : FuncId) : Prop := ∃ fn, P.funcs[f]? = some fn ∧ fn.body.isSome = true ∧ (fn.name == "runtime.NumGoroutine") = false

structure Ctr (P:Program) (f:FuncId) (args:List VP) (H:List Ent) (post:VP->List Ent->Prop):Prop where
 callable:zrM P f
 calls:∀ S w vs,zlz P S w (zbP H)->S.sub w->VPs S args vs->zmW (zbP H) w.heap.size H S w->Calls P f vs.toArray w λe w' =>
  ∃ v S' R H',post R H'/\e=.returned v/\R.p S' v/\zkC (zbP H) S S' w w'/\zmW (zbP H) w.heap.size H' S' w'

def zkd:Nat->List VP->zM
 | _,[]=>[]
 | i,R :: Rs=>(i,R) :: zkd (i + 1) Rs

theorem zme {S:Frz}:∀ {Rs:List VP} {vs:List Value} {k i:Nat} {R:VP},VPs S Rs vs->zcg (zkd k Rs) i=some R->∃ v,k <= i/\vs[i - k]?=some v/\R.p S v
 | [],_,_,_,_,_,h=>by cases h
 | _ :: Rs,v :: vs,k,i,R,⟨k1,k2⟩,h=>by
  unfold zkd zcg at h
  cases hk:Nat.beq k i with
  | true =>
   rw [hk] at h
   have e:k=i:=Nat.eq_of_beq_eq_true hk
   subst e
   cases h
   exact ⟨v,zNl _,by simp,k1⟩
  | false =>
   rw [hk] at h
   obtain ⟨u,h1,h2,h3⟩:=zme k2 h
   refine ⟨u,by omega,?_,h3⟩
   have:i - k=(i - (k + 1)) + 1:=by omega
   rw [this];simpa using h2

def zl3 (P:Program) (fn:Func) (w0:World) (S0:Frz) (H0:List Ent) (post:VP->List Ent->Prop):Exit->Act->World->Prop :=
 bodyPost P fn λe w'=>∃ v S' R H',post R H'/\e=.returned v/\R.p S' v/\zkC (zbP H0) S0 S' w0 w'/\zmW (zbP H0) w0.heap.size H' S' w'

theorem zr9 {P:Program} {f:FuncId} {fn:Func} {code:Code} {args:List VP} {H:List Ent} {post:VP->List Ent->Prop}
    (hf : P.funcs[f]? = some fn) (hb : fn.body = some code) (hn : (fn.name == "runtime.NumGoroutine") = false) (hl : Nat.ble args.length fn.ntmps = true)
    (h:∀ w0 S0,zlz P S0 w0 (zbP H)->Wp ⟨P,fn.ntmps,w0,S0,zbP H,[]⟩ code ⟨zkd 0 args,H⟩ (zl3 P fn w0 S0 H post)):Ctr P f args H post:=by
  refine ⟨⟨fn,hf,by rw [hb];rfl,hn⟩,λS w vs ht hs hv ho=>calls_of_wp hf hb (h w S ht S _ w ?_)⟩
  have hlen:=hv.length
  have hl':=Nat.le_of_ble_eq_true hl
  refine ⟨by simp;omega,rfl,hs,zjn.refl _ _,Grow.refl _ _ _,λi R hi=>?_,ho,λx hx=>by cases hx⟩
  obtain ⟨v,_,h2,h3⟩:=zme hv hi
  refine ⟨v,?_,h3⟩
  have hlt:i < vs.length:=by have:=(List.getElem?_eq_some_iff.1 h2).1;omega
  rw [Array.getElem?_append_left (by simpa using hlt)]
  simpa using h2

inductive zfq (P:Program) (σ:St):List ResultVar->List VP->Prop
  | nil:zfq P σ [] []
  | tmp {t:Nat} {R:VP} {rs:List ResultVar} {Rs:List VP}:zcg σ.Γ t=some R->zfq P σ rs Rs->zfq P σ (.tmp t :: rs) (R :: Rs)
  | as {t:Nat} {R R':VP} {rs:List ResultVar} {Rs:List VP}:zcg σ.Γ t=some R->(∀ S v,R.p S v->R'.p S v)->zfq P σ rs Rs->zfq P σ (.tmp t :: rs) (R' :: Rs)
  | cell {α β:Type} [Rep α] [Rep β] {t b:Nat} {L:Fld α β} {y:α} {T:TypeId} {Hr:List Ent} {rs:List ResultVar} {Rs:List VP}:zcg σ.Γ t=some (zal b L)->zcw (zj b y) σ.H Hr ->
      TyB P T (Rep.n β) (Rep.agg β)=true->zfq P σ rs Rs->zfq P σ (.cell t T :: rs) (isv (L.get y) :: Rs)

def zrp (a:Act):ResultVar->Sem Value
 | .tmp t=>pure (a.tmps.getD t undef)
 | .cell x t=>do loadVar t (<- asAddr (a.tmps.getD x undef))

theorem zfq.run {c:Ctx} {σ:St} {S:Frz} {a:Act} {w:World} (m:za6 c σ S a w) {rs:List ResultVar} {Rs:List VP} (h:zfq c.P σ rs Rs) :
    ∃ vs,VPs S Rs vs/\(rs.mapM (zrp a)).run c.P w=.ok vs w:=by
  induction h with
  | nil=>exact ⟨[],trivial,by simp⟩
  | tmp hl _ ih =>
    obtain ⟨vs,hv,hr⟩:=ih
    obtain ⟨v,h1,h2⟩:=m.env _ _ hl
    exact ⟨v :: vs,⟨h2,hv⟩,by simp [List.mapM_cons,zrp,hr,Array.getD_eq_getD_getElem?,h1]⟩
  | as hl himp _ ih =>
    obtain ⟨vs,hv,hr⟩:=ih
    obtain ⟨v,h1,h2⟩:=m.env _ _ hl
    exact ⟨v :: vs,⟨himp _ _ h2,hv⟩,by simp [List.mapM_cons,zrp,hr,Array.getD_eq_getD_getElem?,h1]⟩
  | cell hl hp ht _ ih =>
    rename_i b L y T _ _ _ _
    obtain ⟨vs,hv,hr⟩:=ih
    obtain ⟨v,h1,h2⟩:=m.env _ _ hl
    have h2':v=.pointer (some ⟨b,L.off,none⟩):=h2
    subst h2'
    have hs:(zj b y).sat S w:=m.owns.get hp
    obtain ⟨o,ho,hnone,cs,T',e,hrd⟩:=hs
    subst e
    obtain ⟨v,hv',hrun⟩:=zfH (ad:=⟨b,L.off,none⟩) ht (L.rget hrd)
    have h3:=hrun w λi u hi=>by
      rw [zc6]
      unfold World.cell?
      rw [ho]
      simp only
      rw [List.getElem?_take] at hi
      split at hi
      · rw [List.getElem?_drop] at hi
        simpa using hi
      · cases hi
    exact ⟨v :: vs,⟨hv',hv⟩,by simp [List.mapM_cons,zrp,hr,Array.getD_eq_getD_getElem?,h1,asAddr,h3]⟩

theorem zgo {M:List Nat} {B:Nat} {H Hc Hr:List Ent} {S:Frz} {w:World} (h:zmW M B H S w) (t:zbq H Hc Hr):zmW M B Hc S w:=by
 have hp:=t.perm
 have hk:=zjI hp
 rw [zgC] at hk
 exact ⟨λe he=>h.sat e (hp.mem_iff.2 (List.mem_append_left _ he)),(List.nodup_append.1 (hk.nodup_iff.1 h.nodup)).1,λb hb=>h.own b (hk.mem_iff.2 (List.mem_append_left _ hb))⟩

def ziQ:List VP->VP
 | [R]=>R
 | Rs=>zgQ Rs

theorem zk1 {c:Ctx} {σ:St} {S:Frz} {a:Act} {w:World} (m:za6 c σ S a w) {fn:Func} {Rs:List VP} (h:zfq c.P σ fn.results.toList Rs) :
    ∃ v,(ziQ Rs).p S v/\(results fn a.tmps).run c.P w=.ok v w:=by
  obtain ⟨vs,hv,hr⟩:=h.run m
  have hlen:=hv.length
  have e:(results fn a.tmps).run c.P w=.ok (if h:vs.toArray.size=1 then vs.toArray[0] else .tuple vs.toArray) w:=by
    have e0:results fn a.tmps=(do
        let vs <- fn.results.mapM (zrp a)
        pure (if h:vs.size=1 then vs[0] else .tuple vs)):=rfl
    rw [e0,Array.mapM_eq_mapM_toList]
    simp only [Sem.run_bind,Sem.run_map,Sem.run_pure,hr,Result.andThen_ok]
  refine ⟨_,?_,e⟩
  match Rs,vs,hv,hlen with
  | [],[],_,_=>exact ⟨[],rfl,trivial⟩
  | [R],[v],hv,_=>exact hv.1
  | R :: R' :: Rs,v :: v' :: vs,hv,_=>exact ⟨v :: v' :: vs,by rw [dif_neg (by simp)],hv⟩

section ret
variable {P:Program} {n:Nat} {w0:World} {S0:Frz} {H0:List Ent} {σ:St} {fn:Func} {post:VP->List Ent->Prop}

theorem zdy {Rs:List VP} {H' Hr:List Ent} (h:zfq P σ fn.results.toList Rs) (ht:zbq σ.H H' Hr) (hp:post (ziQ Rs) H') :
    Ret ⟨P,n,w0,S0,zbP H0,[]⟩ σ (zl3 P fn w0 S0 H0 post):=λS a w m=>by
  obtain ⟨v,hv,hr⟩:=zk1 m h
  exact ⟨m.dfr,v,hr,v,S,_,_,hp,rfl,hv,⟨m.keep,m.grow,m.sub⟩,zgo m.owns ht⟩
theorem zvD {Rs:List VP} {H' Hr:List Ent} (h:zfq P σ fn.results.toList Rs) (ht:zbq σ.H H' Hr) (hp:post (ziQ Rs) H') :
    Fin ⟨P,n,w0,S0,zbP H0,[]⟩ σ (zl3 P fn w0 S0 H0 post):=λS a w m=>by
  obtain ⟨v,hv,hr⟩:=zk1 m h
  exact ⟨m.dfr,v,hr,v,S,_,_,hp,rfl,hv,⟨m.keep,m.grow,m.sub⟩,zgo m.owns ht⟩
end ret

def zwI {α:Type} [Rep α] (x:α):VP->List Ent->Prop:=λR H=>R=isv x/\H=[]
/-! ### Calls -/

inductive zgK (Γ:zM):List Operand->List VP->Prop
 | nil:zgK Γ [] []
 | cons {x:Operand} {R R':VP} {xs:List Operand} {Rs:List VP}:zB Γ x=some R->(∀ S v,R.p S v->R'.p S v)->zgK Γ xs Rs->zgK Γ (x :: xs) (R' :: Rs)

theorem zgK.same {Γ:zM} {x:Operand} {R:VP} {xs:List Operand} {Rs:List VP} (h:zB Γ x=some R) (k:zgK Γ xs Rs):zgK Γ (x :: xs) (R :: Rs):=.cons h (λ_ _ h=>h) k
theorem zgK.sound {c:Ctx} {σ:St} {S:Frz} {a:Act} {w:World} (m:za6 c σ S a w) {xs:List Operand} {Rs:List VP} (h:zgK σ.Γ xs Rs):VPs S Rs (xs.map a.eval):=by
 induction h with
 | nil=>trivial
 | cons h1 h2 _ ih=>exact ⟨h2 _ _ (zb m h1),ih⟩

theorem zl9 {P:Program} {f:FuncId} (h:zrM P f) (args:Array Value) (w:World):(callFunc f args).run P w=.ok (.enter f args) w:=by
 obtain ⟨fn,h1,h2,h3⟩:=h
 have h3' : ¬ fn.name = "runtime.NumGoroutine" := by simpa using h3
 have h4:¬ fn.body=none:=by intro h;rw [h] at h2;cases h2
 simp [callFunc,h1,h3',h4]

section calls
variable {c:Ctx} {ty:TypeId} {pos:String} {af:Array Edge} {g:Option (Nat × Bool)} {σ:St}

theorem zsZ {Γ:zM} {H:List Ent} {f:FuncId} {o:Oper} {args:List VP} {Hc Hr:List Ent} {post:VP->List Ent->Prop} {dd:Nat} {K:St->Prop} (hs:Ctr c.P f args Hc post) (hT:zkR c) (ht:zbq H Hc Hr) (hd:Nat.blt dd c.n=true) (hdst:o.dst=some dd)
    (he:∀ S a w,za6 c ⟨Γ,H⟩ S a w->∃ vs,VPs S args vs/\(execOp a.eval o).run c.P w=.ok (.enter f vs.toArray) w)
    (k:∀ R H',post R H'->K ⟨(dd,R) :: Γ,H' ++ Hr⟩):OpT c o ⟨Γ,H⟩ K:=by
  intro S a w next Q m hn
  obtain ⟨vs,hv,hr⟩:=he S a w m
  unfold Oper.wp
  rw [hr,Oper.upon_enter]
  have ho:zmW (zbP Hc) w.heap.size Hc S w:=by
    have:=zgo m.owns ht
    exact ⟨this.sat,this.nodup,λb hb=>.inl hb⟩
  have hg:zlz c.P S w (zbP Hc):=⟨hT.tabs.mono m.grow.le,hT.glob.keep (λg hg=>m.keep.block g (hT.glob.out g hg).2 (hT.glob.out g hg).1) m.keep.size λb hb=>(zgo m.owns ht).own b hb⟩
  refine (hs.calls S w vs hg m.sub hv ho).mono λe w' ⟨v,S',R,H',hp,e1,hR,hst,ho'⟩=>?_
  subst e1
  rw [hdst]
  exact hn _ _ _ _ hst.grow.le (k R H' hp) ((m.step ht hst ho').put hd hR)

theorem zsP {Γ:zM} {H:List Ent} {f:FuncId} {xs:Array Operand} {ats:Array TypeId} {args:List VP} {Hc Hr:List Ent} {post:VP->List Ent->Prop} {dd:Nat} {K:St->Prop} (hs:Ctr c.P f args Hc post) (hT:zkR c) (hx:zgK Γ xs.toList args) (ht:zbq H Hc Hr)
    (k:∀ R H',post R H'->K ⟨(dd,R) :: Γ,H' ++ Hr⟩) (hd:Nat.blt dd c.n=true:=by rfl) :
    OpT c ⟨some dd,.call ⟨.value (.func f),xs,ats⟩,ty,pos,af,g⟩ ⟨Γ,H⟩ K:=by
  refine zsZ hs hT ht hd rfl (λS a w m=>⟨xs.toList.map a.eval,hx.sound m,?_⟩) k
  have:xs.map a.eval=(xs.toList.map a.eval).toArray:=by cases xs;simp
  simp only [execOp,resolve,Act.eval,Deferred.ofValue,Sem.run_bind,Sem.run_pure,Result.andThen_ok,invoke,Array.empty_append,Array.append_empty,this]
  exact zl9 hs.callable _ w

theorem zxK {Γ:zM} {H:List Ent} {f:FuncId} {x:Operand} {caps:List VP} {xs:Array Operand} {ats:Array TypeId} {args:List VP} {Hc Hr:List Ent} {post:VP->List Ent->Prop} {dd:Nat} {K:St->Prop} (hf:zB Γ x=some (zdV f caps)) (hx:zgK Γ xs.toList args) (hs:Ctr c.P f (args ++ caps) Hc post) (hT:zkR c) (ht:zbq H Hc Hr)
    (k:∀ R H',post R H'->K ⟨(dd,R) :: Γ,H' ++ Hr⟩) (hd:Nat.blt dd c.n=true:=by rfl) :
    OpT c ⟨some dd,.call ⟨.value x,xs,ats⟩,ty,pos,af,g⟩ ⟨Γ,H⟩ K:=by
  refine zsZ hs hT ht hd rfl (λS a w m=>?_) k
  obtain ⟨vs,h1,h2⟩:=zb m hf
  refine ⟨xs.toList.map a.eval ++ vs,(hx.sound m).append h2,?_⟩
  have:xs.map a.eval=(xs.toList.map a.eval).toArray:=by cases xs;simp
  simp only [execOp,resolve,h1,Deferred.ofValue,Sem.run_bind,Sem.run_pure,Result.andThen_ok,invoke,this,List.append_toArray,List.nil_append]
  exact zl9 hs.callable _ w

theorem zsD {d:Option Nat} {f:FuncId} {xs:Array Operand} {caps:List VP} (hx:zgK σ.Γ xs.toList caps):OpV c ⟨d,.makeFunc (.func f) #[] xs,ty,pos,af,g⟩ σ (zdV f caps):=λS a w m=>by
 have:xs.map a.eval=(xs.toList.map a.eval).toArray:=by cases xs;simp
 exact ⟨.func (.func f) #[] (xs.toList.map a.eval).toArray,⟨_,rfl,hx.sound m⟩,λw' _=>by simp [execOp,Instr.makeFunc,this]⟩

theorem zle {d:Option Nat} {x:Operand} {i:Nat} {Rs:List VP} {R:VP} (hx:zB σ.Γ x=some (zgQ Rs)) (hi:Rs[i]?=some R):OpV c ⟨d,.extract x i,ty,pos,af,g⟩ σ R:=λS a w m=>by
 obtain ⟨vs,h1,h2⟩:=zb m hx
 obtain ⟨v,h3,h4⟩:=h2.get hi
 exact ⟨v,h4,λw' _=>by simp [execOp,h1,Instr.extract,h3]⟩
end calls

/-! ### Loops -/

def zs7 (c:Ctx) {ι:Type} (I:ι->Prop) (inv:ι->St) (μ:ι->Nat) (i:ι) (Q:Exit->Act->World->Prop):Exit->Act->World->Prop :=
 Exit.then (λa w=>∃ j S,I j/\za6 c (inv j) S a w/\μ j < μ i) Q

section loop
variable {c:Ctx} {σ:St} {Q:Exit->Act->World->Prop}

structure Imp (σ σ':St):Prop where
 Γ:zM.imp σ.Γ σ'.Γ
 H:∃ Hr,zbq σ.H σ'.H Hr

theorem za6.weak {S:Frz} {a:Act} {w:World} {σ':St} (m:za6 c σ S a w) (h:Imp σ σ'):za6 c σ' S a w:=by
 obtain ⟨h1,Hr,h2⟩:=h
 have:=m.imp h1
 exact ⟨this.size,this.dfr,this.sub,this.keep,this.grow,this.env,zgo this.owns h2,λx hx=>by
  obtain ⟨k1,k2,k3,k4⟩:=this.pins x hx
  refine ⟨k1,k2,λh=>k3 ?_,k4⟩
  have hk:=zjI h2.perm
  rw [zgC] at hk
  exact hk.mem_iff.2 (List.mem_append_left _ h)⟩

theorem zv0 {ι:Type} {x:Code} (I:ι->Prop) (inv:ι->St) (μ:ι->Nat) (i0:ι) (hI:I i0) (h0:Imp σ (inv i0))
    (round:∀ i,I i->Wp c x (inv i) (zs7 c I inv μ i Q)):Wp c (.loop x) σ Q:=λS a w m=>by
  refine wp_loop' (ι:={ i:ι // I i }) (λi a w=>∃ S,za6 c (inv i.1) S a w) (λi=>μ i.1) ⟨i0,hI⟩ ⟨S,m.weak h0⟩ ?_
  rintro ⟨i,hi⟩ a w ⟨S,m⟩
  refine wp_mono (round i hi S a w m) λe a w h=>?_
  cases e with
  | normal=>obtain ⟨j,S,hj,h1,h2⟩:=h;exact ⟨⟨j,hj⟩,⟨S,h1⟩,h2⟩
  | _=>exact h
where
  wp_loop' {P:Program} {ι:Type} {x:Code} {Q:Exit->Act->World->Prop} {a:Act} {w:World} (J:ι->Act->World->Prop) (μ:ι->Nat) (i0:ι) (h0:J i0 a w)
      (round:∀ i a w,J i a w->x.wp P (Exit.then (λa' w'=>∃ j,J j a' w'/\μ j < μ i) Q) a w):(Code.loop x).wp P Q a w:=by
    intro b k cs
    have key:∀ n i a w,μ i=n->J i a w->∃ e a' w',Q e a' w'/\Arrives P (lone (b.at a (.code x :: .inLoop x :: k)) cs w) b k cs e a' w':=by
      intro n
      induction n using Nat.strongRecOn with
      | _ n ih =>
        intro i a w hn hJ
        obtain ⟨e,a₁,w₁,hq,harr⟩:=round i a w hJ b (.inLoop x :: k) cs
        cases e with
        | normal =>
          obtain ⟨j,hJ₁,hlt⟩:=hq
          obtain ⟨e₂,a₂,w₂,hq₂,harr₂⟩:=ih (μ j) (hn ▸ hlt) j a₁ w₁ rfl hJ₁
          exact ⟨e₂,a₂,w₂,hq₂,.of_steps (Steps.trans harr (.one step_inLoop)) harr₂⟩
        | exit id=>exact ⟨_,a₁,w₁,hq,.pass (x:=.inLoop x) rfl (λ_ _=>.inl (by simp)) harr⟩
        | goto l=>exact ⟨_,a₁,w₁,hq,.pass (x:=.inLoop x) rfl (λ_ _=>.inl (by simp)) harr⟩
        | ret=>exact ⟨_,a₁,w₁,hq,.pass (x:=.inLoop x) rfl (λ_ _=>.inl (by simp)) harr⟩
        | panic ch=>exact ⟨_,a₁,w₁,hq,.pass (x:=.inLoop x) rfl (λ_ _=>.inl (by simp)) harr⟩
        | outgrown=>exact ⟨_,a₁,w₁,hq,.pass (x:=.inLoop x) rfl (λ_ _=>.inl (by simp)) harr⟩
    obtain ⟨e,a',w',hq,harr⟩:=key _ i0 a w rfl h0
    exact ⟨e,a',w',hq,.of_steps (.one step_loop) harr⟩

theorem zqC {ι:Type} {I:ι->Prop} {inv:ι->St} {μ:ι->Nat} {i:ι} (j:ι) (hI:I j) (hμ:μ j < μ i) (h:Imp σ (inv j)):Fin c σ (zs7 c I inv μ i Q) :=
 λS _ _ m=>⟨j,S,hI,m.weak h,hμ⟩
theorem zrW {ι:Type} {I:ι->Prop} {inv:ι->St} {μ:ι->Nat} {i:ι} {id:Nat} (h:Exi c id σ Q):Exi c id σ (zs7 c I inv μ i Q):=λS a w m=>h S a w m
theorem zry {ι:Type} {I:ι->Prop} {inv:ι->St} {μ:ι->Nat} {i:ι} (h:Ret c σ Q):Ret c σ (zs7 c I inv μ i Q):=λS a w m=>h S a w m

/-! A loop that turns these slots and these blocks; all others stay. -/
def zqK (pre:zM) (ks:List Nat) (Γ:zM):Bool:=pre.all λx=>ks.any (λk=>Nat.beq k x.1) || (zcg Γ x.1).isNone
theorem znf {A B:zM} {i:Nat}:zcg (A ++ B) i=(zcg A i).or (zcg B i):=by
 induction A with
 | nil=>simp [zcg]
 | cons x A ih =>
  obtain ⟨k,R⟩:=x
  show (bif Nat.beq k i then some R else zcg (A ++ B) i)=(bif Nat.beq k i then some R else zcg A i).or (zcg B i)
  cases Nat.beq k i with
  | true=>simp
  | false=>simpa using ih
theorem zuD {A:zM} {i:Nat} (h:zcg A i=none) {x:Nat × VP} (hx:x ∈ A):x.1 ≠ i:=by
 induction A with
 | nil=>cases hx
 | cons y A ih =>
  obtain ⟨k,R⟩:=y
  have h':(bif Nat.beq k i then some R else zcg A i)=none:=h
  cases hk:Nat.beq k i with
  | true=>rw [hk] at h';cases h'
  | false =>
   rw [hk] at h'
   rcases List.mem_cons.1 hx with e | e
   ·subst e;exact Nat.ne_of_beq_eq_false hk
   ·exact ih h' e
theorem zrr {A:zM} {i:Nat} (h:∀ x ∈ A,x.1 ≠ i):zcg A i=none:=by
 induction A with
 | nil=>rfl
 | cons y A ih =>
  obtain ⟨k,R⟩:=y
  show (bif Nat.beq k i then some R else zcg A i)=none
  have hk:Nat.beq k i=false:=by
   cases hk:Nat.beq k i with
   | false=>rfl
   | true=>exact absurd (Nat.eq_of_beq_eq_true hk) (h _ (zMs ..))
  rw [hk]
  exact ih λx hx=>h x (zMm _ hx)

theorem zof {Γ Γ' mod:zM} (n:Nat) (hd:Γ'.drop n=Γ) (ht:zqK (Γ'.take n) (mod.map (·.1)) Γ=true) (hm:∀ i R,zcg mod i=some R->∃ R0,zcg Γ' i=some R0/\∀ S v,R0.p S v->R.p S v):zM.imp Γ' (mod ++ Γ):=λi R h=>by
 rw [znf] at h
 cases hmi:zcg mod i with
 | some R1 =>
  rw [hmi] at h
  simp at h
  subst h
  exact hm i R1 hmi
 | none =>
  rw [hmi] at h
  simp at h
  refine ⟨R,?_,λ_ _ h=>h⟩
  have hsplit:Γ'=Γ'.take n ++ Γ:=by rw [<- hd,List.take_append_drop]
  rw [hsplit,znf,zrr (A:=Γ'.take n),h]
  ·rfl
  ·intro x hx e
   subst e
   have h1:=List.all_eq_true.1 ht x hx
   rw [Bool.or_eq_true] at h1
   rcases h1 with h1 | h1
   ·obtain ⟨k,hk,hk2⟩:=List.any_eq_true.1 h1
    obtain ⟨y,hy,rfl⟩:=List.mem_map.1 hk
    exact zuD hmi hy (Nat.eq_of_beq_eq_true hk2)
   ·rw [h] at h1;cases h1

theorem zh4 {Γ':zM}:∀ i R,zcg ([]:zM) i=some R->∃ R0,zcg Γ' i=some R0/\∀ S v,R0.p S v->R.p S v:=λ_ _ h=>by cases h
theorem zev {Γ' mod:zM} {j:Nat} {R1 R0:VP} (h0:zcg Γ' j=some R0) (h1:∀ S v,R0.p S v->R1.p S v) (hm:∀ i R,zcg mod i=some R->∃ R0,zcg Γ' i=some R0/\∀ S v,R0.p S v->R.p S v) :
    ∀ i R,zcg ((j,R1) :: mod) i=some R->∃ R0,zcg Γ' i=some R0/\∀ S v,R0.p S v->R.p S v:=λi R h=>by
  have h':(bif Nat.beq j i then some R1 else zcg mod i)=some R:=h
  cases hk:Nat.beq j i with
  | true =>
    rw [hk] at h'
    have e:j=i:=Nat.eq_of_beq_eq_true hk
    subst e
    cases h'
    exact ⟨R0,h0,h1⟩
  | false=>rw [hk] at h';exact hm i R h'
theorem zpt {H Hc Hr:List Ent} (h:zbq H Hc Hr):zbq H (Hc ++ Hr) []:=by
 induction h with
 | nil =>
  rename_i H
  show zbq H H []
  induction H with
  | nil=>exact .nil
  | cons e H ih=>exact .cons .here ih
 | cons p _ ih=>exact .cons p ih

theorem zwJ {x:Operand} {t e:Code} {b:Bool} (hx:zB σ.Γ x=some (isv b)) (hb:b=false) (he:Wp c e σ Q):Wp c (.cond x t e) σ Q:=zwy hx (λh=>by rw [hb] at h;cases h) (λ_=>he)

theorem zyv {x:Code} {σ':St} (h:Imp σ σ') (k:Wp c x σ' Q):Wp c x σ Q:=λS a w m=>k S a w (m.weak h)
end loop

theorem zcw.eq {e e':Ent} {H:List Ent} (h:e'=e):zcw e (e' :: H) H:=h ▸ .here

def SlB (P:Program) (T:TypeId) (n:Nat) (agg:Bool):Bool :=
 match P.underlying T with
 | some (.slice e)=>TyB P e n agg
 | _=>false
theorem SlB.spec {P:Program} {T n:Nat} {agg:Bool} (h:SlB P T n agg=true):∃ e,P.underlying T=some (.slice e)/\TyB P e n agg=true:=by
 unfold SlB at h
 split at h
 ·rename_i e hu;exact ⟨e,hu,h⟩
 ·cases h
def zkw (P:Program) (T:TypeId):Bool:=match P.underlying T with | some .string=>true | _=>false
theorem zkw.spec {P:Program} {T:Nat} (h:zkw P T=true):P.underlying T=some .string:=by
 unfold zkw at h
 split at h
 ·assumption
 ·cases h

section ops
variable {c:Ctx} {d:Option Nat} {ty:TypeId} {pos:String} {af:Array Edge} {g:Option (Nat × Bool)} {σ:St}

theorem znB {P:Program} {T n:Nat} {agg:Bool} (h:SlB P T n agg=true) (p:Option Addr) (l k:Nat) (w:World) (ty:TypeId):(Builtin.len_ #[T] ty #[.slice p l k]).run P w=.ok (.int .i64 l) w:=by
 obtain ⟨e,h1,_⟩:=SlB.spec h
 simp [Builtin.len_,underlying,h1,goInt]

theorem zzL {α:Type} [Rep α] {x:Operand} {l:List α} {T n:Nat} {agg:Bool} (hT:SlB c.P T n agg=true) (hx:zB σ.Γ x=some (isv l)) :
    OpV c ⟨d,.call ⟨.builtin .len,#[x],#[T]⟩,ty,pos,af,g⟩ σ (isv (l.length:Int)):=λS a w m=>by
  obtain ⟨p,cap,h1,h2,h3,_⟩:=zcs.1 (zb m hx)
  exact ⟨.int .i64 l.length,zah.2 ⟨rfl,by unfold zc3;unfold zfr at h3;omega⟩,λw' _=>by
    simp [execOp,resolve,invoke,builtin,h1,znB hT]⟩

theorem zzm {x:Operand} {s:Str} {T:Nat} (hT:zkw c.P T=true) (hx:zB σ.Γ x=some (isv s)) :
    OpV c ⟨d,.call ⟨.builtin .len,#[x],#[T]⟩,ty,pos,af,g⟩ σ (isv (s.b.length:Int)):=λS a w m=>by
  obtain ⟨h1,h2⟩:=zdv.1 (zb m hx)
  exact ⟨.int .i64 s.b.length,zah.2 ⟨rfl,by unfold zc3;unfold zhG at h2;omega⟩,λw' _=>by
    simp [execOp,resolve,invoke,builtin,h1,Builtin.len_,underlying,zkw.spec hT,goInt,Str.ba_size]⟩

theorem zd1 {P:Program} {k:Int} {y:Nat} {code:BoundsCode} {w:World} (h0:0 <= k) (h1:k <= y):(Instr.sliceBound (.int .i64 k) y code).run P w=.ok k.toNat w:=by
 simp [Instr.sliceBound,asIntOf,h0,h1]

end ops

/-! ### Lists that grow -/

/-- A list, and where more may be laid behind it: nowhere (it is full), or in block b, from cell F on, up to cell C. -/
abbrev Tok:=Option (Nat × Nat × Nat)

def zbK {α:Type} [Rep α] (t:Tok) (l:List α):VP where
 p:=λS v=>zsS (Rep.n α) Rep.rd S v l/\match t with
  | none=>∃ p,v=.slice p l.length l.length
  | some (b,F,C)=>∃ off cap,v=.slice (some ⟨b,off,none⟩) l.length cap/\off + l.length * Rep.n α=F/\off + cap * Rep.n α=C
 mono:=λh k=>⟨(zcs.1 ((isv l).mono h (zcs.2 k.1))),k.2⟩

theorem zb7 {α:Type} [Rep α] {t:Tok} {l:List α} (S:Frz) (v:Value) (h:(zbK t l).p S v):(isv l).p S v:=zcs.2 h.1
theorem zii {α:Type} [Rep α] (S:Frz) (v:Value) (h:zeI.p S v):(zbK none ([]:List α)).p S v:=by
 have e:v=.slice none 0 0:=h
 subst e
 exact ⟨⟨none,0,rfl,zNl _,zNz _,.inl rfl⟩,none,rfl⟩
theorem zmw {α:Type} [Rep α] (S:Frz) (v:Value) (h:zeI.p S v):(isv ([]:List α)).p S v:=zb7 S v (zii S v h)

def zO (t : Tok):Ent where
  k:=t.map (·.1)
  φ := { p := λb S o=>match t with
           | none=>True
           | some (_,F,C)=>∃ cs cells T,S b=some cs/\cs.length=F/\o=.cells cells T (0,0)/\C <= cells.size
         mono:=λ{S S' b o} h hb k=>by
           cases t with
           | none=>trivial
           | some t=>obtain ⟨cs,cells,T,h1,h2,h3,h4⟩:=k;exact ⟨cs,cells,T,hb ▸ h1,h2,h3,h4⟩ }

theorem zhT {need cap:Nat} (h:cap < need):Builtin.nextslicecap need cap <= 2 * need + 1024:=by
 unfold Builtin.nextslicecap
 split
 ·omega
 ·split
  ·omega
  ·have key:∀ r c,c <= 2 * need + 1024->Builtin.growBy need r c <= 2 * need + 1024:=by
    intro r
    induction r with
    | zero=>intro c hc;exact hc
    | succ r ih =>
     intro c hc
     unfold Builtin.growBy
     split
     ·exact hc
     ·exact ih _ (by omega)
   exact key 4 cap (by omega)

theorem ziq {α:Type} [Rep α] {P:Program} {S:Frz} {v:Value} {l:List α} (h:zsS (Rep.n α) Rep.rd S v l) :
    ∃ cs,cs.length=l.length * Rep.n α/\rdL (Rep.rd S) l cs/\(∀ p cap,v=.slice p l.length cap->∀ a,p=some a->l ≠ []->S.has a cs)/\∀ w,S.sub w->(Builtin.firstCells (Rep.n α) l.length v).run P w=.ok cs.toArray w:=by
  obtain ⟨p,cap,h1,h2,h3,h4⟩:=h
  subst h1
  rcases h4 with h4 | ⟨a,cs,h5,h6,h7,h8⟩
  · subst h4
    refine ⟨[],by simp,rfl,λ_ _ _ _ _ h=>absurd rfl h,λw _=>?_⟩
    cases p with
    | none=>simp [Builtin.firstCells]
    | some a=>simp [Builtin.firstCells,loadCells,loadCellsFrom]
  · subst h5
    refine ⟨cs,h7,h8,λp cap e a ha _=>by cases e;cases ha;exact h6,λw hs=>?_⟩
    have:=run_loadCells_list (P:=P) w a cs (λj u hu=>Frz.has_cell hs h6 hu)
    rw [h7] at this
    simpa [Builtin.firstCells] using this

section append
variable {c:Ctx} {ty:TypeId} {pos:String} {af:Array Edge} {g:Option (Nat × Bool)} {σ:St}

structure AppB (P:Program) (T U:TypeId) (n:Nat):Prop where
 sl:∃ e i z,P.underlying T=some (.slice e)/\P.info? e=some i/\i.size=n/\i.bytes <= 1024/\i.bytes ≠ 0/\i.zero=some z/\z.cells.size=n
 src:∃ e,P.underlying U=some (.slice e)

def zmy (P:Program) (T U:TypeId) (n:Nat):Bool :=
  (match P.underlying T with
   | some (.slice e)=>(match P.info? e with
     | some i=>i.size == n && Nat.ble i.bytes 1024 && i.bytes != 0 && i.zero.any (·.cells.size == n)
     | none=>false)
   | _=>false) && (match P.underlying U with | some (.slice _)=>true | _=>false)
theorem AppB.of {P:Program} {T U:TypeId} {n:Nat} (h:zmy P T U n=true):AppB P T U n:=by
 unfold zmy at h
 simp only [zBa] at h
 obtain ⟨h1,h2⟩:=h
 constructor
 ·split at h1
  ·rename_i e hu
   split at h1
   ·rename_i i hi
    simp only [zBa,beq_iff_eq,bne_iff_ne] at h1
    obtain ⟨z,hz,hz'⟩:=(Option.any_eq_true _ _).1 h1.2
    exact ⟨e,i,z,hu,hi,h1.1.1.1,Nat.le_of_ble_eq_true h1.1.1.2,h1.1.2,hz,by simpa using hz'⟩
   ·cases h1
  ·cases h1
 ·split at h2
  ·rename_i e hu;exact ⟨e,hu⟩
  ·cases h2

theorem zkp {P:Program} {T U e e':TypeId} {i:TypeInfo} {z:Value} {p q:Option Addr} {ln mn cap cap' n:Nat} {ty:TypeId} {cl cm:Array Value} {w:World}
    (hu:P.underlying T=some (.slice e)) (hu':P.underlying U=some (.slice e')) (hi:P.info? e=some i) (hsz:i.size=n) (hz:i.zero=some z) (hby0:i.bytes ≠ 0)
    (hneed:¬ ln + mn <= cap) (hbig:¬ 2 ^ 48 < Builtin.nextslicecap (ln + mn) cap * i.bytes)
    (h1:(Builtin.firstCells n ln (.slice p ln cap)).run P { w with drawn:=w.drawn + 1 }=.ok cl { w with drawn:=w.drawn + 1 })
    (h2:(Builtin.firstCells n mn (.slice q mn cap')).run P { w with drawn:=w.drawn + 1 }=.ok cm { w with drawn:=w.drawn + 1 }) :
    (Builtin.append_ #[T,U] ty #[.slice p ln cap,.slice q mn cap']).run P w =
      .ok (.slice (some ⟨w.heap.size,0,none⟩) (ln + mn) ((Question.appendCap (ln + mn) cap e).cut (w.tape w.drawn (.appendCap (ln + mn) cap e))))
        { w with drawn:=w.drawn + 1,heap:=w.heap.push (.cells (cl ++ cm ++ Builtin.zeroCells z.cells ((Question.appendCap (ln + mn) cap e).cut (w.tape w.drawn (.appendCap (ln + mn) cap e)) - (ln + mn))) e (0,0)) }:=by
  have hroom:∀ (k:Nat) (w:World),(askRoom k).run P w=.ok () w:=λk w=>by unfold askRoom;split <;> rfl
  have hch:(choose (.appendCap (ln + mn) cap e)).run P w=.ok ((Question.appendCap (ln + mn) cap e).cut (w.tape w.drawn (.appendCap (ln + mn) cap e))) { w with drawn:=w.drawn + 1 }:=by
    simp [choose,Sem.run,Question.forced]
  generalize (Question.appendCap (ln + mn) cap e).cut (w.tape w.drawn (.appendCap (ln + mn) cap e))=nc at *
  have hu1:∀ w:World,(underlying T).run P w=.ok (.slice e) w:=λw=>by simp [underlying,hu]
  have hu2:∀ w:World,(underlying U).run P w=.ok (.slice e') w:=λw=>by simp [underlying,hu']
  have hs1:∀ w:World,(sizeOf e).run P w=.ok n w:=λw=>by simp [sizeOf,typeInfo,hi,hsz]
  have ht1:∀ w:World,(typeInfo e).run P w=.ok i w:=λw=>by simp [typeInfo,hi]
  have hz1:∀ w:World,(zeroValue e).run P w=.ok z w:=λw=>by simp [zeroValue,typeInfo,hi,hz]
  have hl:∀ w:World,(Builtin.lenOf (.slice q mn cap')).run P w=.ok mn w:=λw=>rfl
  have hnr:∀ (cs:Array Value) (w:World),(newRow e cs).run P w=.ok ⟨w.heap.size,0,none⟩ { w with heap:=w.heap.push (.cells cs e (0,0)) }:=λcs w=>by simp [newRow,newObj,Sem.run]
  unfold Builtin.append_
  simp only [List.getElem?_toArray,List.getElem?_cons_zero,List.getElem?_cons_succ,Sem.run_bind,hu1,hu2,hs1,Result.andThen_ok,Sem.run_pure,hl,Bool.false_eq_true,if_false,Sem.run_ite,hneed,ht1,gt_iff_lt,hbig,hch,hroom,h1,h2,hz1,hnr,Bool.not_false,if_true]
  rw [if_neg (λh=>by rcases h.2 with h | h;exact h;exact hby0 h)]

theorem zpw {Γ:zM} {H:List Ent} {α:Type} [Rep α] {x y:Operand} {t:Tok} {l m:List α} {R1 R2:VP} {T U:TypeId} {dd:Nat} {K:St->Prop} {Hc Hr:List Ent} (hT:zmy c.P T U (Rep.n α)=true)
    (hx:zB Γ x=some R1) (hcx:∀ S v,R1.p S v->(zbK t l).p S v) (hy:zB Γ y=some R2) (hcy:∀ S v,R2.p S v->(isv m).p S v) (hH:(t=none/\Hc=[]) \/ Hc=[zO t]) (ht:zbq H Hc Hr)
    (hb:l.length + m.length <= 68719476736)
    (k:∀ t',K ⟨(dd,zbK t' (l ++ m)) :: Γ,zO t' :: Hr⟩) (hd:Nat.blt dd c.n=true:=by rfl) :
    OpT c ⟨some dd,.call ⟨.builtin .append,#[x,y],#[T,U]⟩,ty,pos,af,g⟩ ⟨Γ,H⟩ K:=by
  intro S a w next Q mm hn
  obtain ⟨⟨e,i,z,hu,hi,hsz,hby,hby0,hz,hzn⟩,e',hu'⟩:=AppB.of hT
  obtain ⟨hl,htk⟩:=hcx _ _ (zb mm hx)
  have hm:=zcs.1 (hcy _ _ (zb mm hy))
  obtain ⟨cl,hcl1,hcl2,hcl3,hcl4⟩:=ziq (P:=c.P) hl
  obtain ⟨cm,hcm1,hcm2,hcm3,hcm4⟩:=ziq (P:=c.P) hm
  obtain ⟨p,cap,ev,hcap,hmax,_⟩:=hl
  obtain ⟨q,cap',ev',hcap',hmax',_⟩:=hm
  have hcmo:∀ v ∈ cm,v.oneCell'=true:=zjK (λ_ _ h=>Rep.cell h) hcm2
  have hml:zfr=281474976710656:=rfl
  -- the call, as far as the choice
  have hrun:∀ w',(execOp a.eval ⟨some dd,.call ⟨.builtin .append,#[x,y],#[T,U]⟩,ty,pos,af,g⟩).run c.P w' =
      ((Builtin.append_ #[T,U] ty #[a.eval x,a.eval y]).run c.P w').andThen λv w'=>.ok (.value v) w':=by
    intro w'
    simp [execOp,resolve,invoke,builtin]
  have hown:=zgo mm.owns ht
  unfold Oper.wp
  rw [hrun]
  by_cases hneed:l.length + m.length <= cap
  · -- it fits
    cases t with
    | none =>
      obtain ⟨p0,e0⟩:=htk
      rw [ev] at e0
      cases e0
      have hm0:m=[]:=by cases m with | nil=>rfl | cons _ _=>exact absurd hneed (by simp)
      subst hm0
      have:(Builtin.append_ #[T,U] ty #[a.eval x,a.eval y]).run c.P w=.ok (a.eval x) w:=by
        have hst:∀ (ad:Addr),(storeCells ad ([]:List Value)).run c.P w=.ok () w:=λ_=>rfl
        have hf:=hcm4 w mm.sub
        simp only [zLn] at hf ev'
        have hcm0:cm=[]:=List.length_eq_zero_iff.1 (by rw [hcm1];simp)
        rw [hcm0] at hf
        rw [ev'] at hf
        cases p <;> simp [Builtin.append_,underlying,hu,hu',ev,ev',sizeOf,typeInfo,hi,hsz,Builtin.lenOf,hf,hst]
      rw [this]
      have hsrc:Hc=[] \/ Hc=[zO none]:=hH.imp And.right id
      have m1:=mm.step (H':=[zO none]) ht (S':=S) (w':=w) ⟨zjn.refl _ _,Grow.refl _ _ _,mm.sub⟩
        ⟨λx hx=>by simp at hx;subst hx;trivial,by simp [zbP,zO],λb hb=>by simp [zbP,zO] at hb⟩
      refine hn _ _ _ _ (Frz.le_refl _) (k none) (m1.put hd ?_)
      rw [List.append_nil]
      exact hcx _ _ (zb mm hx)
    | some t =>
      obtain ⟨b,F,C⟩:=t
      obtain ⟨off,cap0,e0,hF,hC⟩:=htk
      rw [ev] at e0
      cases e0
      have hHc:Hc=[zO (some (b,F,C))]:=by
        rcases hH with ⟨h,_⟩ | h
        · cases h
        · exact h
      subst hHc
      obtain ⟨o,ho,cs,cells,T0,hSb,hcs,ho',hCs⟩:=hown.sat _ (zMo.2 rfl)
      subst ho'
      have hfit:F + cm.length <= cells.size:=by
        rw [hcm1,<- hF]
        have:(l.length + m.length) * Rep.n α <= cap * Rep.n α:=Nat.mul_le_mul_right _ hneed
        rw [Nat.add_mul] at this
        omega
      obtain ⟨cells0,T1,fr1,hh,hpre⟩:=mm.sub b cs hSb
      rw [ho] at hh
      cases hh
      have hst:=run_storeCells_at (P:=c.P) b F T0 cm 0 cells w ho (by omega) hcmo
      have hadd:(⟨b,off,none⟩:Addr).add (l.length * Rep.n α)=⟨b,F,none⟩:=by rw [zc6,hF]
      have:(Builtin.append_ #[T,U] ty #[a.eval x,a.eval y]).run c.P w=.ok (.slice (some ⟨b,off,none⟩) (l.length + m.length) cap) (w.setRow b (cells.toList.take (F + 0) ++ cm ++ cells.toList.drop (F + 0 + cm.length)).toArray):=by
        have hf:=hcm4 w mm.sub
        rw [ev'] at hf
        simp [Builtin.append_,underlying,hu,hu',ev,ev',sizeOf,typeInfo,hi,hsz,Builtin.lenOf,hf,hneed,hadd,hst]
      rw [this]
      -- the step
      have hh':(w.setRow b (cells.toList.take (F + 0) ++ cm ++ cells.toList.drop (F + 0 + cm.length)).toArray).heap[b]?=some (.cells (cells.toList.take (F + 0) ++ cm ++ cells.toList.drop (F + 0 + cm.length)).toArray T0 (0,0)):=setRow_heap w b cells _ T0 _ ho
      have h0:∀ j,j ≠ b->(w.setRow b (cells.toList.take (F + 0) ++ cm ++ cells.toList.drop (F + 0 + cm.length)).toArray).heap[j]?=w.heap[j]?:=λj hj=>setRow_other w b j _ hj
      have htake:cells.toList.take F=cs:=by
        obtain ⟨tl,htl⟩:=hpre
        rw [<- htl,<- hcs,List.take_left]
      have hlast:cs ++ cm <+: (cells.toList.take (F + 0) ++ cm ++ cells.toList.drop (F + 0 + cm.length)):=by
        rw [Nat.add_zero,htake];exact List.prefix_append _ _
      have hstep:zkC (zbP [zO (some (b,F,C))]) S (S.put b (cs ++ cm)) w (w.setRow b (cells.toList.take (F + 0) ++ cm ++ cells.toList.drop (F + 0 + cm.length)).toArray):=by
        refine ⟨⟨rfl,rfl,rfl,by simp [World.setRow],λj _ hj=>h0 j (by simpa [zbP,zO] using hj)⟩,⟨λj d hj=>?_,λj _ hj=>?_⟩,λj d hj=>?_⟩
        · unfold Frz.put
          by_cases hjb:j=b
          · subst hjb;rw [hSb] at hj;cases hj;exact ⟨_,if_pos rfl,List.prefix_append _ _⟩
          · exact ⟨d,by rw [if_neg hjb];exact hj,List.prefix_refl _⟩
        · unfold Frz.put;rw [if_neg (by simpa [zbP,zO] using hj)]
        · unfold Frz.put at hj
          split at hj
          · cases hj
            rename_i ejb;subst ejb
            exact ⟨_,_,_,hh',by simpa using hlast⟩
          · rename_i ejb
            obtain ⟨c1,T2,f2,hh2,hp2⟩:=mm.sub j d hj
            exact ⟨c1,T2,f2,by rw [h0 j ejb];exact hh2,hp2⟩
      have m1:=mm.step (H':=[zO (some (b,F + m.length * Rep.n α,C))]) ht hstep
        (zfh ⟨_,hh',cs ++ cm,_,T0,if_pos rfl,by simp;omega,rfl,by simp;omega⟩ λb' hb'=>by simp [zO] at hb';subst hb';exact .inl (by simp [zbP,zO]))
      refine hn _ _ _ _ hstep.grow.le (k (some (b,F + m.length * Rep.n α,C))) (m1.put hd ⟨⟨_,cap,by rw [zLa],by rw [zLa];exact hneed,by rw [zLa];omega,?_⟩,off,cap,by rw [zLa],by rw [zLa,Nat.add_mul];omega,hC⟩)
      by_cases hlm:l ++ m=[]
      · exact .inl hlm
      · right
        refine ⟨⟨b,off,none⟩,cl ++ cm,rfl,?_,by rw [zLa,zLa,Nat.add_mul,hcl1,hcm1],zgp (zgc (λ_ _ h=>Rep.mono hstep.grow.le h) hcl2) (zgc (λ_ _ h=>Rep.mono hstep.grow.le h) hcm2)⟩
        refine ⟨rfl,cs ++ cm,if_pos rfl,λj u hj=>?_⟩
        show (cs ++ cm)[off + j]?=some u
        rcases Nat.lt_or_ge j cl.length with hlt | hge
        · rw [List.getElem?_append_left hlt] at hj
          have hne:l ≠ []:=by rintro rfl;simp at hcl1;rw [hcl1] at hlt;simp at hlt
          have hhas:=hcl3 _ _ ev _ rfl hne
          obtain ⟨_,c1,hc1,hv1⟩:=hhas
          rw [hSb] at hc1;cases hc1
          have h3:=hv1 j u hj
          rw [List.getElem?_append_left (List.getElem?_eq_some_iff.1 h3).1];exact h3
        · rw [List.getElem?_append_right hge] at hj
          rw [List.getElem?_append_right (by omega)]
          have:off + j - cs.length=j - cl.length:=by omega
          show cm[off + j - cs.length]?=some u
          rw [this];exact hj
  · -- it does not fit
    have hgrow:=zhT (need:=l.length + m.length) (cap:=cap) (by omega)
    have hbig:¬ 281474976710656 < Builtin.nextslicecap (l.length + m.length) cap * i.bytes:=by
      have h1:Builtin.nextslicecap (l.length + m.length) cap * i.bytes <= (2 * (l.length + m.length) + 1024) * 1024:=Nat.mul_le_mul hgrow hby
      omega
    let q0:Question:=.appendCap (l.length + m.length) cap e
    let nc:=q0.cut (w.tape w.drawn q0)
    have hnc:l.length + m.length <= nc:=Nat.le_add_right _ _
    let w1:World:={ w with drawn:=w.drawn + 1 }
    have hs1:S.sub w1:=mm.sub
    have:(Builtin.append_ #[T,U] ty #[a.eval x,a.eval y]).run c.P w=.ok (.slice (some ⟨w.heap.size,0,none⟩) (l.length + m.length) nc) { w1 with heap:=w.heap.push (.cells (cl.toArray ++ cm.toArray ++ Builtin.zeroCells z.cells (nc - (l.length + m.length))) e (0,0)) }:=by
      have hf1:=hcl4 w1 hs1
      have hf2:=hcm4 w1 hs1
      rw [ev] at hf1
      rw [ev'] at hf2
      rw [ev,ev']
      exact zkp hu hu' hi hsz hz hby0 hneed (by simpa using hbig) hf1 hf2
    rw [this]
    have hpre:cl ++ cm <+: (cl.toArray ++ cm.toArray ++ Builtin.zeroCells z.cells (nc - (l.length + m.length))).toList:=by simp
    have hzs:(Builtin.zeroCells z.cells (nc - (l.length + m.length))).size=(nc - (l.length + m.length)) * z.cells.size:=by simp [Builtin.zeroCells]
    have hsp:=zje (w:=w1) hs1 (cl.toArray ++ cm.toArray ++ Builtin.zeroCells z.cells (nc - (l.length + m.length))) e (0,0) (cl ++ cm) hpre
    have hstep:zkC [] S (S.put w.heap.size (cl ++ cm)) w { w1 with heap:=w.heap.push (.cells (cl.toArray ++ cm.toArray ++ Builtin.zeroCells z.cells (nc - (l.length + m.length))) e (0,0)) } :=
      ⟨⟨rfl,rfl,rfl,hsp.keep.size,hsp.keep.block⟩,⟨hsp.grow.le,hsp.grow.old⟩,hsp.sub⟩
    have hlc:(cl ++ cm).length=(l.length + m.length) * Rep.n α:=by rw [zLa,hcl1,hcm1,Nat.add_mul]
    have hstep':zkC (zbP Hc) S (S.put w.heap.size (cl ++ cm)) w { w1 with heap:=w.heap.push (.cells (cl.toArray ++ cm.toArray ++ Builtin.zeroCells z.cells (nc - (l.length + m.length))) e (0,0)) } :=
      ⟨⟨rfl,rfl,rfl,hsp.keep.size,λk hk _=>hsp.keep.block k hk (by simp)⟩,⟨hsp.grow.le,λb hb _=>hsp.grow.old b hb (by simp)⟩,hsp.sub⟩
    have m1:=mm.step (H':=[zO (some (w.heap.size,(l.length + m.length) * Rep.n α,nc * Rep.n α))]) ht hstep'
      (zfh ⟨.cells (cl.toArray ++ cm.toArray ++ Builtin.zeroCells z.cells (nc - (l.length + m.length))) e (0,0),by simp,cl ++ cm,_,e,if_pos rfl,hlc,rfl,by
        rw [Array.size_append,Array.size_append,List.size_toArray,List.size_toArray,hzs,hzn,<- zLa,hlc,<- Nat.add_mul]
        exact Nat.mul_le_mul_right _ (by omega)⟩ λb' hb'=>by simp [zO] at hb';subst hb';exact .inr (zNl _))
    refine hn _ _ _ _ hstep.grow.le (k (some (w.heap.size,(l.length + m.length) * Rep.n α,nc * Rep.n α))) (m1.put hd ⟨⟨_,nc,by rw [zLa],by rw [zLa];exact hnc,by rw [zLa];omega,?_⟩,0,nc,by rw [zLa],by rw [zLa,Nat.zero_add],by rw [Nat.zero_add]⟩)
    exact .inr ⟨_,cl ++ cm,rfl,⟨rfl,cl ++ cm,if_pos rfl,λj u hj=>by simpa using hj⟩,by rw [zLa (as:=l),hlc],zgp (zgc (λ_ _ h=>Rep.mono hstep.grow.le h) hcl2) (zgc (λ_ _ h=>Rep.mono hstep.grow.le h) hcm2)⟩

end append

/-! ### Equality -/
theorem zpI (x y:ByteArray):(x == y)=decide (x=y):=by
 rw [beq_toListBytes]
 by_cases h:x=y
 ·subst h;simp
 ·have:x.toList ≠ y.toList:=by
   intro e
   rw [ByteArray.toList_eq,ByteArray.toList_eq] at e
   obtain ⟨⟨a⟩⟩:=x
   obtain ⟨⟨b⟩⟩:=y
   apply h
   have e':a=b:=e
   rw [e']
  simp [h,this]

theorem Str.ba_iff (x y:Str):decide (x.ba=y.ba)=decide (x=y):=by
 by_cases h:x=y
 ·subst h;simp
 ·have:x.ba ≠ y.ba:=λe=>h (Str.ba_inj e)
  simp [h,this]

inductive zmX {α:Type} [Rep α] (P:Program):List Field->(α->α->Bool)->Prop
 | nil:zmX P [] λ_ _=>true
 | int {f : Field} {fs : List Field} {e : α → α → Bool} (L : Fld α Int) : (f.name == "_") = false → f.offset = L.off → P.underlying f.type = some (.int .i64) → zmX P fs e → zmX P (f :: fs) fun x y => decide (L.get x = L.get y) && e x y
 | bool {f : Field} {fs : List Field} {e : α → α → Bool} (L : Fld α Bool) : (f.name == "_") = false → f.offset = L.off → P.underlying f.type = some .bool → zmX P fs e → zmX P (f :: fs) fun x y => decide (L.get x = L.get y) && e x y
 | str {f : Field} {fs : List Field} {e : α → α → Bool} (L : Fld α Str) : (f.name == "_") = false → f.offset = L.off → P.underlying f.type = some .string → zmX P fs e → zmX P (f :: fs) fun x y => decide (L.get x = L.get y) && e x y

theorem zhw {P:Program} {T:TypeId} {td:TypeDesc} (hu:P.underlying T=some td) (hd:(match td with | .struct _ | .array ..=>true | _=>false)=false) {xs:Array Value} {off:Nat} {v:Value} (hv:xs[off]?=some v) (w:World) :
    (part T xs off).run P w=.ok v w:=by
  have:(isAgg T).run P w=.ok false w:=by cases td <;> simp at hd <;> simp [isAgg,underlying,hu]
  simp [part,this,hv]

theorem zfF {cs:List Value} {off:Nat} {v:Value} (h:(cs.drop off).take 1=[v]):cs[off]?=some v:=by
 have h1:((cs.drop off).take 1)[0]?=some v:=by rw [h];rfl
 rw [List.getElem?_take,if_pos (by omega),List.getElem?_drop] at h1
 simpa using h1

theorem zwo {α:Type} [Rep α] {P:Program} {fs:List Field} {e:α->α->Bool} (h:zmX P fs e) {S:Frz} {cs ds:Array Value} {x y:α} (hx:Rep.rd S cs.toList x) (hy:Rep.rd S ds.toList y) (d:Nat) (w:World) :
    (Op.eqFields (d + 1) cs ds fs).run P w=.ok (e x y) w:=by
  induction h with
  | nil=>simp [Op.eqFields]
  | int L hn ho hT _ ih =>
    rename_i f fs e _
    have hn' : f.name ≠ "_" := by intro h; rw [h] at hn; simp at hn
    have h1:=zfF (L.rget hx).1
    have h2:=zfF (L.rget hy).1
    rw [<- ho] at h1 h2
    simp only [Op.eqFields,ne_eq,hn',not_false_eq_true,if_true,Sem.run_bind,zhw hT rfl (by simpa using h1),zhw hT rfl (by simpa using h2),Result.andThen_ok,run_equalIn_int w d f.type .i64 .i64 _ _ hT]
    by_cases hb:L.get x=L.get y
    · simp [hb,ih]
    · simp [hb]
  | bool L hn ho hT _ ih =>
    rename_i f fs e _
    have hn' : f.name ≠ "_" := by intro h; rw [h] at hn; simp at hn
    have h1:=zfF (L.rget hx)
    have h2:=zfF (L.rget hy)
    rw [<- ho] at h1 h2
    simp only [Op.eqFields,ne_eq,hn',not_false_eq_true,if_true,Sem.run_bind,zhw hT rfl (by simpa using h1),zhw hT rfl (by simpa using h2),Result.andThen_ok,run_equalIn_bool' w d f.type _ _ hT]
    by_cases hb:L.get x=L.get y
    · simp [hb,ih]
    · simp [hb]
  | str L hn ho hT _ ih =>
    rename_i f fs e _
    have hn' : f.name ≠ "_" := by intro h; rw [h] at hn; simp at hn
    have h1:=zfF (L.rget hx).1
    have h2:=zfF (L.rget hy).1
    rw [<- ho] at h1 h2
    simp only [Op.eqFields,ne_eq,hn',not_false_eq_true,if_true,Sem.run_bind,zhw hT rfl (by simpa using h1),zhw hT rfl (by simpa using h2),Result.andThen_ok,run_equalIn_string w d f.type _ _ hT,<- beq_toListBytes,zpI,Str.ba_iff]
    by_cases hb:L.get x=L.get y
    · simp [hb,ih]
    · simp [hb]

def zln (P:Program) (T:TypeId) (α:Type) [Rep α] [DecidableEq α]:Prop :=
 ∀ S v u (x y:α),(isv x).p S v->(isv y).p S u->∀ X Y w,(eqGuard .eql T X Y v u).run P w=.ok () w/\(eqGuard .neq T X Y v u).run P w=.ok () w /\
  (binOp .eql T v u).run P w=.ok (.bool (decide (x=y))) w/\(binOp .neq T v u).run P w=.ok (.bool (!decide (x=y))) w

theorem zln.struct {P:Program} {T:TypeId} {α:Type} [Rep α] [DecidableEq α] {fs:Array Field} {e:α->α->Bool} (ha:Rep.agg α=true) (hu:P.underlying T=some (.struct fs)) (hg:P.eqGuardType P.depth T=false) (hs:P.stoodInHeld T=false)
    (he:zmX P fs.toList e) (hd:∀ x y,e x y=decide (x=y)):zln P T α:=by
  intro S v u x y hx hy X Y w
  obtain ⟨cs,rfl,h1⟩:=znv hx ha
  obtain ⟨ds,rfl,h2⟩:=znv hy ha
  have hf:P.fieldsOf T=fs:=by simp [Program.fieldsOf,hu]
  have hr:(Op.equal T (.agg cs) (.agg ds)).run P w=.ok (decide (x=y)) w:=by
    unfold Op.equal Op.maxDepth
    rw [run_equalIn_struct w 9999 T cs ds (by rw [hf];exact hu) hs,hf,zwo he h1 h2,hd]
  refine ⟨?_,?_,?_,?_⟩
  · simp [eqGuard,hg]
  · simp [eqGuard,hg]
  · simp [binOp,hr]
  · simp [binOp,hr]

theorem zln.str {P:Program} {T:TypeId}:zln P T Str:=by
 intro S v u x y hx hy X Y w
 obtain ⟨h1,_⟩:=zdv.1 hx
 obtain ⟨h2,_⟩:=zdv.1 hy
 subst h1;subst h2
 have hb:(x.ba.toList == y.ba.toList)=decide (x=y):=by rw [<- beq_toListBytes,zpI,Str.ba_iff]
 refine ⟨by simp [eqGuard],by simp [eqGuard],?_,?_⟩
 ·simp only [binOp,Op.stringOp,Sem.run_pure,hb]
 ·simp only [binOp,Op.stringOp,Sem.run_pure,hb]

theorem zln.u8 {P:Program} {T:TypeId}:zln P T UInt8:=by
 intro S v u x y hx hy X Y w
 have h1:=zbS.1 hx
 have h2:=zbS.1 hy
 subst h1;subst h2
 have hb:((x.toNat:Int) == (y.toNat:Int))=decide (x=y):=by
  by_cases h:x=y
  ·simp [h]
  ·have:x.toNat ≠ y.toNat:=λe=>h (UInt8.toNat_inj.1 e)
   simp [h];omega
 refine ⟨by simp [eqGuard],by simp [eqGuard],?_,?_⟩
 ·simp only [binOp,Op.intCmp,Sem.run_pure,hb,ne_eq,not_true,if_false]
 ·have hb':((x.toNat:Int) != (y.toNat:Int))=!decide (x=y):=by rw [bne,hb]
  simp only [binOp,Op.intCmp,Sem.run_pure,hb',ne_eq,not_true,if_false]

section ops
variable {c:Ctx} {d:Option Nat} {ty:TypeId} {pos:String} {af:Array Edge} {g:Option (Nat × Bool)} {σ:St}

theorem zzY {α:Type} [Rep α] [DecidableEq α] {x y:Operand} {p q:α} {T U:TypeId} (he:zln c.P T α) (hx:zB σ.Γ x=some (isv p)) (hy:zB σ.Γ y=some (isv q)) :
    OpV c ⟨d,.binOp .eql T x y U,ty,pos,af,g⟩ σ (isv (decide (p=q))):=λS a w m=>by
  have h:=he S _ _ p q (zb m hx) (zb m hy) x y
  exact ⟨_,zbO.2 rfl,λw' _=>by simp [execOp,(h w').1,(h w').2.2.1]⟩
theorem zzX {α:Type} [Rep α] [DecidableEq α] {x y:Operand} {p q:α} {T U:TypeId} (he:zln c.P T α) (hx:zB σ.Γ x=some (isv p)) (hy:zB σ.Γ y=some (isv q)) :
    OpV c ⟨d,.binOp .neq T x y U,ty,pos,af,g⟩ σ (isv (!decide (p=q))):=λS a w m=>by
  have h:=he S _ _ p q (zb m hx) (zb m hy) x y
  exact ⟨_,zbO.2 rfl,λw' _=>by simp [execOp,(h w').2.1,(h w').2.2.2]⟩

/-! ### Structs -/
theorem zw7 {α β:Type} [Rep α] [Rep β] {x:Operand} {y:α} {T f:Nat} (L:Fld α β) (ha:Rep.agg α=true) (hf:zfw c.P T f L.off (Rep.n β) (Rep.agg β)=true) (hx:zB σ.Γ x=some (isv y)) :
    OpV c ⟨d,.field T x f,ty,pos,af,g⟩ σ (isv (L.get y)):=λS a w m=>by
  obtain ⟨cs,h1,h2⟩:=znv (zb m hx) ha
  obtain ⟨fs,fd,hu,hfd,hoff,hn,ht⟩:=zfw.spec hf
  have hr:=L.rget h2
  cases hb:Rep.agg β with
  | true =>
    refine ⟨.agg (cs.extract L.off (L.off + Rep.n β)),ziC hb ?_,λw' _=>?_⟩
    · rw [Array.toList_extract,List.extract_eq_take_drop]
      rw [show L.off + Rep.n β - L.off=Rep.n β from by omega]
      exact hr
    · simp [execOp,h1,Instr.field,underlying,hu,hfd,asAgg,part,TyB.isAgg ht,TyB.size ht,hb,hoff]
  | false =>
    have hlen:=Rep.len hr
    rw [Rep.one hb] at hlen hr
    obtain ⟨u,hu1⟩:=List.length_eq_one_iff.1 hlen
    rw [hu1] at hr
    have h3:=zfF hu1
    refine ⟨u,ze8 hb hr,λw' _=>?_⟩
    have h4:cs[L.off]?=some u:=by simpa using h3
    simp [execOp,h1,Instr.field,underlying,hu,hfd,asAgg,part,TyB.isAgg ht,hb,hoff,h4]

inductive zn4 {α:Type} [Rep α] (P:Program) (T:TypeId) (Γ:zM):α->List (Nat × Operand)->α->Prop
  | nil {x:α}:zn4 P T Γ x [] x
  | cons {β:Type} [Rep β] {x z:α} {y:β} {f:Nat} {o:Operand} {R:VP} {rest:List (Nat × Operand)} (L:Fld α β):zfw P T f L.off (Rep.n β) (Rep.agg β)=true->zB Γ o=some R->(∀ S v,R.p S v->(isv y).p S v) ->
      zn4 P T Γ (L.set x y) rest z->zn4 P T Γ x ((f,o) :: rest) z
def zm2 (P:Program) (T:TypeId):Bool :=
 match P.underlying T with
 | some (.struct fs)=>fs.toList.all λf=>(P.info? f.type).isSome
 | _=>false

theorem zn1 (off:Nat):∀ (vs:List Value) (k:Nat) (cells:Array Value),off + k + vs.length <= cells.size ->
    ((vs.zipIdx k).foldl (λcs (x:Value × Nat)=>cs.setIfInBounds (off + x.2) x.1) cells)=(cells.toList.take (off + k) ++ vs ++ cells.toList.drop (off + k + vs.length)).toArray
  | [],k,cells,_=>by simp
  | v :: vs,k,cells,h=>by
    simp only [zLc] at h
    rw [List.zipIdx_cons,List.foldl_cons,zn1 off vs (k + 1) _ (by simp;omega)]
    apply Array.ext'
    simp only [Array.toList_setIfInBounds,zLc]
    have e1:(cells.toList.set (off + k) v).take (off + (k + 1))=cells.toList.take (off + k) ++ [v]:=by
      rw [<- Nat.add_assoc,List.take_succ_eq_append_getElem (by simp;omega),List.take_set,List.set_eq_of_length_le (by simp;omega)]
      simp
    have e2:(cells.toList.set (off + k) v).drop (off + (k + 1) + vs.length)=cells.toList.drop (off + k + (vs.length + 1)):=by
      rw [List.drop_set_of_lt (by omega)]
      congr 1
      omega
    rw [e1,e2]
    simp

theorem zuc {P:Program} {fs:List Field} (h:fs.all (λf=>(P.info? f.type).isSome)=true) (w:World) :
    (fs.mapM λf=>(do pure (f.offset,<- sizeOf f.type):Sem (Nat × Nat))).run P w=.ok (fs.map λf=>(f.offset,P.cellsOf f.type)) w:=by
  induction fs with
  | nil=>simp
  | cons f fs ih =>
    simp only [List.all_cons,zBa] at h
    obtain ⟨i,hi⟩:=Option.isSome_iff_exists.1 h.1
    have h0:(sizeOf f.type).run P w=.ok (P.cellsOf f.type) w:=by simp [sizeOf,typeInfo,hi,Program.cellsOf]
    have ih':=ih h.2
    simp only [List.mapM_cons,Sem.run_bind,h0,Result.andThen_ok,Sem.run_pure,ih',List.map_cons]

theorem zn4.run {α:Type} [Rep α] {P:Program} {T:TypeId} {fs:Array Field} (hu:P.underlying T=some (.struct fs)) {a:Act} {S:Frz} {σ:St} {c:Ctx} {w:World} (m:za6 c σ S a w) {x z:α} {parts:List (Nat × Operand)} (h:zn4 P T σ.Γ x parts z)
    {cells:Array Value} (hr:Rep.rd S cells.toList x):∃ out:Array Value,Instr.fill ((fs.map λf=>(f.offset,P.cellsOf f.type))[·]?) cells (parts.map λp=>(p.1,a.eval p.2))=some out/\Rep.rd S out.toList z:=by
  induction h generalizing cells with
  | nil=>exact ⟨cells,rfl,hr⟩
  | @cons β _ x z y f o R rest L hf ho himp _ ih =>
    obtain ⟨fs',fd,hu',hfd,hoff,hn,ht⟩:=zfw.spec hf
    rw [hu] at hu'
    cases hu'
    have hv:=himp _ _ (zb m ho)
    have hlen:=Rep.len hv.2
    have hfit:=L.fits
    have hcs:=Rep.len hr
    have hset:=L.rset hr hv.2
    have hsz:P.cellsOf fd.type=(a.eval o).cells.size:=by
      have:=TyB.size ht w
      unfold TyB at ht
      simp only [zBa,beq_iff_eq] at ht
      cases hi:P.info? fd.type with
      | none=>rw [hi] at ht;simp at ht
      | some i=>rw [hi] at ht;simp at ht;simp [Program.cellsOf,hi,ht.1];simpa using hlen.symm
    obtain ⟨out,h1,h2⟩:=ih (cells:=(cells.toList.take L.off ++ (a.eval o).cells.toList ++ cells.toList.drop (L.off + Rep.n β)).toArray) (by simpa using hset)
    refine ⟨out,?_,h2⟩
    simp only [List.map_cons,Instr.fill]
    have hp:(fs.map λf=>(f.offset,P.cellsOf f.type))[f]?=some (L.off,(a.eval o).cells.size):=by
      rw [Array.getElem?_map,hfd];simp [hoff,hsz]
    rw [hp]
    simp only
    rw [if_neg (by simp at hcs hlen ⊢;omega)]
    have hfold:(a.eval o).cells.zipIdx.foldl (λcs (x:Value × Nat)=>cs.setIfInBounds (L.off + x.2) x.1) cells=(cells.toList.take L.off ++ (a.eval o).cells.toList ++ cells.toList.drop (L.off + Rep.n β)).toArray:=by
      rw [<- Array.foldl_toList,Array.toList_zipIdx,zn1 L.off _ 0 cells (by simp at hcs hlen ⊢;omega),Nat.add_zero,hlen]
    have:(a.eval o).cells.zipIdx.foldl (λcs (x:Value × Nat)=>match x with | (c,j)=>cs.setIfInBounds (L.off + j) c) cells=(a.eval o).cells.zipIdx.foldl (λcs (x:Value × Nat)=>cs.setIfInBounds (L.off + x.2) x.1) cells:=rfl
    rw [this,hfold]
    exact h1

theorem zj5 {α:Type} [Rep α] {T:TypeId} {parts:Array (Nat × Operand)} {x z:α} (ha:Rep.agg α=true) (hB:zm2 c.P T=true) (hz:ze2 c.P T x) (hb:zn4 c.P T σ.Γ x parts.toList z) :
    OpV c ⟨d,.build T parts,ty,pos,af,g⟩ σ (isv z):=λS a w m=>by
  obtain ⟨fs,hu,hall⟩:∃ fs,c.P.underlying T=some (.struct fs)/\fs.toList.all (λf=>(c.P.info? f.type).isSome)=true:=by
    unfold zm2 at hB
    split at hB
    · rename_i fs hu;exact ⟨fs,hu,hB⟩
    · cases hB
  obtain ⟨i,zv,hi,hzv,hzr⟩:=hz
  obtain ⟨zc,rfl,hzc⟩:=znv (hzr S) ha
  obtain ⟨out,h1,h2⟩:=hb.run hu m hzc
  refine ⟨.agg out,ziC ha h2,λw' _=>?_⟩
  have hz1:(zeroValue T).run c.P w'=.ok (.agg zc) w':=by simp [zeroValue,typeInfo,hi,hzv]
  have hm:=zuc hall w'
  have e1:(parts.map λx=>match x with | (i,x)=>(i,a.eval x)).toList=parts.toList.map λp=>(p.1,a.eval p.2):=by cases parts;simp
  simp only [execOp,Instr.build,Sem.run_bind,hz1,Result.andThen_ok,underlying,run_program,hu,Sem.run_pure,Array.mapM_eq_mapM_toList,Sem.run_map,hm]
  have e2:(List.map (λf=>(f.offset,c.P.cellsOf f.type)) fs.toList).toArray=fs.map λf=>(f.offset,c.P.cellsOf f.type):=by cases fs;simp
  rw [e2]
  simp only [Value.cells]
  rw [e1,h1]
  simp

end ops

inductive zm7 {α:Type} [Rep α] (Γ:zM):Nat->List (Nat × Operand)->List α->Prop
 | nil {k:Nat}:zm7 Γ k [] []
 | cons {k:Nat} {o:Operand} {R:VP} {y:α} {parts:List (Nat × Operand)} {l:List α}:zB Γ o=some R->(∀ S v,R.p S v->(isv y).p S v)->zm7 Γ (k + 1) parts l->zm7 Γ k ((k,o) :: parts) (y :: l)
theorem zm7.fill {α:Type} [Rep α] {a:Act} {S:Frz} {σ:St} {c:Ctx} {w:World} (m:za6 c σ S a w) {k:Nat} {parts:List (Nat × Operand)} {l:List α} (h:zm7 σ.Γ k parts l) {cells:Array Value} {pre:List Value}
    (hp:cells.toList.take (k * Rep.n α)=pre) (hs:cells.size=(k + l.length) * Rep.n α) :
    ∃ out:Array Value,∃ cs,Instr.fill (λi=>some (i * Rep.n α,Rep.n α)) cells (parts.map λp=>(p.1,a.eval p.2))=some out/\out.toList=pre ++ cs/\cs.length=l.length * Rep.n α/\rdL (Rep.rd S) l cs:=by
  induction h generalizing cells pre with
  | nil=>exact ⟨cells,[],rfl,by rw [List.append_nil,<- hp,zTl (by simp at hs ⊢;omega)],by simp,rfl⟩
  | @cons k o R y parts l ho himp _ ih =>
    have hv:=himp _ _ (zb m ho)
    have hlen:=Rep.len hv.2
    have hlen':(a.eval o).cells.size=Rep.n α:=by simpa using hlen
    have hsz:cells.size=k * Rep.n α + Rep.n α + l.length * Rep.n α:=by rw [hs,zLc,Nat.add_mul,Nat.add_mul];omega
    have hfold:=zn1 (k * Rep.n α) (a.eval o).cells.toList 0 cells (by rw [hlen];omega)
    rw [Nat.add_zero,hlen] at hfold
    have hk1:(k + 1) * Rep.n α=k * Rep.n α + Rep.n α:=by rw [Nat.add_mul,Nat.one_mul]
    have hpl:pre.length=k * Rep.n α:=by rw [<- hp,zLt];simp;omega
    obtain ⟨out,cs,h1,h2,h3,h4⟩:=ih (cells:=(cells.toList.take (k * Rep.n α) ++ (a.eval o).cells.toList ++ cells.toList.drop (k * Rep.n α + Rep.n α)).toArray) (pre:=pre ++ (a.eval o).cells.toList)
      (by rw [hk1,hp];simp only;rw [List.take_append_of_le_length (by simp [hpl,hlen'])];exact zTl (by simp [hpl,hlen']))
      (by rw [Nat.add_mul,hk1];simp [hlen'];omega)
    refine ⟨out,(a.eval o).cells.toList ++ cs,?_,by rw [h2,zLA],by rw [zLa,hlen,h3,zLc,Nat.add_mul];omega,⟨_,_,rfl,hv.2,h4⟩⟩
    simp only [List.map_cons,Instr.fill]
    rw [if_neg (by simp [hlen'];omega)]
    have e:(a.eval o).cells.zipIdx.foldl (λcs (x:Value × Nat)=>match x with | (c,j)=>cs.setIfInBounds (k * Rep.n α + j) c) cells=(cells.toList.take (k * Rep.n α) ++ (a.eval o).cells.toList ++ cells.toList.drop (k * Rep.n α + Rep.n α)).toArray:=by
      rw [<- hfold,<- Array.foldl_toList,Array.toList_zipIdx]
    rw [e]
    exact h1

def arrE {α:Type} [Rep α] (b:Nat) (l:List α):Ent where
  k:=some b
  φ := { p:=λb S o=>S b=none/\∃ cs T,o=.cells cs T (0,0)/\rdL (Rep.rd S) l cs.toList
         mono:=λh hb ⟨h1,cs,T,e,h2⟩=>⟨hb ▸ h1,cs,T,e,zgc (λ_ _=>Rep.mono h) h2⟩ }
def arrv (b n cap:Nat):VP where
 p:=λ_ v=>v=.slice (some ⟨b,0,none⟩) n cap
 mono:=λ_ h=>h
section ops
variable {c:Ctx} {ty:TypeId} {pos:String} {af:Array Edge} {g:Option (Nat × Bool)} {σ:St}

structure ElB (P:Program) (T:TypeId) (n:Nat):Prop where
 sl:∃ e i z,P.underlying T=some (.slice e)/\P.info? e=some i/\i.size=n/\i.bytes <= 1024/\i.zero=some z/\z.cells.size=n
def elB (P:Program) (T:TypeId) (n:Nat):Bool :=
 match P.underlying T with
 | some (.slice e)=>(match P.info? e with
  | some i=>i.size == n && Nat.ble i.bytes 1024 && i.zero.any (·.cells.size == n)
  | none=>false)
 | _=>false
theorem ElB.of {P:Program} {T:TypeId} {n:Nat} (h:elB P T n=true):ElB P T n:=by
 unfold elB at h
 constructor
 split at h
 ·rename_i e hu
  split at h
  ·rename_i i hi
   simp only [zBa,beq_iff_eq] at h
   obtain ⟨z,hz,hz'⟩:=(Option.any_eq_true _ _).1 h.2
   exact ⟨e,i,z,hu,hi,h.1.1,Nat.le_of_ble_eq_true h.1.2,hz,by simpa using hz'⟩
  ·cases h
 ·cases h

theorem zcj {Γ:zM} {H:List Ent} {α:Type} [Rep α] {T:TypeId} {len:Nat} {parts:Array (Nat × Operand)} {l:List α} {dd:Nat} {K:St->Prop} (hT:elB c.P T (Rep.n α)=true) (he:zm7 Γ 0 parts.toList l) (hl:l.length=len) (hmax:(Nat.ble (len * Rep.n α) 16777216 && Nat.ble len 16777216)=true)
    (k:K ⟨(dd,zbK none l) :: Γ,H⟩) (hd:Nat.blt dd c.n=true:=by rfl):OpT c ⟨some dd,.buildSlice T len parts,ty,pos,af,g⟩ ⟨Γ,H⟩ K:=by
  intro S a w next Q m hn
  obtain ⟨e,i,z,hu,hi,hsz,hby,hz,hzn⟩:=(ElB.of hT).sl
  rw [zBa] at hmax
  have hmax':=Nat.le_of_ble_eq_true hmax.1
  have hmax2:=Nat.le_of_ble_eq_true hmax.2
  subst hl
  obtain ⟨out,cs,h1,h2,h3,h4⟩:=he.fill m (cells:=(Array.range (l.length * Rep.n α)).map (z.cells[· % z.cells.size]!)) (pre:=[]) (by simp) (by simp)
  rw [List.nil_append] at h2
  have hrun:(execOp a.eval ⟨some dd,.buildSlice T l.length parts,ty,pos,af,g⟩).run c.P w=.ok (.value (.slice (some ⟨w.heap.size,0,none⟩) l.length l.length)) { w with heap:=w.heap.push (.cells out e (0,0)) }:=by
    have e1:(parts.map λx=>match x with | (i,x)=>(i,a.eval x)).toList=parts.toList.map λp=>(p.1,a.eval p.2):=by cases parts;simp
    have hnb:¬ 2 ^ 24 < l.length * Rep.n α:=by omega
    by_cases h0:l.length * Rep.n α=0
    · have hz0:(Array.range 0).map (z.cells[· % z.cells.size]!)=#[]:=by simp
      rw [h0,hz0] at h1
      simp only [execOp,Instr.buildSlice,underlying,run_program,Sem.run_bind,hu,Sem.run_pure,Result.andThen_ok,sizeOf,typeInfo,hi,hsz,h0,e1]
      rw [if_neg (by omega)]
      have hz2:(Array.map (λ_=>(default:Value)) (Array.range 0))=#[]:=by simp
      simp [hz2,h1,newRow,newObj,Sem.run]
    · simp only [execOp,Instr.buildSlice,underlying,run_program,Sem.run_bind,hu,Sem.run_pure,Result.andThen_ok,sizeOf,typeInfo,hi,hsz,Sem.run_ite,gt_iff_lt,hnb,if_false,h0,e1]
      simp [zeroValue,typeInfo,hi,hz,h1,newRow,newObj,Sem.run]
  unfold Oper.wp
  rw [hrun]
  have hst:=zje (w:=w) m.sub out e (0,0) cs (by rw [h2];exact List.prefix_refl _)
  have m1:=m.step (Hc:=[]) (H':=[]) .nil hst (zff _ _ _ _)
  have hml:zfr=281474976710656:=rfl
  refine hn _ _ _ _ hst.grow.le k (m1.put hd ⟨⟨_,_,rfl,zNl _,?_,?_⟩,_,rfl⟩)
  · omega
  · exact .inr ⟨_,cs,rfl,⟨rfl,cs,if_pos rfl,λj u hj=>by simpa using hj⟩,h3,zgc (λ_ _ h=>Rep.mono hst.grow.le h) h4⟩

theorem zkH (z:Array Value) (k:Nat):((Array.range (k * z.size)).map (z[· % z.size]!)).toList=(List.replicate k z.toList).flatten:=by
 induction k with
 | zero=>simp
 | succ k ih =>
  have e:Array.range ((k + 1) * z.size)=Array.range (k * z.size) ++ (Array.range z.size).map (k * z.size + ·):=by
   rw [Nat.add_mul,Nat.one_mul]
   apply Array.ext'
   simp [List.range_add]
  rw [e,Array.map_append,Array.toList_append,ih,List.replicate_succ',List.flatten_append]
  congr 1
  simp only [Array.map_map,Array.toList_map,Array.toList_range,List.flatten_cons,List.flatten_nil,List.append_nil]
  apply List.ext_getElem
  ·simp
  ·intro j h1 h2
   simp at h1 h2
   simp [Nat.mod_eq_of_lt h1,h1,Nat.mul_comm k]

theorem zlB {α:Type} {r:List Value->α->Prop} {x:α} {cs:List Value} (h:r cs x):∀ k,rdL r (List.replicate k x) ((List.replicate k cs).flatten)
 | 0=>rfl
 | k + 1=>⟨cs,(List.replicate k cs).flatten,by rw [List.replicate_succ,List.flatten_cons],h,zlB h k⟩

theorem zoT {P:Program} {T e:TypeId} {i:TypeInfo} {z:Value} {l k:Int} (hu:P.underlying T=some (.slice e)) (hi:P.info? e=some i) (hz:i.zero=some z) (hzn:z.cells.size=i.size) (hby:i.bytes <= 1024)
    (h0:0 <= l) (h1:l <= k) (h2:k <= 68719476736) (w:World) :
    (Instr.makeSlice T (.int .i64 l) (.int .i64 k)).run P w=.ok (.slice (some ⟨w.heap.size,0,none⟩) l.toNat k.toNat) { w with heap:=w.heap.push (.cells (List.replicate k.toNat z.cells.toList).flatten.toArray e (0,0)) }:=by
  have hroom:∀ (k:Nat) (w:World),(askRoom k).run P w=.ok () w:=λk w=>by unfold askRoom;split <;> rfl
  have hw1:IntKind.i64.wrap l=l:=zfz (by unfold zc3;omega)
  have hw2:IntKind.i64.wrap k=k:=zfz (by unfold zc3;omega)
  have hb:¬ (i.bytes:Int) * k > 2 ^ 48:=by
    have:(i.bytes:Int) * k <= 1024 * 68719476736:=Int.mul_le_mul (by omega) h2 (by omega) (by omega)
    omega
  have hk:¬ k < 0:=by omega
  have hl:¬ l < 0:=by omega
  have hlk:¬ l > k:=by omega
  have hcells:(Array.range (k.toNat * i.size)).map ((if k.toNat * i.size=0 then (#[]:Array Value) else z.cells)[· % (if k.toNat * i.size=0 then (#[]:Array Value) else z.cells).size]!)=(List.replicate k.toNat z.cells.toList).flatten.toArray:=by
    apply Array.ext'
    rw [<- hzn]
    by_cases hn:k.toNat * z.cells.size=0
    · rw [if_pos hn,hn]
      have:=zkH z.cells k.toNat
      rw [hn] at this
      rw [<- this];simp
    · rw [if_neg hn]
      simpa using zkH z.cells k.toNat
  unfold Instr.makeSlice
  simp only [underlying,run_program,Sem.run_bind,hu,Sem.run_pure,Result.andThen_ok,asInt,asIntOf,typeInfo,hi,hw1,hw2,hk,hl,hlk,hb,decide_false,Bool.or_false,Bool.false_eq_true,if_false,hroom,sizeOf]
  by_cases hn:k.toNat * i.size=0
  · rw [if_pos hn] at hcells ⊢
    have hc2:Array.map (λ_=>(default:Value)) (Array.range (k.toNat * i.size))=(List.replicate k.toNat z.cells.toList).flatten.toArray:=by rw [<- hcells];rw [hn];simp
    simp [hc2,newRow,newObj,Sem.run]
  · rw [if_neg hn] at hcells ⊢
    simp [zeroValue,typeInfo,hi,hz,hcells,newRow,newObj,Sem.run]

theorem zuo {Γ:zM} {H:List Ent} {α:Type} [Rep α] {x y:Operand} {T:TypeId} {p q:Int} {z0:α} {dd e:Nat} {K:St->Prop} (hT:elB c.P T (Rep.n α)=true) (hz0:ze2 c.P e z0) (he:c.P.underlying T=some (.slice e)) (hx:zB Γ x=some (isv p)) (hy:zB Γ y=some (isv q)) (h0:0 <= p) (hpq:p <= q) (h1:q <= 68719476736)
    (k:∀ b,K ⟨(dd,arrv b p.toNat q.toNat) :: Γ,arrE b (List.replicate q.toNat z0) :: H⟩) (hd:Nat.blt dd c.n=true:=by rfl):OpT c ⟨some dd,.makeSlice T x y,ty,pos,af,g⟩ ⟨Γ,H⟩ K:=by
  intro S a w next Q m hn
  obtain ⟨e',i,z,hu,hi,hsz,hby,hz,hzn⟩:=(ElB.of hT).sl
  rw [he] at hu
  cases hu
  obtain ⟨i',z',hi',hz',hzr⟩:=hz0
  rw [hi] at hi';cases hi'
  rw [hz] at hz';cases hz'
  obtain ⟨e1,_⟩:=zah.1 (zb m hx)
  obtain ⟨e2,_⟩:=zah.1 (zb m hy)
  have hrun:(execOp a.eval ⟨some dd,.makeSlice T x y,ty,pos,af,g⟩).run c.P w=.ok (.value (.slice (some ⟨w.heap.size,0,none⟩) p.toNat q.toNat)) { w with heap:=w.heap.push (.cells (List.replicate q.toNat z.cells.toList).flatten.toArray e (0,0)) }:=by
    simp only [execOp,Sem.run_bind,e1,e2,zoT he hi hz (by rw [hzn,hsz]) hby h0 hpq h1 w,Result.andThen_ok,Sem.run_pure]
  unfold Oper.wp
  rw [hrun]
  have hst:=zig (w:=w) m.sub (.cells (List.replicate q.toNat z.cells.toList).flatten.toArray e (0,0))
  have m1:=m.step (Hc:=[]) (H':=[arrE w.heap.size (List.replicate q.toNat z0)]) .nil hst
    (zfh ⟨.cells (List.replicate q.toNat z.cells.toList).flatten.toArray e (0,0),by simp,zgI m.sub,_,e,rfl,by
      simpa using zlB (r:=Rep.rd S) (hzr S).2 q.toNat⟩ λb' hb'=>by simp [arrE] at hb';subst hb';exact .inr (zNl _))
  exact hn _ _ _ _ (Frz.le_refl _) (k w.heap.size) (m1.put hd rfl)

theorem ztD {α:Type} {r:List Value->α->Prop} {n:Nat} (hn:∀ cs x,r cs x->cs.length=n):∀ {l:List α} {cs ds:List Value} {i:Nat} {y:α},rdL r l cs->i < l.length->r ds y->rdL r (l.set i y) (cs.take (i * n) ++ ds ++ cs.drop (i * n + n))
 | [],_,_,_,_,_,h,_=>by simp at h
 | x :: l,_,ds,0,y,⟨c1,c2,e,k1,k2⟩,_,hy=>by
  subst e
  have h1:=hn _ _ k1
  refine ⟨ds,c2,?_,hy,k2⟩
  rw [Nat.zero_mul,List.take_zero,List.nil_append,Nat.zero_add,<- h1,List.drop_left]
 | x :: l,_,ds,i + 1,y,⟨c1,c2,e,k1,k2⟩,h,hy=>by
  subst e
  have h1:=hn _ _ k1
  refine ⟨c1,_,?_,k1,ztD hn k2 (by simpa using h) hy⟩
  have e1:(c1 ++ c2).take ((i + 1) * n)=c1 ++ c2.take (i * n):=by
   rw [Nat.add_mul,Nat.one_mul,Nat.add_comm,List.take_append,h1,zTl (by omega)]
   congr 2
   omega
  have e2:(c1 ++ c2).drop ((i + 1) * n + n)=c2.drop (i * n + n):=by
   rw [Nat.add_mul,Nat.one_mul,show i * n + n + n=n + (i * n + n) from by omega,<- List.drop_drop,<- h1,List.drop_left]
  rw [e1,e2]
  simp only [zLA]

end ops

section orders
variable {P:Program} {ops:Array Oper} {md:Region.Mode}

theorem zm4 {o:Oper} {a:Act} {N N':Act->World->Prop} {Q Q':Exit->Act->World->Prop} (hn:∀ a w,N a w->N' a w) (hq:∀ e a w,Q e a w->Q' e a w) {r:Result Next} (h:o.upon P a N Q r):o.upon P a N' Q' r:=by
 cases r with
 | ok n w =>
  cases n <;> simp only [Oper.upon] at h ⊢
  case value v=>exact hn _ _ h
  case skip=>exact hn _ _ h
  case enter f args =>
   refine h.mono λe w' he=>?_
   cases e with
   | returned v=>exact hn _ _ he
   | panicked c=>exact hq _ _ _ he
   | outgrown=>obtain ⟨a,w,h⟩:=he;exact ⟨a,w,hq _ _ _ h⟩
  case defer d=>exact hn _ _ h
  case row r as=>exact h.mono λv w' hv=>hn _ _ hv
 | halt x w =>
  cases x <;> simp only [Oper.upon] at h ⊢
  exact hq _ _ _ h

theorem zvz {o:Oper} {a:Act} {N:Act->World->Prop} {d:Option Tmp} {v:Value} (hc:∀ d',d=some d'->o.dst ≠ some d') {r:Result Next}
    (h:o.upon P (a.put d v) N (λ_ _ _=>False) r):o.upon P a (λa' w'=>N (a'.put d v) w') (λ_ _ _=>False) r:=by
  have hput:∀ u,(a.put d v).put o.dst u=(a.put o.dst u).put d v:=λu=>Act.put_comm a v u hc
  cases r with
  | ok n w =>
    cases n <;> simp only [Oper.upon] at h ⊢
    case value u=>rw [<- hput];exact h
    case skip=>rw [<- hput];exact h
    case enter f args =>
      refine h.mono λe w' he=>?_
      cases e with
      | returned u=>show N _ _;rw [<- hput];exact he
      | panicked c=>exact he
      | outgrown=>exact he
    case defer dd =>
      have:(({ a with defers:=dd :: a.defers }:Act).put o.dst undef).put d v=({ a.put d v with defers:=dd :: (a.put d v).defers }:Act).put o.dst undef:=by
        have e1:({ a.put d v with defers:=dd :: (a.put d v).defers }:Act)=({ a with defers:=dd :: a.defers }:Act).put d v:=by cases d <;> rfl
        rw [e1,Act.put_comm _ v undef hc]
      rw [this];exact h
    case row r as=>refine h.mono λu w' hu=>?_;rw [<- hput];exact hu
  | halt x w =>
    cases x <;> simp only [Oper.upon] at h ⊢

def zg6 (P:Program) (ops:Array Oper) (C:World->Prop) (i:Nat) (K:Act->World->Prop) (a:Act) (w:World):Prop :=
 match ops[i]? with
 | none=>K a w
 | some o=>if Region.wanted o (yielded ops a.tmps) then o.wp P a w (λa' w'=>C w'/\K a' w') (λ_ _ _=>False) else K (a.put o.dst undef) w

def ziF (P:Program) (md:Region.Mode) (ops:Array Oper) (C:World->Prop) (Q:Act->World->Prop):Nat->Array Bool->Act->World->Prop
 | 0,listed,a,w=>Region.ready md ops listed=[]/\Q a w
 | fuel + 1,listed,a,w=>(Region.ready md ops listed=[]->Q a w)/\∀ i ∈ Region.ready md ops listed,zg6 P ops C i (ziF P md ops C Q fuel (listed.setIfInBounds i true)) a w

theorem zgr {C C':World->Prop} {i:Nat} {K K':Act->World->Prop} {a:Act} {w:World} (hC:∀ w,C w->C' w) (hK:∀ a w,K a w->K' a w) (h:zg6 P ops C i K a w):zg6 P ops C' i K' a w:=by
 unfold zg6 at *
 split
 ·rename_i ho;simp only [ho] at h;exact hK _ _ h
 ·rename_i o ho
  simp only [ho] at h
  split
  ·rename_i hw;rw [if_pos hw] at h;exact zm4 (λa w ⟨h1,h2⟩=>⟨hC _ h1,hK _ _ h2⟩) (λ_ _ _ h=>h) h
  ·rename_i hw;rw [if_neg hw] at h;exact hK _ _ h

theorem zgJ {C C':World->Prop} {Q:Act->World->Prop} (hC:∀ w,C w->C' w):∀ (fuel:Nat) (listed:Array Bool) (a:Act) (w:World),ziF P md ops C Q fuel listed a w->ziF P md ops C' Q fuel listed a w
 | 0,_,_,_,h=>h
 | fuel + 1,_,_,_,h=>⟨h.1,λi hi=>zgr hC (λa w h=>zgJ hC fuel _ a w h) (h.2 i hi)⟩

theorem zka {C:World->Prop} {Q:Act->World->Prop} {Q':Exit->Act->World->Prop} (hQ:∀ a w,Q a w->Q' .normal a w):∀ (fuel:Nat) (listed:Array Bool) (a:Act) (w:World),ziF P md ops C Q fuel listed a w->wpAny P md ops Q' fuel listed a w
  | 0,_,_,_,h=>⟨h.1,hQ _ _ h.2⟩
  | fuel + 1,_,a,w,h=>⟨λh0=>hQ _ _ (h.1 h0),λi hi=>by
      have h1:=h.2 i hi
      unfold zg6 at h1
      unfold wpOp
      split
      · rename_i ho;simp only [ho] at h1;exact zka hQ fuel _ _ _ h1
      · rename_i o ho
        simp only [ho] at h1
        split
        · rename_i hw
          rw [if_pos hw] at h1
          exact .inl (zm4 (λa w ⟨_,h2⟩=>zka hQ fuel _ a w h2) (λ_ _ _ h=>h.elim) h1)
        · rename_i hw;rw [if_neg hw] at h1;exact zka hQ fuel _ _ _ h1⟩

def Yld (P:Program) (ops:Array Oper) (C:World->Prop) (o:Oper) (v:Value) (a:Act):Prop :=
 (Region.wanted o (yielded ops a.tmps)=true/\∀ w,C w->(execOp a.eval o).run P w=.ok (.value v) w) \/ (Region.wanted o (yielded ops a.tmps)=false/\v=undef)

theorem Yld.op {C:World->Prop} {i:Nat} {o:Oper} {v:Value} {a:Act} {w:World} (hi:ops[i]?=some o) (hy:Yld P ops C o v a) (hw:C w) {K:Act->World->Prop} (h:K (a.put o.dst v) w):zg6 P ops C i K a w:=by
 unfold zg6
 simp only [hi]
 rcases hy with ⟨h1,h2⟩ | ⟨h1,rfl⟩
 ·rw [if_pos h1]
  show o.upon P a _ _ ((execOp a.eval o).run P w)
  rw [h2 w hw]
  exact ⟨hw,h⟩
 ·rw [if_neg (by simp [h1])];exact h

theorem zp5 {C:World->Prop} {Q:Act->World->Prop} {i:Nat} {oi:Oper} {v:Value} (hi:ops[i]?=some oi) (hsel:∀ (j:Nat) (o:Oper) cs b,ops[j]?=some o->o.op ≠ .select cs b) :
    ∀ (fuel:Nat) (listed:Array Bool) (a:Act) (w:World),C w ->
      (∀ j oj,ops[j]?=some oj->j ≠ i->listed.getD j true=false->(∀ e ∈ oj.after,Region.binds md e=true->e.on ≠ i)->oi.apart ops oj=true) ->
      i ∈ Region.ready md ops listed->Yld P ops C oi v a ->
      ziF P md ops C Q fuel (listed.setIfInBounds i true) (a.put oi.dst v) w->ziF P md ops C Q (fuel + 1) listed a w:=by
  intro fuel
  induction fuel with
  | zero =>
    intro listed a w hw _ hr hy H
    refine ⟨λh=>(by rw [h] at hr;cases hr),λj hj=>?_⟩
    by_cases hji:j=i
    · subst hji;exact hy.op hi hw H
    · have:=ready_mono hj hji
      rw [H.1] at this
      cases this
  | succ fuel ih =>
    intro listed a w hw hfree hr hy H
    refine ⟨λh=>(by rw [h] at hr;cases hr),λj hj=>?_⟩
    by_cases hji:j=i
    · subst hji;exact hy.op hi hw H
    · have h1 := H.2 j (ready_mono hj hji)
      obtain ⟨hjun,oj,hoj,hall⟩:=mem_ready.1 hj
      have hnot:∀ e ∈ oj.after,Region.binds md e=true->e.on ≠ i:=λe he hb heq=>by
        have h1:=hall e he hb
        have h0:=(mem_ready.1 hr).1
        rw [heq] at h1
        rcases Nat.lt_or_ge i listed.size with h' | h'
        · simp [h'] at h0 h1;rw [h0] at h1;cases h1
        · simp [Array.getElem?_eq_none h'] at h1
      have hap:=hfree j oj hoj hji hjun hnot
      obtain ⟨a1,a2,a3⟩:=Oper.apart_spec hap
      have hfree':∀ k ok,ops[k]?=some ok->k ≠ i->(listed.setIfInBounds j true).getD k true=false ->
          (∀ e ∈ ok.after,Region.binds md e=true->e.on ≠ i)->oi.apart ops ok=true:=λk ok hk hki hun hno=>by
        refine hfree k ok hk hki ?_ hno
        by_cases hjk:j=k
        · subst hjk;exact hjun
        · rw [getD_set_ne true hjk] at hun;exact hun
      have keep:∀ (a':Act) u,Yld P ops C oi v a'->Yld P ops C oi v (a'.put oj.dst u):=λa' u hy'=>by
        unfold Yld at *
        rw [wanted_put oi a' oj.dst u a3,execOp_put oi (λcs b=>hsel i oi cs b hi) a' oj.dst u a3]
        exact hy'
      have step:∀ a' w',Yld P ops C oi v a'->C w'->ziF P md ops C Q fuel ((listed.setIfInBounds i true).setIfInBounds j true) (a'.put oi.dst v) w'->ziF P md ops C Q (fuel + 1) (listed.setIfInBounds j true) a' w':=λa' w' hy' hw' h'=>by
        refine ih (listed.setIfInBounds j true) a' w' hw' hfree' (ready_mono hr (Ne.symm hji)) hy' ?_
        rw [Array.setIfInBounds_comm _ _ hji]
        exact h'
      unfold zg6 at h1 ⊢
      simp only [hoj] at h1 ⊢
      rw [wanted_put oj a oi.dst v a1] at h1
      split
      · rename_i hw1
        rw [if_pos hw1] at h1
        unfold Oper.wp at h1 ⊢
        rw [execOp_put oj (λcs b=>hsel j oj cs b hoj) a oi.dst v a1] at h1
        have h2:=zvz (λd' hd=>a2 d' hd) h1
        -- the state behind oj is a with its slot laid: oi still yields v there
        have h3:oj.upon P a (λa' w'=>Yld P ops C oi v a'/\C w'/\ziF P md ops C Q fuel ((listed.setIfInBounds i true).setIfInBounds j true) (a'.put oi.dst v) w') (λ_ _ _=>False) ((execOp a.eval oj).run P w):=by
          generalize (execOp a.eval oj).run P w=r at h2 ⊢
          cases r with
          | ok n w1 =>
            cases n <;> simp only [Oper.upon] at h2 ⊢
            case value u=>exact ⟨keep a u hy,h2⟩
            case skip=>exact ⟨keep a _ hy,h2⟩
            case enter f args =>
              refine h2.mono λe w' he=>?_
              cases e with
              | returned u=>exact ⟨keep a u hy,he⟩
              | panicked c=>exact he
              | outgrown=>exact he
            case defer dd=>exact ⟨keep { a with defers:=dd :: a.defers } undef (by unfold Yld at *;exact hy),h2⟩
            case row r as=>exact h2.mono λu w' hu=>⟨keep a u hy,hu⟩
          | halt x w1=>cases x <;> simp only [Oper.upon] at h2 ⊢
        exact zm4 (λa' w' ⟨k1,k2,k3⟩=>⟨k2,step a' w' k1 k2 k3⟩) (λ_ _ _ h=>h) h3
      · rename_i hw1
        rw [if_neg hw1] at h1
        rw [Act.put_comm a v undef a2] at h1
        exact step _ _ (keep a undef hy) hw h1

inductive Ord where
 | nil
 | v (i:Nat) (r:Ord)
 | t (i:Nat) (r:Ord)
 | alt (i:Nat) (r:Ord) (s:Ord)
def Ord.ids:Ord->List Nat
 | .t j _=>[j]
 | .alt i _ s=>i :: s.ids
 | _=>[]
def Ord.len:Ord->Nat
 | .nil=>0
 | .v _ r=>r.len + 1
 | .t _ r=>r.len + 1
 | .alt _ r _=>r.len + 1
def Ord.drop:Nat->Ord->Ord
 | 0,o=>o
 | _,.nil=>.nil
 | n + 1,.v _ r=>r.drop n
 | n + 1,.t _ r=>r.drop n
 | n + 1,.alt _ r _=>r.drop n
def zgz (ops:Array Oper):Bool->Ord->Array Bool->Bool
 | _,.nil,listed=>(Region.ready .any ops listed).isEmpty
 | _,.v i r,listed=>(Region.ready .any ops listed).contains i && Region.free .any ops listed i && zgz ops true r (listed.setIfInBounds i true)
 | top,.t i r,listed=>(!top || Region.ready .any ops listed == [i]) && zgz ops true r (listed.setIfInBounds i true)
 | top,.alt i r s,listed=>(!top || Region.ready .any ops listed == i :: s.ids) && (r.len + 1 == s.len) && zgz ops true r (listed.setIfInBounds i true) && zgz ops false s listed

def zp4 (P:Program) (ops:Array Oper) (Q:Act->World->Prop):Ord->(World->Prop)->Act->World->Prop
 | .nil,_,a,w=>Q a w
 | .v i r,C,a,w=>∃ C':World->Prop,(∀ w,C' w->C w)/\C' w/\∃ o v,ops[i]?=some o/\Yld P ops C' o v a/\zp4 P ops Q r C' (a.put o.dst v) w
 | .t i r,C,a,w=>zg6 P ops C i (λa' w'=>∃ C':World->Prop,(∀ w,C' w->C w)/\zp4 P ops Q r C' a' w') a w
 | .alt i r s,C,a,w=>zg6 P ops C i (λa' w'=>∃ C':World->Prop,(∀ w,C' w->C w)/\zp4 P ops Q r C' a' w') a w/\zp4 P ops Q s C a w

mutual
theorem zic {Q:Act->World->Prop} (hsel:Region.noSelect ops=true):∀ (π:Ord) (listed:Array Bool) (C:World->Prop) (a:Act) (w:World),zgz ops true π listed=true->zp4 P ops Q π C a w->ziF P .any ops C Q π.len listed a w
 | .nil,listed,C,a,w,hB,h=>⟨by simpa [zgz] using hB,h⟩
 | .v i r,listed,C,a,w,hB,⟨C',hC,hw,o,v,ho,hy,h⟩=>by
  simp only [zgz,zBa,List.contains_iff_mem] at hB
  obtain ⟨⟨hr,hf⟩,hB'⟩:=hB
  exact zgJ hC _ _ _ _ (zp5 ho (Region.noSelect_spec hsel) r.len listed a w hw (Region.free_spec ho hf) hr hy (zic hsel r _ C' _ _ hB' h))
 | .t i r,listed,C,a,w,hB,h=>by
  simp only [zgz,Bool.not_true,Bool.false_or,zBa,beq_iff_eq] at hB
  obtain ⟨hr,hB'⟩:=hB
  refine ⟨λh0=>(by rw [hr] at h0;cases h0),λj hj=>?_⟩
  rw [hr] at hj
  have e:j=i:=by simpa using hj
  subst e
  exact zgr (λ_ h=>h) (λa' w' ⟨C',hC,h'⟩=>zgJ hC _ _ _ _ (zic hsel r _ C' a' w' hB' h')) h
 | .alt i r s,listed,C,a,w,hB,h=>by
  simp only [zgz,Bool.not_true,Bool.false_or,zBa,beq_iff_eq] at hB
  obtain ⟨⟨⟨hr,hl⟩,hB1⟩,hB2⟩:=hB
  refine ⟨λh0=>(by rw [hr] at h0;cases h0),λj hj=>?_⟩
  rw [hr] at hj
  rcases List.mem_cons.1 hj with e | hj
  ·subst e
   exact zgr (λ_ h=>h) (λa' w' ⟨C',hC,h'⟩=>zgJ hC _ _ _ _ (zic hsel r _ C' a' w' hB1 h')) h.1
  ·exact zpE hsel s r.len listed C a w hB2 hl.symm h.2 j hj
theorem zpE {Q:Act->World->Prop} (hsel:Region.noSelect ops=true):∀ (s:Ord) (n:Nat) (listed:Array Bool) (C:World->Prop) (a:Act) (w:World),zgz ops false s listed=true->s.len=n + 1->zp4 P ops Q s C a w ->
    ∀ j ∈ s.ids,zg6 P ops C j (ziF P .any ops C Q n (listed.setIfInBounds j true)) a w
  | .nil,n,listed,C,a,w,hB,hl,h,j,hj=>by cases hj
  | .v i r,n,listed,C,a,w,hB,hl,h,j,hj=>by cases hj
  | .t i r,n,listed,C,a,w,hB,hl,h,j,hj=>by
    simp only [zgz,Bool.not_false,Bool.true_or,Bool.true_and] at hB
    have e:j=i:=by simpa [Ord.ids] using hj
    subst e
    have hn:r.len=n:=by simpa [Ord.len] using hl
    exact zgr (λ_ h=>h) (λa' w' ⟨C',hC,h'⟩=>zgJ hC _ _ _ _ (hn ▸ zic hsel r _ C' a' w' hB h')) h
  | .alt i r s,n,listed,C,a,w,hB,hl,h,j,hj=>by
    simp only [zgz,Bool.not_false,Bool.true_or,Bool.true_and,zBa,beq_iff_eq] at hB
    obtain ⟨⟨hl2,hB1⟩,hB2⟩:=hB
    have hn:r.len=n:=by simpa [Ord.len] using hl
    rcases List.mem_cons.1 hj with e | hj
    · subst e
      exact zgr (λ_ h=>h) (λa' w' ⟨C',hC,h'⟩=>zgJ hC _ _ _ _ (hn ▸ zic hsel r _ C' a' w' hB1 h')) h.1
    · exact zpE hsel s n listed C a w hB2 (by omega) h.2 j hj
end
end orders

section rules
variable {c:Ctx} {ops:Array Oper} {σ:St} {Q:Exit->Act->World->Prop}

def Rd (c:Ctx) (ops:Array Oper) (π:Ord) (σ:St) (Q:Exit->Act->World->Prop):Prop :=
 ∀ S a w,za6 c σ S a w->zp4 c.P ops (λa w=>Q .normal a w) π (cls c S) a w

theorem zg5 (h:Fin c σ Q):Rd c ops .nil σ Q:=λS a w m=>h S a w m

theorem zeU {id:Nat} (π:Ord) (hm:c.P.follows .mixedOrders=true) (hs:(Region.noSelect ops && (π.len == ops.size) && zgz ops true π (Array.replicate ops.size false))=true) (h:Rd c ops π σ Q):Wp c (.region id ops true) σ Q:=λS a w m=>by
 simp only [zBa,beq_iff_eq] at hs
 obtain ⟨⟨h1,h2⟩,h3⟩:=hs
 have m':za6 c σ S a { w with drawn:=w.drawn + 1 }:=⟨m.size,m.dfr,m.sub,⟨m.keep.os,m.keep.tape,m.keep.output,m.keep.size,m.keep.block⟩,m.grow,m.env,⟨m.owns.sat,m.owns.nodup,m.owns.own⟩,m.pins⟩
 refine wp_region_any hm ?_
 have:=zic h1 π _ _ _ _ h3 (h S a _ m')
 rw [h2] at this
 exact zka (Q:=λa w=>Q .normal a w) (λ_ _ h=>h) _ _ _ _ this

theorem zbe {Γ:zM} {H:List Ent} {i d:Nat} {op:Op} {ty:TypeId} {pos:String} {af:Array Edge} {π:Ord} {R:VP} (ho:ops[i]?=some ⟨some d,op,ty,pos,af,none⟩) (h:OpV c ⟨some d,op,ty,pos,af,none⟩ ⟨Γ,H⟩ R) (k:Rd c ops π ⟨(d,R) :: Γ,H⟩ Q) (hd:Nat.blt d c.n=true:=by rfl):Rd c ops (.v i π) ⟨Γ,H⟩ Q:=λS a w m=>by
 obtain ⟨v,hv,hr⟩:=h S a w m
 exact ⟨cls c S,λ_ h=>h,m.cls,_,v,ho,.inl ⟨rfl,hr⟩,k S _ w (m.put hd hv)⟩

theorem zyt {Γ:zM} {H:List Ent} {i d j dj:Nat} {want b:Bool} {op:Op} {ty:TypeId} {pos:String} {af:Array Edge} {π:Ord} {R:VP} (ho:ops[i]?=some ⟨some d,op,ty,pos,af,some (j,want)⟩) (hj:(ops[j]?).bind (·.dst)=some dj) (hl:zcg Γ dj=some (isv b)) (hb:b=want)
    (h:OpV c ⟨some d,op,ty,pos,af,some (j,want)⟩ ⟨Γ,H⟩ R) (k:Rd c ops π ⟨(d,R) :: Γ,H⟩ Q) (hd:Nat.blt d c.n=true:=by rfl):Rd c ops (.v i π) ⟨Γ,H⟩ Q:=λS a w m=>by
  obtain ⟨v,hv,hr⟩:=h S a w m
  exact ⟨cls c S,λ_ h=>h,m.cls,_,v,ho,.inl ⟨by unfold Region.wanted;simp only;rw [zhr m hj hl,hb];simp,hr⟩,k S _ w (m.put hd hv)⟩

theorem zrt {Γ:zM} {H:List Ent} {i d j dj:Nat} {want b:Bool} {op:Op} {ty:TypeId} {pos:String} {af:Array Edge} {π:Ord} (ho:ops[i]?=some ⟨some d,op,ty,pos,af,some (j,want)⟩) (hj:(ops[j]?).bind (·.dst)=some dj) (hl:zcg Γ dj=some (isv b)) (hb:b=!want)
    (k:Rd c ops π ⟨(d,zem) :: Γ,H⟩ Q) (hd:Nat.blt d c.n=true:=by rfl):Rd c ops (.v i π) ⟨Γ,H⟩ Q:=λS a w m=>by
  have hw:Region.wanted (⟨some d,op,ty,pos,af,some (j,want)⟩:Oper) (yielded ops a.tmps)=false:=by
    unfold Region.wanted;simp only;rw [zhr m hj hl,hb];cases want <;> simp
  have hk:=k S _ w (m.put (v:=undef) hd rfl)
  exact ⟨cls c S,λ_ h=>h,m.cls,_,undef,ho,.inr ⟨hw,rfl⟩,hk⟩

theorem zix {Γ:zM} {H:List Ent} {i d j dj:Nat} {want b:Bool} {op:Op} {ty:TypeId} {pos:String} {af:Array Edge} {π:Ord} (ho:ops[i]?=some ⟨some d,op,ty,pos,af,some (j,want)⟩) (hj:(ops[j]?).bind (·.dst)=some dj) (hl:zcg Γ dj=some (isv b)) (hb:b=!want)
    (k:Rd c ops π ⟨(d,zem) :: Γ,H⟩ Q) (hd:Nat.blt d c.n=true:=by rfl):Rd c ops (.t i π) ⟨Γ,H⟩ Q:=λS a w m=>by
  have hw:Region.wanted (⟨some d,op,ty,pos,af,some (j,want)⟩:Oper) (yielded ops a.tmps)=false:=by
    unfold Region.wanted;simp only;rw [zhr m hj hl,hb];cases want <;> simp
  have hk:=k S _ w (m.put (v:=undef) hd rfl)
  show zg6 c.P ops _ i _ a w
  unfold zg6
  simp only [ho]
  rw [if_neg (by simp [hw])]
  exact ⟨cls c S,λ_ h=>h,hk⟩

theorem zuL {Γ:zM} {H:List Ent} {i d j dj:Nat} {want:Bool} {op:Op} {ty:TypeId} {pos:String} {af:Array Edge} {π:Ord} (ho:ops[i]?=some ⟨some d,op,ty,pos,af,some (j,want)⟩) (hj:(ops[j]?).bind (·.dst)=some dj) (hl:zcg Γ dj=some zem)
    (k:Rd c ops π ⟨(d,zem) :: Γ,H⟩ Q) (hd:Nat.blt d c.n=true:=by rfl):Rd c ops (.v i π) ⟨Γ,H⟩ Q:=λS a w m=>by
  have hw:Region.wanted (⟨some d,op,ty,pos,af,some (j,want)⟩:Oper) (yielded ops a.tmps)=false:=by
    unfold Region.wanted;simp only;rw [zjd m hj hl];simp
  have hk:=k S _ w (m.put (v:=undef) hd rfl)
  exact ⟨cls c S,λ_ h=>h,m.cls,_,undef,ho,.inr ⟨hw,rfl⟩,hk⟩

theorem zuz {Γ:zM} {H:List Ent} {i d j dj:Nat} {want:Bool} {op:Op} {ty:TypeId} {pos:String} {af:Array Edge} {π:Ord} (ho:ops[i]?=some ⟨some d,op,ty,pos,af,some (j,want)⟩) (hj:(ops[j]?).bind (·.dst)=some dj) (hl:zcg Γ dj=some zem)
    (k:Rd c ops π ⟨(d,zem) :: Γ,H⟩ Q) (hd:Nat.blt d c.n=true:=by rfl):Rd c ops (.t i π) ⟨Γ,H⟩ Q:=λS a w m=>by
  have hw:Region.wanted (⟨some d,op,ty,pos,af,some (j,want)⟩:Oper) (yielded ops a.tmps)=false:=by
    unfold Region.wanted;simp only;rw [zjd m hj hl];simp
  have hk:=k S _ w (m.put (v:=undef) hd rfl)
  show zg6 c.P ops _ i _ a w
  unfold zg6
  simp only [ho]
  rw [if_neg (by simp [hw])]
  exact ⟨cls c S,λ_ h=>h,hk⟩

theorem zod {S S':Frz} {w:World} (h:S.le S') (k:cls c S' w):cls c S w:=⟨λb cs hb=>by
 obtain ⟨cs',h1,h2⟩:=h b cs hb
 obtain ⟨x,T,fr,h3,h4⟩:=k.1 b cs' h1
 exact ⟨x,T,fr,h3,h2.trans h4⟩,k.2⟩

theorem zAc {i:Nat} {o:Oper} {π:Ord} (ho:ops[i]?=some o) (hg:o.guard=none) (h:OpT c o σ λσ'=>Rd c ops π σ' Q):Rd c ops (.t i π) σ Q:=λS a w m=>by
 show zg6 c.P ops _ i _ a w
 unfold zg6
 simp only [ho]
 rw [if_pos (by unfold Region.wanted;rw [hg])]
 exact h S a w _ _ m λσ' S' a' w' hle hr m'=>⟨zod hle m'.cls,cls c S',λ_ k=>zod hle k,hr S' a' w' m'⟩

theorem zyG {i j dj:Nat} {want b:Bool} {o:Oper} {π:Ord} (ho:ops[i]?=some o) (hg:o.guard=some (j,want)) (hj:(ops[j]?).bind (·.dst)=some dj) (hl:zcg σ.Γ dj=some (isv b)) (hb:b=want) (h:OpT c o σ λσ'=>Rd c ops π σ' Q):Rd c ops (.t i π) σ Q:=λS a w m=>by
 show zg6 c.P ops _ i _ a w
 unfold zg6
 simp only [ho]
 rw [if_pos (by unfold Region.wanted;rw [hg];simp only;rw [zhr m hj hl,hb];simp)]
 exact h S a w _ _ m λσ' S' a' w' hle hr m'=>⟨zod hle m'.cls,cls c S',λ_ k=>zod hle k,hr S' a' w' m'⟩

theorem zpY {Γ:zM} {H:List Ent} {i:Nat} {π ρ:Ord} (h1:Rd c ops (.t i π) ⟨Γ,H⟩ Q) (h2:Rd c ops ρ ⟨Γ,H⟩ Q):Rd c ops (.alt i π ρ) ⟨Γ,H⟩ Q:=λS a w m=>⟨h1 S a w m,h2 S a w m⟩
/-! ### Pins -/
/-- A pointer into a pinned variable that holds x. -/
def zdI {α β:Type} [Rep α] [Rep β] (o:Obj) (b:Nat) (L:Fld α β) (x:α):VP where
 p:=λS v=>v=.pointer (some ⟨b,L.off,none⟩)/\∃ cs T,o=.cells cs T (0,0)/\Rep.rd S cs.toList x
 mono:=λh ⟨h1,cs,T,h2,h3⟩=>⟨h1,cs,T,h2,Rep.mono h h3⟩

theorem zzK {α β:Type} [Rep α] [Rep β] {P:Program} {n:Nat} {w0:World} {S0:Frz} {M:List Nat} {pin:List (Nat × Obj)} {code:Code} {Γ:zM} {H Hr:List Ent} {i b:Nat} {L:Fld α β} {x:α} (hp:zcw (zj b x) H Hr) (hi:zcg Γ i=some (zal b L))
    (k:∀ o,Wp ⟨P,n,w0,S0,M,(b,o) :: pin⟩ code ⟨(i,zdI o b L x) :: Γ,Hr⟩ Q):Wp ⟨P,n,w0,S0,M,pin⟩ code ⟨Γ,H⟩ Q:=λS a w m=>by
  have hs:(zj b x).sat S w:=m.owns.get hp
  obtain ⟨o,ho,hnone,cs,T,e,hr⟩:=hs
  have hperm:=hp.perm
  have hkp:=zjI hperm
  have hkc:zbP (zj b x :: Hr)=b :: zbP Hr:=by simp [zbP,zj]
  rw [hkc] at hkp
  have hnd:=hkp.nodup_iff.1 m.owns.nodup
  refine k o S a w ⟨m.size,m.dfr,m.sub,m.keep,m.grow,λj R hj=>?_,⟨λe he=>m.owns.sat e (hperm.mem_iff.2 (zMm _ he)),(List.nodup_cons.1 hnd).2,λb' hb'=>m.owns.own b' (hkp.mem_iff.2 (zMm _ hb'))⟩,λy hy=>?_⟩
  · obtain ⟨v,hv,hvr⟩:=m.env i _ hi
    unfold zcg at hj
    cases hk:Nat.beq i j with
    | true =>
      rw [hk] at hj
      have e':i=j:=Nat.eq_of_beq_eq_true hk
      subst e'
      cases hj
      exact ⟨v,hv,hvr,cs,T,e,hr⟩
    | false=>rw [hk] at hj;exact m.env j R hj
  · rcases List.mem_cons.1 hy with h | h
    · subst h
      exact ⟨ho,hnone,(List.nodup_cons.1 hnd).1,m.owns.own b (hkp.mem_iff.2 (zMs ..))⟩
    · obtain ⟨h1,h2,h3,h4⟩:=m.pins y h
      exact ⟨h1,h2,λh5=>h3 (hkp.mem_iff.2 (zMm _ h5)),h4⟩

theorem zuj {α β:Type} [Rep α] [Rep β] {P:Program} {n:Nat} {w0:World} {S0:Frz} {M:List Nat} {pin:List (Nat × Obj)} {Γ:zM} {H:List Ent} {i b:Nat} {L:Fld α β} {x:α} {o:Obj} (hnd:b ∉ pin.map (·.1)) (hi:zcg Γ i=some (zdI o b L x))
    (k:Fin ⟨P,n,w0,S0,M,pin⟩ ⟨(i,zal b L) :: Γ,zj b x :: H⟩ Q):Fin ⟨P,n,w0,S0,M,(b,o) :: pin⟩ ⟨Γ,H⟩ Q:=λS a w m=>by
  obtain ⟨h1,h2,h3,h4⟩:=m.pins _ (zMs ..)
  obtain ⟨v,hv,hv1,cs,T,e,hr⟩:=m.env i _ hi
  have hkc:zbP (zj b x :: H)=b :: zbP H:=by simp [zbP,zj]
  refine k S a w ⟨m.size,m.dfr,m.sub,m.keep,m.grow,λj R hj=>?_,⟨λe' he=>?_,by rw [hkc];exact List.nodup_cons.2 ⟨h3,m.owns.nodup⟩,λb' hb'=>?_⟩,λy hy=>?_⟩
  · unfold zcg at hj
    cases hk:Nat.beq i j with
    | true =>
      rw [hk] at hj
      have e':i=j:=Nat.eq_of_beq_eq_true hk
      subst e'
      cases hj
      exact ⟨v,hv,hv1⟩
    | false=>rw [hk] at hj;exact m.env j R hj
  · rcases List.mem_cons.1 he with h | h
    · subst h;exact ⟨o,h1,h2,cs,T,e,hr⟩
    · exact m.owns.sat e' h
  · rw [hkc] at hb'
    rcases List.mem_cons.1 hb' with h | h
    · subst h;exact h4
    · exact m.owns.own b' h
  · obtain ⟨k1,k2,k3,k4⟩:=m.pins y (zMm _ hy)
    refine ⟨k1,k2,λh=>?_,k4⟩
    rw [hkc] at h
    rcases List.mem_cons.1 h with h | h
    · exact hnd (List.mem_map.2 ⟨y,hy,h⟩)
    · exact k3 h

theorem zxp {α β:Type} [Rep α] [Rep β] {d:Option Nat} {ty:TypeId} {pos:String} {af:Array Edge} {g:Option (Nat × Bool)} {b:Nat} {L:Fld α β} {y:α} {x:Operand} {T:TypeId} {o:Obj} (ht:TyB c.P T (Rep.n β) (Rep.agg β)=true) (hx:zB σ.Γ x=some (zdI o b L y))
    (hp:(b,o) ∈ c.pin):OpV c ⟨d,.load T x,ty,pos,af,g⟩ σ (isv (L.get y)):=λS a w m=>by
  obtain ⟨h1,cs,T',e,hr⟩:=zb m hx
  subst e
  obtain ⟨v,hv,hrun⟩:=zfH (ad:=⟨b,L.off,none⟩) ht (L.rget hr)
  refine ⟨v,hv,λw' hw'=>?_⟩
  simp only [execOp,h1,Instr.loadAt,Instr.sureAddr]
  have h2:=hrun w' λi u hi=>by
    rw [zc6]
    unfold World.cell?
    rw [hw'.2 _ hp]
    simp only
    rw [List.getElem?_take] at hi
    split at hi
    · rw [List.getElem?_drop] at hi
      simpa using hi
    · cases hi
  simp [h2]
theorem zpM {α β γ:Type} [Rep α] [Rep β] [Rep γ] {d:Option Nat} {ty:TypeId} {pos:String} {af:Array Edge} {g:Option (Nat × Bool)} {b:Nat} {L:Fld α β} {y:α} {x:Operand} {T f:Nat} {o:Obj} (M:Fld β γ) (hf:zfw c.P T f M.off (Rep.n γ) (Rep.agg γ)=true)
    (hx:zB σ.Γ x=some (zdI o b L y)):OpV c ⟨d,.fieldAddr T x f,ty,pos,af,g⟩ σ (zdI o b (L.comp M) y):=λS a w m=>by
  obtain ⟨h1,h2⟩:=zb m hx
  exact ⟨.pointer (some ⟨b,L.off + M.off,none⟩),⟨rfl,h2⟩,λw' _=>by simp [execOp,h1,zi4 hf,zc6]⟩
theorem zna {α β:Type} [Rep α] [Rep β] {d:Option Nat} {ty:TypeId} {pos:String} {af:Array Edge} {g:Option (Nat × Bool)} {b:Nat} {L:Fld α β} {y:α} {x:Operand} {o:Obj} (hx:zB σ.Γ x=some (zdI o b L y)):OpV c ⟨d,.nilCheck x,ty,pos,af,g⟩ σ (zdI o b L y):=λS a w m=>by
 obtain ⟨h1,h2⟩:=zb m hx
 exact ⟨_,⟨rfl,h2⟩,λw' _=>by simp [execOp,h1]⟩
end rules

end Go.Sy
namespace Go.Sy
instance {α β:Type} [Rep α] [Rep β]:Rep (α × β) where
 n:=Rep.n α + Rep.n β
 agg:=true
 rd:=λS cs x=>∃ c1 c2,cs=c1 ++ c2/\Rep.rd S c1 x.1/\Rep.rd S c2 x.2
 len:=λ⟨c1,c2,e,h1,h2⟩=>by rw [e,zLa,Rep.len h1,Rep.len h2]
 mono:=λh ⟨c1,c2,e,h1,h2⟩=>⟨c1,c2,e,Rep.mono h h1,Rep.mono h h2⟩
 cell:=λ⟨c1,c2,e,h1,h2⟩ v hv=>by
  subst e
  rcases List.mem_append.1 hv with hv | hv
  ·exact Rep.cell h1 v hv
  ·exact Rep.cell h2 v hv
 one:=λh=>by cases h

@[reducible] def Rep.iso {α σ:Type} [Rep σ] (to:α->σ):Rep α where
 n:=Rep.n σ
 agg:=true
 rd:=λS cs x=>Rep.rd S cs (to x)
 len:=λh=>Rep.len h
 mono:=λh k=>Rep.mono h k
 cell:=λh=>Rep.cell h
 one:=λh=>by cases h

@[reducible] def Fld.fst (α β:Type) [Rep α] [Rep β]:Fld (α × β) α where
 off:=0
 get:=λx=>x.1
 set:=λx y=>(y,x.2)
 fits:=by show 0 + Rep.n α <= Rep.n α + Rep.n β;omega
 rget:=λ⟨c1,c2,e,h1,h2⟩=>by
  have:=Rep.len h1
  rw [e,List.drop_zero,<- this,List.take_left];exact h1
 rset:=λ{S cs ds x y} ⟨c1,c2,e,h1,h2⟩ k=>by
  have hl:=Rep.len h1
  refine ⟨ds,c2,?_,k,h2⟩
  rw [e,List.take_zero,List.nil_append,Nat.zero_add,<- hl,List.drop_left]

@[reducible] def Fld.snd (α β:Type) [Rep α] [Rep β]:Fld (α × β) β where
 off:=Rep.n α
 get:=λx=>x.2
 set:=λx y=>(x.1,y)
 fits:=zNl _
 rget:=λ⟨c1,c2,e,h1,h2⟩=>by
  have hl:=Rep.len h1
  have hl2:=Rep.len h2
  rw [e,<- hl,List.drop_left,zTl (by omega)];exact h2
 rset:=λ{S cs ds x y} ⟨c1,c2,e,h1,h2⟩ k=>by
  have hl:=Rep.len h1
  have hl2:=Rep.len h2
  refine ⟨c1,ds,?_,h1,k⟩
  rw [e,<- hl,List.take_left,List.drop_of_length_le (by rw [zLa];omega),List.append_nil]

@[reducible] def Fld.of {α σ β:Type} [I:Rep σ] [Rep β] (to:α->σ) (F:Fld σ β) (get:α->β) (set:α->β->α) (hg:∀ x,F.get (to x)=get x) (hs:∀ x y,F.set (to x) y=to (set x y)):@Fld α β (Rep.iso to) _ :=
 @Fld.mk α β (Rep.iso to) _ F.off get set F.fits (λ{_ _ x} h=>hg x ▸ F.rget h) (λ{_ _ _ x y} h k=>by
  have:=F.rset h k
  rw [hs] at this
  exact this)

structure Tag where
 cls:Int
 num:Int
 deriving DecidableEq

abbrev Tag.to (t:Tag):Int × Int:=(t.cls,t.num)
instance:Rep Tag:=Rep.iso Tag.to
@[reducible] def Tag.f0:Fld Tag Int:=Fld.of Tag.to (Fld.fst Int Int) (λt=>t.cls) (λt y=>{ t with cls:=y }) (λ_=>rfl) (λ_ _=>rfl)
@[reducible] def Tag.f1:Fld Tag Int:=Fld.of Tag.to (Fld.snd Int Int) (λt=>t.num) (λt y=>{ t with num:=y }) (λ_=>rfl) (λ_ _=>rfl)

@[simp] theorem Tag.f0_get (t:Tag):Tag.f0.get t=t.cls:=rfl
@[simp] theorem Tag.f1_get (t:Tag):Tag.f1.get t=t.num:=rfl
@[simp] theorem Tag.f0_set (t:Tag) (y:Int):Tag.f0.set t y={ t with cls:=y }:=rfl
@[simp] theorem Tag.f1_set (t:Tag) (y:Int):Tag.f1.set t y={ t with num:=y }:=rfl
@[simp] theorem Fld.id_get {α:Type} [Rep α] (x:α):(Fld.id α).get x=x:=rfl
@[simp] theorem Fld.id_set {α:Type} [Rep α] (x y:α):(Fld.id α).set x y=y:=rfl
@[simp] theorem Fld.comp_get {α β γ:Type} [Rep α] [Rep β] [Rep γ] (L:Fld α β) (M:Fld β γ) (x:α):(L.comp M).get x=M.get (L.get x):=rfl
@[simp] theorem Fld.comp_set {α β γ:Type} [Rep α] [Rep β] [Rep γ] (L:Fld α β) (M:Fld β γ) (x:α) (z:γ):(L.comp M).set x z=L.set x (M.set (L.get x) z):=rfl

def Tag.zero:Tag:=⟨0,0⟩
theorem zwv {P : Program} {f g : Field} {T : TypeId} (h1 : f.offset = 0) (h2 : g.offset = 1) (n1 : (f.name == "_") = false) (n2 : (g.name == "_") = false) (hT : P.underlying T = some (.int .i64)) (t1 : f.type = T) (t2 : g.type = T) :
    zmX P [f,g] λx y:Tag=>decide (x.cls=y.cls) && (decide (x.num=y.num) && true) :=
  zmX.int Tag.f0 n1 h1 (t1 ▸ hT) (zmX.int Tag.f1 n2 h2 (t2 ▸ hT) zmX.nil)

theorem Tag.eq_dec (x y:Tag):(decide (x.cls=y.cls) && (decide (x.num=y.num) && true))=decide (x=y):=by
 cases x;cases y;simp

theorem Tag.eqOk {P:Program} {T I:TypeId} {f g:Field} (hu:P.underlying T=some (.struct #[f,g])) (hg:P.eqGuardType P.depth T=false) (hs:P.stoodInHeld T=false) (hT:P.underlying I=some (.int .i64))
    (h1 : f.offset = 0 := by rfl) (h2 : g.offset = 1 := by rfl) (n1 : (f.name == "_") = false := by rfl) (n2 : (g.name == "_") = false := by rfl) (t1 : f.type = I := by rfl) (t2 : g.type = I := by rfl) : zln P T Tag :=
  zln.struct rfl hu hg hs (zwv h1 h2 n1 n2 hT t1 t2) Tag.eq_dec

section ops
variable {c:Ctx} {d:Option Nat} {ty:TypeId} {pos:String} {af:Array Edge} {g:Option (Nat × Bool)} {σ:St}

end ops

section code
variable {c:Ctx} {Γ:zM} {H Hr:List Ent} {Q:Exit->Act->World->Prop}

end code
end Go.Sy
namespace Go.Sy
open Go.ChangeShapes Go.WideShapes Go.ChangeAt Go.RowKit
def zlm (W:World):Frz:=λb=>match W.heap[b]? with
 | some (.cells c _ _)=>some c.toList
 | _=>none
theorem zvp (W:World):(zlm W).sub W:=λb cs h=>by
 unfold zlm at h
 split at h
 ·rename_i c T fr hw;cases h;exact ⟨c,T,fr,hw,List.prefix_refl _⟩
 ·cases h

theorem ztN {W:World} {a:Addr} {v:Value} (h:W.cell? a=some v):a.spot=none/\∃ c,zlm W a.block=some c/\c[a.off]?=some v:=by
 unfold World.cell? at h
 split at h
 ·rename_i c T fr hw
  split at h
  ·cases h
  ·rename_i hs
   refine ⟨by simpa using hs,c.toList,by unfold zlm;rw [hw],by simpa using h⟩
 ·cases h

structure Opn (P:Program) (T:TypeId) (α:Type) [Rep α]:Prop where
 op:∀ {H:Type} {enc:TypeId × Value->H} {W:World} {base:Nat} {spare:Nat->Bool} {held:Bool} {fuel:Nat} {cs:List Value} {x:DataW H × List MemPlace},
  DataW.trod enc P W base spare held fuel T cs=some x->(∀ k ∈ x.1.weights P T,k <= reachBytes)->∃ y:α,Rep.rd (zlm W) cs y
 shape:∀ {W:World} {r:Reach} {base:Nat} {v:Value},Value.okWide P W r base T v->Value.isAgg' v=Rep.agg α

theorem Opn.int {P:Program} {T:TypeId} (h:P.underlying T=some (.int .i64)):Opn P T Int where
 op:=λht _=>by
  obtain ⟨n,rfl,_,hwf⟩:=DataW.trod_int h ht
  exact ⟨n,rfl,bounds_i64 hwf⟩
 shape:=λ{_ _ _ v} hv=>by simp only [Value.okWide,h,Cell.okWide] at hv;cases v <;> simp_all [Cell.ok,Value.isAgg',Rep.agg]
theorem Opn.str {P:Program} {T:TypeId} (h:P.underlying T=some .string):Opn P T Str where
 op:=λht hw=>by
  obtain ⟨s,rfl,rfl,_⟩:=DataW.trod_string h ht
  have h1:=hw s.data.toList.length (by unfold DataW.weights;exact zMo.2 rfl)
  exact ⟨⟨s.data.toList⟩,by simp [Str.ba],Nat.le_trans h1 (by decide)⟩
 shape:=λ{_ _ _ v} hv=>by simp only [Value.okWide,h,Cell.okWide] at hv;cases v <;> simp_all [Cell.ok,Value.isAgg',Rep.agg]

/-! ### A law's statement -/
theorem zly {H:Type} {enc:TypeId × Value->H} {P:Program} (hl:laidOutB P=true) {W W':World} (hb:RowKit.Below W.heap.size W W') {sp:Nat->Bool}:∀ {ts:List TypeId} {vs:List Value} {ds:List (DataW H)} {ps:List MemPlace},
    (ts.all λt=>P.readableRec t && decide (t < P.types.size))=true->DataW.TrodAll enc P W 0 (λ_=>true) true ts vs ds ps->(∀ x ∈ ps,x.block < W.heap.size)->(∀ x ∈ ps,sp x.block=true)->DataW.TrodAll enc P W' 0 sp true ts vs ds ps
  | [],[],[],_,_,h,_,_=>h
  | t :: ts,v :: vs,d :: ds,_,hr,⟨p,q,h1,h2,e⟩,hlt,hsp=>by
    subst e
    simp only [List.all_cons,zBa,decide_eq_true_eq] at hr
    exact ⟨p,q,WideElems.Trod_stays hl hr.1.1 hr.1.2 h1 (λx hx=>hb.same (hlt x (List.mem_append_left _ hx))) (λx hx=>hsp x (List.mem_append_left _ hx)),
      zly hl hb hr.2 h2 (λx hx=>hlt x (List.mem_append_right _ hx)) (λx hx=>hsp x (List.mem_append_right _ hx)),rfl⟩

theorem zqB {H:Type} {enc:TypeId × Value->H} {P:Program} {T:TypeId} {α:Type} [Rep α] (ho:Opn P T α) {W:World} {base:Nat} {v:Value} {d:DataW H} {p:List MemPlace} (h:DataW.Trod enc P W 0 (λ_=>true) true T v d p) (hw:∀ k ∈ d.weights P T,k <= reachBytes)
    (hk:Value.okWide P W .any base T v):∃ x:α,(isv x).p (zlm W) v:=by
  obtain ⟨fuel,hf⟩:=h
  obtain ⟨x,hx⟩:=ho.op hf hw
  exact ⟨x,ho.shape hk,hx⟩

theorem zyl {P:Program} {f:FuncId} {args:List VP} (h:Ctr P f args [] (zwI true)) {W:World} {vs:List Value} (hT:zlz P (zlm W) W []) (hv:VPs (zlm W) args vs):Calls P f vs.toArray W λe W'=>e=.returned (.bool true)/\zjn [] W W' :=
 (h.calls (zlm W) W vs hT (zvp W) hv (zff _ _ _ _)).mono λe W' ⟨v,S',R,H',⟨hR,hH⟩,he,hp,hst,_⟩=>by
  subst hR
  have:=zbO.1 hp
  subst this
  exact ⟨he,hst.keep⟩

theorem zj4 {H:Type} {P:Program} {t:TypeId} {ts:List TypeId} {d:DataW H} {ds:List (DataW H)} (h:∀ k ∈ DataW.weightsEach P (t :: ts) (d :: ds),k <= reachBytes):(∀ k ∈ d.weights P t,k <= reachBytes)/\∀ k ∈ DataW.weightsEach P ts ds,k <= reachBytes:=by
 simp only [DataW.weightsEach,List.mem_append] at h
 exact ⟨λk hk=>h k (.inl hk),λk hk=>h k (.inr hk)⟩

theorem zwe {H:Type} {enc:TypeId × Value->H} {P:Program} {W:World} {t:TypeId} {ts:List TypeId} {vs:List Value} {ds:List (DataW H)} {p:List MemPlace} (h:DataW.TrodAll enc P W 0 (λ_=>true) true (t :: ts) vs ds p) :
    ∃ v vs' d ds' p' q,vs=v :: vs'/\ds=d :: ds'/\DataW.Trod enc P W 0 (λ_=>true) true t v d p'/\DataW.TrodAll enc P W 0 (λ_=>true) true ts vs' ds' q:=by
  cases vs <;> cases ds <;> simp only [DataW.TrodAll] at h
  obtain ⟨p',q,h1,h2,_⟩:=h
  exact ⟨_,_,_,_,p',q,rfl,rfl,h1,h2⟩
theorem tnil {H:Type} {enc:TypeId × Value->H} {P:Program} {W:World} {vs:List Value} {ds:List (DataW H)} {p:List MemPlace} (h:DataW.TrodAll enc P W 0 (λ_=>true) true [] vs ds p):vs=[]/\ds=[]:=by
 cases vs <;> cases ds <;> simp_all [DataW.TrodAll]

section runs
variable {H:Type} {enc:TypeId × Value->H} {P:Program} {f:FuncId} {α β γ δ:Type} [Rep α] [Rep β] [Rep γ] [Rep δ] {t1 t2 t3 t4:TypeId} {W:World} {vs:List Value} {ds:List (DataW H)} {p:List MemPlace}

theorem run3 (hT:zlz P (zlm W) W []) (h:∀ (a:α) (b:β) (c:γ),Ctr P f [isv a,isv b,isv c] [] (zwI true)) (o1:Opn P t1 α) (o2:Opn P t2 β) (o3:Opn P t3 γ)
    (ht:DataW.TrodAll enc P W 0 (λ_=>true) true [t1,t2,t3] vs ds p) (hw:∀ k ∈ DataW.weightsEach P [t1,t2,t3] ds,k <= reachBytes) (hk:∃ base,∀ (j:Nat) t v,[t1,t2,t3][j]?=some t->vs[j]?=some v->Value.okWide P W .any base t v) :
    Calls P f vs.toArray W λe W'=>e=.returned (.bool true)/\zjn [] W W':=by
  obtain ⟨base,hk⟩:=hk
  obtain ⟨v1,vs1,d1,ds1,p1,q1,rfl,rfl,h1,ht1⟩:=zwe ht
  obtain ⟨v2,vs2,d2,ds2,p2,q2,rfl,rfl,h2,ht2⟩:=zwe ht1
  obtain ⟨v3,vs3,d3,ds3,p3,q3,rfl,rfl,h3,ht3⟩:=zwe ht2
  obtain ⟨rfl,rfl⟩:=tnil ht3
  obtain ⟨w1,hw'⟩:=zj4 hw
  obtain ⟨w2,hw''⟩:=zj4 hw'
  obtain ⟨a,ha⟩:=zqB o1 h1 w1 (hk 0 _ _ rfl rfl)
  obtain ⟨b,hb⟩:=zqB o2 h2 w2 (hk 1 _ _ rfl rfl)
  obtain ⟨c,hc⟩:=zqB o3 h3 (zj4 hw'').1 (hk 2 _ _ rfl rfl)
  exact zyl (h a b c) hT ⟨ha,hb,hc,trivial⟩

end runs
end Go.Sy
namespace Go.Sy
section ops
variable {c:Ctx} {d:Option Nat} {ty:TypeId} {pos:String} {af:Array Edge} {g:Option (Nat × Bool)} {σ:St}

theorem zf8 (n:Int):IntKind.u64.wrap n=n % 18446744073709551616:=by
 have h1:IntKind.u64.signed=false:=rfl
 have h2:((2:Int) ^ IntKind.u64.bits)=18446744073709551616:=by rfl
 unfold IntKind.wrap
 rw [h1,h2]
 simp

theorem zzO {x:Operand} {p:Int} {T U:TypeId} {k:IntKind} (hT:c.P.underlying T=some (.int k)) (hU:c.P.underlying U=some (.int .u64)) (hx:zB σ.Γ x=some (isv p)) :
    OpV c ⟨d,.convert T U x,ty,pos,af,g⟩ σ (isv (UInt64.ofNat (p % 18446744073709551616).toNat)):=λS a w m=>by
  obtain ⟨h1,_⟩:=zah.1 (zb m hx)
  have h0:0 <= p % 18446744073709551616:=by omega
  have h2:p % 18446744073709551616 < 18446744073709551616:=by omega
  have e:((UInt64.ofNat (p % 18446744073709551616).toNat).toNat:Int)=p % 18446744073709551616:=by
    rw [UInt64.toNat_ofNat',Nat.mod_eq_of_lt (by omega)];omega
  exact ⟨.int .u64 (p % 18446744073709551616),zaW.2 (by rw [e]),λw' _=>by
    simp [execOp,convert,underlying,hT,hU,h1,Conv.intToInt,zf8]⟩

theorem zzT {x:Operand} {u:UInt64} {T U:TypeId} {k:IntKind} (hT:c.P.underlying T=some (.int k)) (hU:c.P.underlying U=some (.int .i64)) (hx:zB σ.Γ x=some (isv u)) (hu:(u.toNat:Int) <= 9223372036854775807) :
    OpV c ⟨d,.convert T U x,ty,pos,af,g⟩ σ (isv (u.toNat:Int)):=λS a w m=>by
  have h1:=zaW.1 (zb m hx)
  have hb:zc3 (u.toNat:Int):=zk3 (by omega) hu
  exact ⟨.int .i64 u.toNat,zah.2 ⟨rfl,hb⟩,λw' _=>by
    simp [execOp,convert,underlying,hT,hU,h1,Conv.intToInt,zfz hb]⟩

theorem zzy {x y:Operand} {p q:UInt64} {T U:TypeId} (hx:zB σ.Γ x=some (isv p)) (hy:zB σ.Γ y=some (isv q)) (hq:q.toNat ≠ 0) :
    OpV c ⟨d,.binOp .rem T x y U,ty,pos,af,g⟩ σ (isv (p % q)):=λS a w m=>by
  have h1:=zaW.1 (zb m hx)
  have h2:=zaW.1 (zb m hy)
  refine ⟨.int .u64 ((p % q).toNat:Int),zaW.2 rfl,λw' _=>?_⟩
  have e:((p.toNat:Int).tmod (q.toNat:Int))=((p % q).toNat:Int):=by
    rw [UInt64.toNat_mod];rfl
  simp [execOp,binOp,eqGuard,h1,h2,Op.intDiv,e]
  intro h;exact absurd h hq
end ops
/-! ### The words of the models -/
section words
variable {α β ι ρ:Type}
@[irreducible] def fuel:Nat:=1000000000000000000
def ck (x:Int) (k:Option β):Option β:=bif zt4 x then k else none
def asr (b:Bool) (k:Option β):Option β:=bif b then k else none
def br (b:Bool) (t e:Option β):Option β:=bif b then t else e
def zq (l:List α) (i:Int):Option α:=match i with
 | .ofNat n=>l[n]?
 | .negSucc _=>none
def cal (m:Option α) (k:α->Option β):Option β:=m.bind k
def jp (B:(ι->Option β)->Option β) (R:ι->Option β):Option β:=B R
def lpN (F:(ι->Option β)->ι->Option β):Nat->ι->Option β
 | 0,_=>none
 | n + 1,i=>F (lpN F n) i
def lp (F:(ι->Option β)->ι->Option β) (i:ι):Option β:=lpN F fuel i

theorem zfx {x:Int} {k:Option β} {r:β} (h:ck x k=some r) {g:Prop} (K:zc3 x->k=some r->g):g:=by
 unfold ck at h
 cases hb:zt4 x with
 | true=>rw [hb] at h;exact K (ztq hb) h
 | false=>rw [hb] at h;cases h
theorem zbC {b:Bool} {k:Option β} {r:β} (h:asr b k=some r) {g:Prop} (K:b=true->k=some r->g):g:=by
 unfold asr at h
 cases hb:b with
 | true=>rw [hb] at h;exact K hb h
 | false=>rw [hb] at h;cases h
theorem zcf {p:Prop} [Decidable p] {k:Option β} {r:β} (h:asr (decide p) k=some r) {g:Prop} (K:p->k=some r->g):g :=
 zbC h λh1 h2=>K (zOT h1) h2
theorem zAl {b:Bool} {t e:Option β} {r:β} (h:br b t e=some r) (hb:b=true):t=some r:=by subst hb;exact h
theorem zAf {b:Bool} {t e:Option β} {r:β} (h:br b t e=some r) (hb:b=false):e=some r:=by subst hb;exact h
theorem zat {m:Option α} {k:α->Option β} {r:β} (h:cal m k=some r) {g:Prop} (K:∀ y,m=some y->k y=some r->g):g:=by
 unfold cal at h
 cases hm:m with
 | none=>rw [hm] at h;cases h
 | some y=>rw [hm] at h;exact K y hm h
theorem zow {l:List α} {i:Int} {y:α} (h:zq l i=some y):0 <= i/\l[i.toNat]?=some y:=by
 unfold zq at h
 cases i with
 | ofNat n=>exact ⟨by simp only [Int.ofNat_eq_natCast];omega,h⟩
 | negSucc n=>cases h
end words

/-! ### The rules -/
section rules
variable {c:Ctx} {ops:Array Oper} {Q:Exit->Act->World->Prop} {ι β:Type} {r:β}

def zpL (Γ' mod:zM):Prop:=∀ i R,zcg mod i=some R->∃ R0,zcg Γ' i=some R0/\∀ S v,R0.p S v->R.p S v

theorem ziu {Γ Γ' mod:zM} {H' Hm Hr Hx:List Ent} (n:Nat) (hd:Γ'.drop n=Γ) (ht:zqK (Γ'.take n) (mod.map (·.1)) Γ=true) (hm:zpL Γ' mod) (hT:zbq H' (Hm ++ Hr) Hx):Imp ⟨Γ',H'⟩ ⟨mod ++ Γ,Hm ++ Hr⟩ :=
 ⟨zof n hd ht hm,Hx,hT⟩

theorem zcu {x:Operand} {σ:St} {t e:Code} {b:Bool} {T E:Option β} (h:br b T E=some r) (hx:zB σ.Γ x=some (isv b)) (ht:b=true->T=some r->Wp c t σ Q) (he:b=false->E=some r->Wp c e σ Q):Wp c (.cond x t e) σ Q :=
 zwy hx (λhb=>ht hb (zAl h hb)) (λhb=>he hb (zAf h hb))

end rules
theorem zi2 (n:Int):IntKind.u8.wrap n=n % 256:=by
 have h1:IntKind.u8.signed=false:=rfl
 have h2:((2:Int) ^ IntKind.u8.bits)=256:=by rfl
 unfold IntKind.wrap
 rw [h1,h2]
 simp

def zsT (x:UInt8) (n:Nat):UInt8:=UInt8.ofNat (x.toNat * 2 ^ n)
def zf0 (x:UInt8) (n:Nat):UInt8:=UInt8.ofNat (x.toNat / 2 ^ n)

section ops
variable {c:Ctx} {d:Option Nat} {ty:TypeId} {pos:String} {af:Array Edge} {g:Option (Nat × Bool)} {σ:St}

theorem zzC {x i:Operand} {s:Str} {k:Int} (y:UInt8) {T:Nat} (hT:zkw c.P T=true) (hx:zB σ.Γ x=some (isv s)) (hi:zB σ.Γ i=some (isv k))
    (hy:zq s.b k=some y):OpV c ⟨d,.index T x i,ty,pos,af,g⟩ σ (isv y):=λS a w m=>by
  obtain ⟨h1,h2⟩:=zdv.1 (zb m hx)
  obtain ⟨h5,_⟩:=zah.1 (zb m hi)
  obtain ⟨hk,hy⟩:=zow hy
  refine ⟨.int .u8 y.toNat,zbS.2 rfl,λw' _=>?_⟩
  have h3:s.ba[k.toNat]?=some y:=by
    have hlt:=(List.getElem?_eq_some_iff.1 hy).1
    have hlt2:k.toNat < s.ba.size:=by rw [Str.ba_size];exact hlt
    rw [getElem?_pos s.ba k.toNat hlt2]
    have:s.ba[k.toNat]=s.b[k.toNat]:=rfl
    rw [this];exact congrArg some (List.getElem?_eq_some_iff.1 hy).2
  simp [execOp,h1,h5,Instr.index,asIntOf,underlying,zkw.spec hT,hk,h3]

theorem zj7 (s:Str) (i j:Nat):s.ba.extract i j=Str.ba ⟨(s.b.take j).drop i⟩:=by
 have h:(s.ba.extract i j).data=(Str.ba ⟨(s.b.take j).drop i⟩).data:=by
  rw [ByteArray.data_extract]
  simp [Str.ba]
  rw [List.drop_take]
 cases h1:s.ba.extract i j
 cases h2:Str.ba ⟨(s.b.take j).drop i⟩
 rw [h1,h2] at h
 simp only at h
 rw [h]

theorem zzG {x:Operand} {lo hi:Option Operand} {s:Str} {k q:Int} {T:Nat} (hT:zkw c.P T=true) (hx:zB σ.Γ x=some (isv s))
    (hlo:(lo=none/\k=0) \/ ∃ o,lo=some o/\zB σ.Γ o=some (isv k)) (hhi:(hi=none/\q=s.b.length) \/ ∃ o,hi=some o/\zB σ.Γ o=some (isv q))
    (hk:0 <= k) (hkq:k <= q) (hq:q <= s.b.length):OpV c ⟨d,.slice T x lo hi none,ty,pos,af,g⟩ σ (isv (Str.mk ((s.b.take q.toNat).drop k.toNat))):=λS a w m=>by
  obtain ⟨h1,h2⟩:=zdv.1 (zb m hx)
  refine ⟨.string (Str.ba ⟨(s.b.take q.toNat).drop k.toNat⟩),zdv.2 ⟨rfl,by simp only [zLd,zLt];omega⟩,λw' _=>?_⟩
  have hsz:s.ba.size=s.b.length:=Str.ba_size s
  have b1:∀ (v:Value) (code:BoundsCode),v=.int .i64 q->(Instr.sliceBound v s.ba.size code).run c.P w'=.ok q.toNat w':=λv code hv=>by
    rw [hv];exact zd1 (by omega) (by rw [hsz];omega)
  have b2:∀ (v:Value) (code:BoundsCode),v=.int .i64 k->(Instr.sliceBound v q.toNat code).run c.P w'=.ok k.toNat w':=λv code hv=>by
    rw [hv];exact zd1 (by omega) (by omega)
  have ex:=zj7 s k.toNat q.toNat
  rcases hlo with ⟨rfl,rfl⟩ | ⟨o1,rfl,ho1⟩
  · rcases hhi with ⟨rfl,rfl⟩ | ⟨o2,rfl,ho2⟩
    · have ex':s.ba.extract 0 s.ba.size=Str.ba ⟨(s.b.take (s.b.length:Int).toNat).drop (0:Int).toNat⟩:=by rw [hsz];exact zj7 s 0 s.b.length
      simp [execOp,h1,Instr.sliceAt,Instr.slice,Instr.sliceBounds,underlying,zkw.spec hT] at ex' ⊢ <;> exact ex'
    · have e2:=b1 _ .sliceAlen (zah.1 (zb m ho2)).1
      simp [execOp,h1,Instr.sliceAt,Instr.slice,Instr.sliceBounds,underlying,zkw.spec hT,e2] at ex ⊢ <;> exact ex
  · have e1:=λcode=>b2 _ code (zah.1 (zb m ho1)).1
    rcases hhi with ⟨rfl,rfl⟩ | ⟨o2,rfl,ho2⟩
    · have e1':(Instr.sliceBound (a.eval o1) s.ba.size .sliceB).run c.P w'=.ok k.toNat w':=by
        have:=e1 .sliceB
        rw [hsz];simpa using this
      have ex':s.ba.extract k.toNat s.ba.size=Str.ba ⟨(s.b.take (s.b.length:Int).toNat).drop k.toNat⟩:=by rw [hsz];exact zj7 s k.toNat s.b.length
      simp [execOp,h1,Instr.sliceAt,Instr.slice,Instr.sliceBounds,underlying,zkw.spec hT,e1'] at ex' ⊢ <;> exact ex'
    · have e2:=b1 _ .sliceAlen (zah.1 (zb m ho2)).1
      simp [execOp,h1,Instr.sliceAt,Instr.slice,Instr.sliceBounds,underlying,zkw.spec hT,e2,e1] <;> exact ex

theorem ztS (s t:Str):s.ba ++ t.ba=Str.ba ⟨s.b ++ t.b⟩:=by
 have h:(s.ba ++ t.ba).data=(Str.ba ⟨s.b ++ t.b⟩).data:=by
  rw [ByteArray.data_append]
  simp [Str.ba]
 cases h1:s.ba ++ t.ba
 cases h2:Str.ba ⟨s.b ++ t.b⟩
 rw [h1,h2] at h
 simp only at h
 rw [h]

theorem zzP {x y:Operand} {s t:Str} {T U:TypeId} (hx:zB σ.Γ x=some (isv s)) (hy:zB σ.Γ y=some (isv t)) (hl:Nat.ble (s.b.length + t.b.length) 4611686018427387904=true) :
    OpV c ⟨d,.binOp .add T x y U,ty,pos,af,g⟩ σ (isv (Str.mk (s.b ++ t.b))):=λS a w m=>by
  obtain ⟨h1,_⟩:=zdv.1 (zb m hx)
  obtain ⟨h2,_⟩:=zdv.1 (zb m hy)
  have hl':=Nat.le_of_ble_eq_true hl
  refine ⟨.string (Str.ba ⟨s.b ++ t.b⟩),zdv.2 ⟨rfl,by simp only [zLa];exact hl'⟩,λw' _=>?_⟩
  simp [execOp,binOp,eqGuard,h1,h2,Op.stringOp,ztS]
  rw [Str.ba_size,Str.ba_size];omega

section u8
variable {x y:Operand} {t u:TypeId} {p q:UInt8}
theorem zzH (p q:UInt8):decide ((p.toNat:Int) < (q.toNat:Int))=decide (p < q):=by
 rw [decide_eq_decide,UInt8.lt_iff_toNat_lt];omega
theorem zz1 (p q:UInt8):decide ((p.toNat:Int) <= (q.toNat:Int))=decide (p <= q):=by
 rw [decide_eq_decide,UInt8.le_iff_toNat_le];omega
theorem zgU (hx:zB σ.Γ x=some (isv p)) (hy:zB σ.Γ y=some (isv q)):OpV c ⟨d,.binOp .lss t x y u,ty,pos,af,g⟩ σ (isv (decide (p < q))):=λS a w m=>by
 have h1:=zbS.1 (zb m hx)
 have h2:=zbS.1 (zb m hy)
 exact ⟨.bool (decide (p < q)),zbO.2 rfl,λw' _=>by rw [<- zzH];simp [execOp,binOp,eqGuard,h1,h2,Op.intCmp]⟩
theorem zze (hx:zB σ.Γ x=some (isv p)) (hy:zB σ.Γ y=some (isv q)):OpV c ⟨d,.binOp .gtr t x y u,ty,pos,af,g⟩ σ (isv (decide (q < p))):=λS a w m=>by
 have h1:=zbS.1 (zb m hx)
 have h2:=zbS.1 (zb m hy)
 exact ⟨.bool (decide (q < p)),zbO.2 rfl,λw' _=>by rw [<- zzH];simp [execOp,binOp,eqGuard,h1,h2,Op.intCmp]⟩
theorem zy8 (hx:zB σ.Γ x=some (isv p)) (hy:zB σ.Γ y=some (isv q)):OpV c ⟨d,.binOp .leq t x y u,ty,pos,af,g⟩ σ (isv (decide (p <= q))):=λS a w m=>by
 have h1:=zbS.1 (zb m hx)
 have h2:=zbS.1 (zb m hy)
 exact ⟨.bool (decide (p <= q)),zbO.2 rfl,λw' _=>by rw [<- zz1];simp [execOp,binOp,eqGuard,h1,h2,Op.intCmp]⟩
theorem zyQ (hx:zB σ.Γ x=some (isv p)) (hy:zB σ.Γ y=some (isv q)):OpV c ⟨d,.binOp .geq t x y u,ty,pos,af,g⟩ σ (isv (decide (q <= p))):=λS a w m=>by
 have h1:=zbS.1 (zb m hx)
 have h2:=zbS.1 (zb m hy)
 exact ⟨.bool (decide (q <= p)),zbO.2 rfl,λw' _=>by rw [<- zz1];simp [execOp,binOp,eqGuard,h1,h2,Op.intCmp]⟩
theorem zyW (hx:zB σ.Γ x=some (isv p)) (hy:zB σ.Γ y=some (isv q)):OpV c ⟨d,.binOp .add t x y u,ty,pos,af,g⟩ σ (isv (p + q)):=λS a w m=>by
 have h1:=zbS.1 (zb m hx)
 have h2:=zbS.1 (zb m hy)
 have e:(((p + q).toNat:Nat):Int)=((p.toNat:Int) + (q.toNat:Int)) % 256:=by rw [UInt8.toNat_add];omega
 exact ⟨.int .u8 ((p + q).toNat:Int),zbS.2 rfl,λw' _=>by rw [e];simp [execOp,binOp,eqGuard,h1,h2,Op.intArith,zi2]⟩
theorem zzr (hx:zB σ.Γ x=some (isv p)) (hy:zB σ.Γ y=some (isv q)):OpV c ⟨d,.binOp .sub t x y u,ty,pos,af,g⟩ σ (isv (p - q)):=λS a w m=>by
 have h1:=zbS.1 (zb m hx)
 have h2:=zbS.1 (zb m hy)
 have hp:=p.toNat_lt
 have hq:=q.toNat_lt
 have e:(((p - q).toNat:Nat):Int)=((p.toNat:Int) - (q.toNat:Int)) % 256:=by rw [UInt8.toNat_sub];omega
 exact ⟨.int .u8 ((p - q).toNat:Int),zbS.2 rfl,λw' _=>by rw [e];simp [execOp,binOp,eqGuard,h1,h2,Op.intArith,zi2]⟩
theorem bv8 (p:UInt8):BitVec.ofInt 8 (p.toNat:Int)=p.toBitVec:=by
 apply BitVec.eq_of_toNat_eq
 rw [BitVec.toNat_ofInt]
 have h:=p.toNat_lt
 have e:p.toBitVec.toNat=p.toNat:=rfl
 rw [e]
 omega
theorem zzJ (hx:zB σ.Γ x=some (isv p)) (hy:zB σ.Γ y=some (isv q)):OpV c ⟨d,.binOp .or t x y u,ty,pos,af,g⟩ σ (isv (p ||| q)):=λS a w m=>by
 have h1:=zbS.1 (zb m hx)
 have h2:=zbS.1 (zb m hy)
 have h:=(p ||| q).toNat_lt
 have e:(((p ||| q).toNat:Nat):Int)=((BitVec.ofInt 8 (p.toNat:Int) ||| BitVec.ofInt 8 (q.toNat:Int)).toNat:Int) % 256:=by
  rw [bv8,bv8]
  have:(p.toBitVec ||| q.toBitVec).toNat=(p ||| q).toNat:=rfl
  rw [this];omega
 exact ⟨.int .u8 ((p ||| q).toNat:Int),zbS.2 rfl,λw' _=>by
  have hr:(Op.intBits .or .u8 (p.toNat:Int) (q.toNat:Int)).run c.P w'=.ok (.int .u8 ((p ||| q).toNat:Int)) w':=by
   rw [e];unfold Op.intBits;simp only [Sem.run_pure,zi2];rfl
  simp [execOp,binOp,eqGuard,h1,h2,hr]⟩
theorem zsB (hx:zB σ.Γ x=some (isv p)) (hy:zB σ.Γ y=some (isv q)):OpV c ⟨d,.binOp .and t x y u,ty,pos,af,g⟩ σ (isv (p &&& q)):=λS a w m=>by
 have h1:=zbS.1 (zb m hx)
 have h2:=zbS.1 (zb m hy)
 have h:=(p &&& q).toNat_lt
 have e:(((p &&& q).toNat:Nat):Int)=((BitVec.ofInt 8 (p.toNat:Int) &&& BitVec.ofInt 8 (q.toNat:Int)).toNat:Int) % 256:=by
  rw [bv8,bv8]
  have:(p.toBitVec &&& q.toBitVec).toNat=(p &&& q).toNat:=rfl
  rw [this];omega
 exact ⟨.int .u8 ((p &&& q).toNat:Int),zbS.2 rfl,λw' _=>by
  have hr:(Op.intBits .and .u8 (p.toNat:Int) (q.toNat:Int)).run c.P w'=.ok (.int .u8 ((p &&& q).toNat:Int)) w':=by
   rw [e];unfold Op.intBits;simp only [Sem.run_pure,zi2];rfl
  simp [execOp,binOp,eqGuard,h1,h2,hr]⟩
theorem zyM {n:UInt64} (hx:zB σ.Γ x=some (isv p)) (hy:zB σ.Γ y=some (isv n)) (hn:Nat.ble n.toNat 8=true):OpV c ⟨d,.binOp .shl t x y u,ty,pos,af,g⟩ σ (isv (zsT p n.toNat)):=λS a w m=>by
 have h1:=zbS.1 (zb m hx)
 have h2:=zaW.1 (zb m hy)
 have hn':=Nat.le_of_ble_eq_true hn
 have e:(((zsT p n.toNat).toNat:Nat):Int)=((p.toNat:Int) * 2 ^ n.toNat) % 256:=by
  unfold zsT
  rw [UInt8.toNat_ofNat']
  simp
 have hmin:min n.toNat 8=n.toNat:=Nat.min_eq_left hn'
 exact ⟨.int .u8 ((zsT p n.toNat).toNat:Int),zbS.2 rfl,λw' _=>by rw [e];simp [execOp,binOp,eqGuard,h1,h2,Op.shift,zi2,IntKind.bits,hmin]⟩
end u8

section u64
variable {x y:Operand} {t u:TypeId} {p q:UInt64}
theorem zw5 (hx:zB σ.Γ x=some (isv p)) (hy:zB σ.Γ y=some (isv q)):OpV c ⟨d,.binOp .lss t x y u,ty,pos,af,g⟩ σ (isv (decide (p < q))):=λS a w m=>by
 have h1:=zaW.1 (zb m hx)
 have h2:=zaW.1 (zb m hy)
 have e:decide (p < q)=decide ((p.toNat:Int) < (q.toNat:Int)):=by rw [decide_eq_decide,UInt64.lt_iff_toNat_lt];omega
 exact ⟨.bool (decide (p < q)),zbO.2 rfl,λw' _=>by rw [e];simp [execOp,binOp,eqGuard,h1,h2,Op.intCmp]⟩
theorem zxy (hx:zB σ.Γ x=some (isv p)) (hy:zB σ.Γ y=some (isv q)):OpV c ⟨d,.binOp .gtr t x y u,ty,pos,af,g⟩ σ (isv (decide (q < p))):=λS a w m=>by
 have h1:=zaW.1 (zb m hx)
 have h2:=zaW.1 (zb m hy)
 have e:decide (q < p)=decide ((q.toNat:Int) < (p.toNat:Int)):=by rw [decide_eq_decide,UInt64.lt_iff_toNat_lt];omega
 exact ⟨.bool (decide (q < p)),zbO.2 rfl,λw' _=>by rw [e];simp [execOp,binOp,eqGuard,h1,h2,Op.intCmp]⟩
theorem zpK (hx:zB σ.Γ x=some (isv p)) (hy:zB σ.Γ y=some (isv q)):OpV c ⟨d,.binOp .eql t x y u,ty,pos,af,g⟩ σ (isv (decide (p=q))):=λS a w m=>by
 have h1:=zaW.1 (zb m hx)
 have h2:=zaW.1 (zb m hy)
 have e:decide (p=q)=decide (p.toNat=q.toNat):=by rw [decide_eq_decide,UInt64.toNat_inj]
 have hb:((p.toNat:Int) == (q.toNat:Int))=decide (p.toNat=q.toNat):=by
  by_cases h:p.toNat=q.toNat <;> simp [h];omega
 exact ⟨.bool (decide (p=q)),zbO.2 rfl,λw' _=>by rw [e];simp only [execOp,binOp,eqGuard,h1,h2,Op.intCmp,hb];simp⟩
theorem zw9 (hx:zB σ.Γ x=some (isv p)) (hy:zB σ.Γ y=some (isv q)):OpV c ⟨d,.binOp .add t x y u,ty,pos,af,g⟩ σ (isv (p + q)):=λS a w m=>by
 have h1:=zaW.1 (zb m hx)
 have h2:=zaW.1 (zb m hy)
 have e:(((p + q).toNat:Nat):Int)=((p.toNat:Int) + (q.toNat:Int)) % 18446744073709551616:=by rw [UInt64.toNat_add];omega
 exact ⟨.int .u64 ((p + q).toNat:Int),zaW.2 rfl,λw' _=>by rw [e];simp [execOp,binOp,eqGuard,h1,h2,Op.intArith,zf8]⟩
theorem zxe (hx:zB σ.Γ x=some (isv p)) (hy:zB σ.Γ y=some (isv q)):OpV c ⟨d,.binOp .sub t x y u,ty,pos,af,g⟩ σ (isv (p - q)):=λS a w m=>by
 have h1:=zaW.1 (zb m hx)
 have h2:=zaW.1 (zb m hy)
 have hp:=p.toNat_lt
 have hq:=q.toNat_lt
 have e:(((p - q).toNat:Nat):Int)=((p.toNat:Int) - (q.toNat:Int)) % 18446744073709551616:=by rw [UInt64.toNat_sub];omega
 exact ⟨.int .u64 ((p - q).toNat:Int),zaW.2 rfl,λw' _=>by rw [e];simp [execOp,binOp,eqGuard,h1,h2,Op.intArith,zf8]⟩
theorem zyb (hx:zB σ.Γ x=some (isv p)) (hy:zB σ.Γ y=some (isv q)):OpV c ⟨d,.binOp .mul t x y u,ty,pos,af,g⟩ σ (isv (p * q)):=λS a w m=>by
 have h1:=zaW.1 (zb m hx)
 have h2:=zaW.1 (zb m hy)
 have e:(((p * q).toNat:Nat):Int)=((p.toNat:Int) * (q.toNat:Int)) % 18446744073709551616:=by
  rw [UInt64.toNat_mul];simp
 exact ⟨.int .u64 ((p * q).toNat:Int),zaW.2 rfl,λw' _=>by rw [e];simp [execOp,binOp,eqGuard,h1,h2,Op.intArith,zf8]⟩
theorem zyk (hx:zB σ.Γ x=some (isv p)) (hy:zB σ.Γ y=some (isv q)) (hq:(!decide (q=0))=true):OpV c ⟨d,.binOp .quo t x y u,ty,pos,af,g⟩ σ (isv (p / q)):=λS a w m=>by
 have h1:=zaW.1 (zb m hx)
 have h2:=zaW.1 (zb m hy)
 have hq0:q.toNat ≠ 0:=λh=>by
  have:q=0:=UInt64.toNat_inj.1 h
  simp [this] at hq
 have hlt:=(p / q).toNat_lt
 have e:((p.toNat:Int).tdiv (q.toNat:Int))=((p / q).toNat:Int):=by
  rw [UInt64.toNat_div];rfl
 have e2:(((p / q).toNat:Nat):Int) % 18446744073709551616=((p / q).toNat:Int):=by omega
 refine ⟨.int .u64 ((p / q).toNat:Int),zaW.2 rfl,λw' _=>?_⟩
 have hqi:¬ ((q.toNat:Int)=0):=by omega
 have hr:(Op.intDiv .quo .u64 (p.toNat:Int) (q.toNat:Int)).run c.P w'=.ok (.int .u64 ((p / q).toNat:Int)) w':=by
  unfold Op.intDiv;rw [if_neg hqi];simp only [Sem.run_pure,zf8,e,e2]
 simp [execOp,binOp,eqGuard,h1,h2,hr]
theorem zxM (hx:zB σ.Γ x=some (isv p)) (hy:zB σ.Γ y=some (isv q)) (hq:(!decide (q=0))=true):OpV c ⟨d,.binOp .rem t x y u,ty,pos,af,g⟩ σ (isv (p % q)) :=
 zzy hx hy (λh=>by
  have:q=0:=UInt64.toNat_inj.1 h
  simp [this] at hq)
end u64

theorem zh2 {x:Operand} {p:UInt8} {T U:TypeId} {k:IntKind} (hT:c.P.underlying T=some (.int k)) (hU:c.P.underlying U=some (.int .u64)) (hx:zB σ.Γ x=some (isv p)) :
    OpV c ⟨d,.convert T U x,ty,pos,af,g⟩ σ (isv (p.toUInt64)):=λS a w m=>by
  have h1:=zbS.1 (zb m hx)
  have h:=p.toNat_lt
  exact ⟨.int .u64 (p.toUInt64.toNat:Int),zaW.2 rfl,λw' _=>by
    have e:((p.toUInt64.toNat:Nat):Int)=(p.toNat:Int) % 18446744073709551616:=by simp;omega
    rw [e]
    simp [execOp,convert,underlying,hT,hU,h1,Conv.intToInt,zf8]⟩
theorem zxr {x:Operand} {p:UInt64} {T U:TypeId} {k:IntKind} (hT:c.P.underlying T=some (.int k)) (hU:c.P.underlying U=some (.int .u8)) (hx:zB σ.Γ x=some (isv p)) :
    OpV c ⟨d,.convert T U x,ty,pos,af,g⟩ σ (isv (p.toUInt8)):=λS a w m=>by
  have h1:=zaW.1 (zb m hx)
  exact ⟨.int .u8 (p.toUInt8.toNat:Int),zbS.2 rfl,λw' _=>by
    have e:((p.toUInt8.toNat:Nat):Int)=(p.toNat:Int) % 256:=by simp
    rw [e]
    simp [execOp,convert,underlying,hT,hU,h1,Conv.intToInt,zi2]⟩
theorem zxc {x:Operand} {p:Int} {T U:TypeId} {k:IntKind} (hT:c.P.underlying T=some (.int k)) (hU:c.P.underlying U=some (.int .u8)) (hx:zB σ.Γ x=some (isv p)) :
    OpV c ⟨d,.convert T U x,ty,pos,af,g⟩ σ (isv (UInt8.ofNat (p % 256).toNat)):=λS a w m=>by
  obtain ⟨h1,_⟩:=zah.1 (zb m hx)
  have h0:0 <= p % 256:=by omega
  have h2:p % 256 < 256:=by omega
  have e:((UInt8.ofNat (p % 256).toNat).toNat:Int)=p % 256:=by
    rw [UInt8.toNat_ofNat',Nat.mod_eq_of_lt (by omega)];omega
  exact ⟨.int .u8 (p % 256),zbS.2 (by rw [e]),λw' _=>by
    simp [execOp,convert,underlying,hT,hU,h1,Conv.intToInt,zi2]⟩
theorem zAm {x:Operand} {p:Int} {T U:TypeId} {k:IntKind} (hT:c.P.underlying T=some (.int k)) (hU:c.P.underlying U=some (.int .i64)) (hx:zB σ.Γ x=some (isv p)) :
    OpV c ⟨d,.convert T U x,ty,pos,af,g⟩ σ (isv p):=λS a w m=>by
  obtain ⟨h1,h2⟩:=zah.1 (zb m hx)
  exact ⟨.int .i64 p,zah.2 ⟨rfl,h2⟩,λw' _=>by
    simp [execOp,convert,underlying,hT,hU,h1,Conv.intToInt,zfz h2]⟩
theorem zyV {x:Operand} {u:UInt64} {T U:TypeId} {k:IntKind} (hT:c.P.underlying T=some (.int k)) (hU:c.P.underlying U=some (.int .i64)) (hx:zB σ.Γ x=some (isv u)) (hu:zc3 (u.toNat:Int)) :
    OpV c ⟨d,.convert T U x,ty,pos,af,g⟩ σ (isv (u.toNat:Int)):=zzT hT hU hx hu.2
theorem zzU {x:Operand} {t:TypeId} {p:Int} (hx:zB σ.Γ x=some (isv p)) (hb:zc3 (-p)):OpV c ⟨d,.unOp .neg t x,ty,pos,af,g⟩ σ (isv (-p)):=λS a w m=>by
 obtain ⟨h1,_⟩:=zah.1 (zb m hx)
 exact ⟨.int .i64 (-p),zah.2 ⟨rfl,hb⟩,λw' _=>by
  have e:(0:Int) - p=-p:=by omega
  simp [execOp,Op.unary,h1,Op.intArith,e,zfz hb]⟩
end ops
section zbP
variable {κ ν:Type} [Rep κ] [Rep ν]

end zbP
section zbP
variable {κ ν:Type} [Rep κ] [Rep ν] [DecidableEq κ]
end zbP

section ops
variable {c:Ctx} {ty:TypeId} {pos:String} {af:Array Edge} {g:Option (Nat × Bool)}

end ops
section ops
variable {c:Ctx} {d:Option Nat} {ty:TypeId} {pos:String} {af:Array Edge} {g:Option (Nat × Bool)} {σ:St}

end ops
structure zaa (α:Type) where
 t:Tok
 l:List α
instance {α:Type} [Rep α]:Rep (zaa α) where
 n:=1
 agg:=false
 rd:=λS cs x=>∃ v,cs=[v]/\(zbK x.t x.l).p S v
 len:=λ⟨v,e,_⟩=>by rw [e];rfl
 mono:=λh ⟨v,e,k⟩=>⟨v,e,(zbK _ _).mono h k⟩
 cell:=λ⟨v,e,k⟩ u hu=>by
  rw [e] at hu;simp at hu;subst hu
  obtain ⟨⟨p,cap,e1,_⟩,_⟩:=k
  rw [e1];rfl
 one:=λ_=>rfl
theorem isvT {α:Type} [Rep α] {t:Tok} {l:List α} {S:Frz} {v:Value}:(isv (zaa.mk t l)).p S v ↔ (zbK t l).p S v:=by
 constructor
 ·intro h
  obtain ⟨u,e,h⟩:=(zeV h rfl).2
  simp at e;subst e;exact h
 ·intro h
  exact ze8 rfl ⟨v,rfl,h⟩
theorem zoL {α:Type} [Rep α] {t:Tok} {l:List α} (S:Frz) (v:Value) (h:(isv (zaa.mk t l)).p S v):(zbK t l).p S v:=isvT.1 h
theorem zr2 {α:Type} [Rep α] {t:Tok} {l:List α} (S:Frz) (v:Value) (h:(zbK t l).p S v):(isv (zaa.mk t l)).p S v:=isvT.2 h
theorem nilvT {α:Type} [Rep α] (S:Frz) (v:Value) (h:zeI.p S v):(isv (zaa.mk none ([]:List α))).p S v:=isvT.2 (zii S v h)

abbrev Vt:=Option (Nat × Nat)
def zbw (t:Vt) (n:Nat):VP where
 p:=λ_ v=>n <= zfr/\match t with
  | none=>v=.slice none 0 0/\n=0
  | some (b,cap)=>v=.slice (some ⟨b,0,none⟩) n cap
 mono:=λ_ h=>h
structure Vh where
 t:Vt
 n:Nat
instance:Rep Vh where
 n:=1
 agg:=false
 rd:=λS cs x=>∃ v,cs=[v]/\(zbw x.t x.n).p S v
 len:=λ⟨v,e,_⟩=>by rw [e];rfl
 mono:=λh ⟨v,e,k⟩=>⟨v,e,(zbw _ _).mono h k⟩
 cell:=λ{S cs x} ⟨v,e,k⟩ u hu=>by
  rw [e] at hu;simp at hu;subst hu
  obtain ⟨_,k⟩:=k
  rcases x with ⟨t,n⟩
  cases t with
  | none=>rw [k.1];rfl
  | some t=>simp only at k;rw [k];rfl
 one:=λ_=>rfl
theorem isvV {t:Vt} {n:Nat} {S:Frz} {v:Value}:(isv (Vh.mk t n)).p S v ↔ (zbw t n).p S v:=by
 constructor
 ·intro h
  obtain ⟨u,e,h⟩:=(zeV h rfl).2
  simp at e;subst e;exact h
 ·intro h
  exact ze8 rfl ⟨v,rfl,h⟩
theorem zs1 {t:Vt} {n:Nat} (S:Frz) (v:Value) (h:(isv (Vh.mk t n)).p S v):(zbw t n).p S v:=isvV.1 h
theorem zyA {t:Vt} {n:Nat} (S:Frz) (v:Value) (h:(zbw t n).p S v):(isv (Vh.mk t n)).p S v:=isvV.2 h
theorem zlv (S:Frz) (v:Value) (h:zeI.p S v):(zbw none 0).p S v:=⟨zNz _,h,rfl⟩
theorem zzb (S:Frz) (v:Value) (h:zeI.p S v):(isv (Vh.mk none 0)).p S v:=isvV.2 (zlv S v h)
theorem ziH {t:Vt} {n m:Nat} (e:n=m) (S:Frz) (v:Value) (h:(zbw t n).p S v):(zbw t m).p S v:=e ▸ h

def zI {α : Type} [Rep α] (t:Vt) (l:List α):Ent where
  k:=t.map (·.1)
  φ := { p := λb S o=>match t with
           | none=>True
           | some (_,cap)=>S b=none/\∃ cs T,o=.cells cs T (0,0)/\cs.size=cap * Rep.n α/\l.length <= cap/\rdL (Rep.rd S) l (cs.toList.take (l.length * Rep.n α))
         mono:=λ{S S' b o} h hb k=>by
           cases t with
           | none=>trivial
           | some t=>obtain ⟨h1,cs,T,e,h2,h3,h4⟩:=k;exact ⟨hb ▸ h1,cs,T,e,h2,h3,zgc (λ_ _=>Rep.mono h) h4⟩ }
def zcO {α β:Type} [Rep α] [Rep β] (t:Vt) (i:Nat) (L:Fld α β):VP where
 p:=λ_ v=>∃ b cap,t=some (b,cap)/\v=.pointer (some ⟨b,i * Rep.n α + L.off,none⟩)
 mono:=λ_ h=>h

theorem zyY {α:Type} {A v:List α} {p q m n n1:Nat} (hv:v.length=m) (h1:q + m <= n) (h2:p + n <= n1) (h3:n1 <= A.length) :
    (A.take n1).take p ++ (((((A.take n1).drop p).take n).take q ++ v) ++ (((A.take n1).drop p).take n).drop (q + m)) ++ (A.take n1).drop (p + n)=(A.take (p + q) ++ v ++ A.drop (p + q + m)).take n1:=by
  obtain ⟨A1,B1,rfl,l1⟩:∃ A1 B1,A=A1 ++ B1/\A1.length=p:=⟨A.take p,A.drop p,(List.take_append_drop ..).symm,by rw [zLt];omega⟩
  rw [zLa] at h3
  obtain ⟨A2,B2,rfl,l2⟩:∃ A2 B2,B1=A2 ++ B2/\A2.length=q:=⟨B1.take q,B1.drop q,(List.take_append_drop ..).symm,by rw [zLt];omega⟩
  rw [zLa] at h3
  obtain ⟨A3,B3,rfl,l3⟩:∃ A3 B3,B2=A3 ++ B3/\A3.length=m:=⟨B2.take m,B2.drop m,(List.take_append_drop ..).symm,by rw [zLt];omega⟩
  rw [zLa] at h3
  obtain ⟨A4,B4,rfl,l4⟩:∃ A4 B4,B3=A4 ++ B4/\A4.length=n - q - m:=⟨B3.take (n - q - m),B3.drop (n - q - m),(List.take_append_drop ..).symm,by rw [zLt];omega⟩
  rw [zLa] at h3
  obtain ⟨A5,B5,rfl,l5⟩:∃ A5 B5,B4=A5 ++ B5/\A5.length=n1 - p - n:=⟨B4.take (n1 - p - n),B4.drop (n1 - p - n),(List.take_append_drop ..).symm,by rw [zLt];omega⟩
  have e1:(A1 ++ (A2 ++ (A3 ++ (A4 ++ (A5 ++ B5))))).take n1=A1 ++ (A2 ++ (A3 ++ (A4 ++ A5))):=by
    have:A1 ++ (A2 ++ (A3 ++ (A4 ++ (A5 ++ B5))))=(A1 ++ (A2 ++ (A3 ++ (A4 ++ A5)))) ++ B5:=by simp only [zLA]
    rw [this];exact List.take_left' (by simp only [zLa];omega)
  have e2:(A1 ++ (A2 ++ (A3 ++ (A4 ++ A5)))).take p=A1:=List.take_left' l1
  have e3:(A1 ++ (A2 ++ (A3 ++ (A4 ++ A5)))).drop p=A2 ++ (A3 ++ (A4 ++ A5)):=List.drop_left' l1
  have e4:(A2 ++ (A3 ++ (A4 ++ A5))).take n=A2 ++ (A3 ++ A4):=by
    have:A2 ++ (A3 ++ (A4 ++ A5))=(A2 ++ (A3 ++ A4)) ++ A5:=by simp only [zLA]
    rw [this];exact List.take_left' (by simp only [zLa];omega)
  have e5:(A2 ++ (A3 ++ A4)).take q=A2:=List.take_left' l2
  have e6:(A2 ++ (A3 ++ A4)).drop (q + m)=A4:=by
    have:A2 ++ (A3 ++ A4)=(A2 ++ A3) ++ A4:=by simp only [zLA]
    rw [this];exact List.drop_left' (by simp only [zLa];omega)
  have e7:(A1 ++ (A2 ++ (A3 ++ (A4 ++ A5)))).drop (p + n)=A5:=by
    have:A1 ++ (A2 ++ (A3 ++ (A4 ++ A5)))=(A1 ++ (A2 ++ (A3 ++ A4))) ++ A5:=by simp only [zLA]
    rw [this];exact List.drop_left' (by simp only [zLa];omega)
  have e8:(A1 ++ (A2 ++ (A3 ++ (A4 ++ (A5 ++ B5))))).take (p + q)=A1 ++ A2:=by
    have:A1 ++ (A2 ++ (A3 ++ (A4 ++ (A5 ++ B5))))=(A1 ++ A2) ++ (A3 ++ (A4 ++ (A5 ++ B5))):=by simp only [zLA]
    rw [this];exact List.take_left' (by simp only [zLa];omega)
  have e9:(A1 ++ (A2 ++ (A3 ++ (A4 ++ (A5 ++ B5))))).drop (p + q + m)=A4 ++ (A5 ++ B5):=by
    have:A1 ++ (A2 ++ (A3 ++ (A4 ++ (A5 ++ B5))))=(A1 ++ A2 ++ A3) ++ (A4 ++ (A5 ++ B5)):=by simp only [zLA]
    rw [this];exact List.drop_left' (by simp only [zLa];omega)
  have e10:((A1 ++ A2) ++ v ++ (A4 ++ (A5 ++ B5))).take n1=(A1 ++ A2) ++ v ++ (A4 ++ A5):=by
    have:(A1 ++ A2) ++ v ++ (A4 ++ (A5 ++ B5))=((A1 ++ A2) ++ v ++ (A4 ++ A5)) ++ B5:=by simp only [zLA]
    rw [this];exact List.take_left' (by simp only [zLa];omega)
  rw [e1,e2,e3,e4,e5,e6,e7,e8,e9,e10]
  simp only [zLA]

theorem za6.ent {c:Ctx} {Γ:zM} {H:List Ent} {S:Frz} {a:Act} {w:World} {e e':Ent} (m:za6 c ⟨Γ,e :: H⟩ S a w) (hk:e'.k=e.k) (hs:e.sat S w->e'.sat S w):za6 c ⟨Γ,e' :: H⟩ S a w:=by
 have hkeys:zbP (e' :: H)=zbP (e :: H):=by simp only [zbP,List.filterMap_cons,hk]
 refine ⟨m.size,m.dfr,m.sub,m.keep,m.grow,m.env,⟨λx hx=>?_,by rw [hkeys];exact m.owns.nodup,λb hb=>m.owns.own b (by rw [<- hkeys];exact hb)⟩,λx hx=>by
  obtain ⟨h1,h2,h3,h4⟩:=m.pins x hx
  exact ⟨h1,h2,by rw [hkeys];exact h3,h4⟩⟩
 rcases List.mem_cons.1 hx with rfl | hx
 ·exact hs (m.owns.sat _ (zMs ..))
 ·exact m.owns.sat x (zMm _ hx)

section ops
variable {c:Ctx} {ty:TypeId} {pos:String} {af:Array Edge} {g:Option (Nat × Bool)} {σ:St} {d:Option Nat}

theorem zoK {x:Operand} {t:Vt} {n T m:Nat} {agg:Bool} (hT:SlB c.P T m agg=true) (hx:zB σ.Γ x=some (zbw t n)) :
    OpV c ⟨d,.call ⟨.builtin .len,#[x],#[T]⟩,ty,pos,af,g⟩ σ (isv (n:Int)):=λS a w m=>by
  obtain ⟨hn,h1⟩:=zb m hx
  refine ⟨.int .i64 n,zah.2 ⟨rfl,by unfold zc3;unfold zfr at hn;omega⟩,λw' _=>?_⟩
  cases t with
  | none=>obtain ⟨h1,rfl⟩:=h1;simp [execOp,resolve,invoke,builtin,h1,znB hT]
  | some t=>simp only at h1;simp [execOp,resolve,invoke,builtin,h1,znB hT]

theorem zmV {α:Type} [Rep α] {x i:Operand} {t:Vt} {n:Nat} {k:Int} {T:Nat} (hT:SlB c.P T (Rep.n α) (Rep.agg α)=true) (hx:zB σ.Γ x=some (zbw t n)) (hi:zB σ.Γ i=some (isv k))
    (hk:0 <= k) (hy:k < n):OpV c ⟨d,.indexAddr T x i,ty,pos,af,g⟩ σ (zcO t k.toNat (Fld.id α)):=λS a w m=>by
  obtain ⟨hn,h1⟩:=zb m hx
  obtain ⟨h5,_⟩:=zah.1 (zb m hi)
  obtain ⟨e,hu,hte⟩:=SlB.spec hT
  cases t with
  | none=>obtain ⟨_,rfl⟩:=h1;omega
  | some t =>
    obtain ⟨b,cap⟩:=t
    simp only at h1
    exact ⟨.pointer (some ⟨b,k.toNat * Rep.n α,none⟩),⟨b,cap,rfl,rfl⟩,λw' _=>by
      simp [execOp,h1,h5,Instr.indexAt,asIntOf,underlying,hu,hk,hy,TyB.size hte,zc6]⟩

theorem zwC {α β γ:Type} [Rep α] [Rep β] [Rep γ] {t:Vt} {i:Nat} {L:Fld α β} {x:Operand} {T f:Nat} (M:Fld β γ) (hf:zfw c.P T f M.off (Rep.n γ) (Rep.agg γ)=true)
    (hx:zB σ.Γ x=some (zcO t i L)):OpV c ⟨d,.fieldAddr T x f,ty,pos,af,g⟩ σ (zcO t i (L.comp M)):=λS a w m=>by
  obtain ⟨b,cap,ht,h1⟩:=zb m hx
  refine ⟨.pointer (some ⟨b,i * Rep.n α + L.off + M.off,none⟩),⟨b,cap,ht,by simp only [Fld.comp,Nat.add_assoc]⟩,λw' _=>by simp [execOp,h1,zi4 hf,zc6]⟩

theorem znt {Γ:zM} {H:List Ent} {α β:Type} [Rep α] [Rep β] {t:Vt} {i:Nat} {L:Fld α β} {l:List α} {y:α} {x:Operand} {T:TypeId} {dd:Nat} {K:St->Prop} {Hr:List Ent} (ht:TyB c.P T (Rep.n β) (Rep.agg β)=true) (hx:zB Γ x=some (zcO t i L))
    (hp:zcw (zI t l) H Hr) (hy:l[i]?=some y) (k:K ⟨(dd,isv (L.get y)) :: Γ,H⟩) (hd:Nat.blt dd c.n=true:=by rfl) :
    OpT c ⟨some dd,.load T x,ty,pos,af,g⟩ ⟨Γ,H⟩ K:=by
  intro S a w next Q m hn
  obtain ⟨b,cap,rfl,h1⟩:=zb m hx
  have hs:(zI (some (b,cap)) l).sat S w:=m.owns.get hp
  obtain ⟨o,ho,hnone,cs,T',e,hsz,hlc,hr⟩:=hs
  subst e
  have hg:=L.rget (znz (r:=Rep.rd S) (λ_ _ h=>Rep.len h) hr hy)
  obtain ⟨v,hv,hrun⟩:=zfH (ad:=⟨b,i * Rep.n α + L.off,none⟩) ht hg
  unfold Oper.wp
  have : (execOp a.eval ⟨some dd,.load T x,ty,pos,af,g⟩).run c.P w=.ok (.value v) w:=by
    simp only [execOp,h1,Instr.loadAt,Instr.sureAddr]
    have h2 := hrun w λj u hj=>by
      rw [zc6]
      unfold World.cell?
      rw [ho]
      simp only
      have hgo:∀ (A:List Value) (p q n1 n2 n3:Nat),((((A.take n1).drop p).take n2).drop q |>.take n3)[j]?=some u->A[p + q + j]?=some u:=by
        intro A p q n1 n2 n3 h
        rw [List.getElem?_take] at h
        split at h
        · rw [List.getElem?_drop,List.getElem?_take] at h
          split at h
          · rw [List.getElem?_drop,List.getElem?_take] at h
            split at h
            · rw [<- h];congr 1;omega
            · cases h
          · cases h
        · cases h
      have:=hgo _ _ _ _ _ _ hj
      simpa using this
    simp [h2]
  rw [this]
  exact hn _ _ _ _ (Frz.le_refl _) k (m.put hd hv)

theorem zoJ {Γ:zM} {H:List Ent} {α β:Type} [Rep α] [Rep β] {t:Vt} {i:Nat} {L:Fld α β} {l:List α} {y:α} {z:β} {x u:Operand} {T:TypeId} {K:St->Prop} {Hr:List Ent} (ht:TyB c.P T (Rep.n β) (Rep.agg β)=true) (hx:zB Γ x=some (zcO t i L))
    (hu:zB Γ u=some (isv z)) (hp:zcw (zI t l) H Hr) (hy:l[i]?=some y) (k:K ⟨Γ,zI t (l.set i (L.set y z)) :: Hr⟩) :
    OpT c ⟨none,.store T x u,ty,pos,af,g⟩ ⟨Γ,H⟩ K:=by
  intro S a w next Q m hn
  obtain ⟨b,cap,rfl,h1⟩:=zb m hx
  have h2:=zb m hu
  have hs:(zI (some (b,cap)) l).sat S w:=m.owns.get hp
  obtain ⟨o,ho,hnone,cs,T',e,hsz,hlc,hr⟩:=hs
  subst e
  have hi:i < l.length:=(List.getElem?_eq_some_iff.1 hy).1
  have hlen:(a.eval u).cells.toList.length=Rep.n β:=Rep.len h2.2
  have hfit:=L.fits
  have hle:l.length * Rep.n α <= cap * Rep.n α:=Nat.mul_le_mul_right _ hlc
  have hfit1:i * Rep.n α + Rep.n α <= l.length * Rep.n α:=by rw [<- Nat.succ_mul];exact Nat.mul_le_mul_right _ hi
  have hrun:=run_storeCells_at (P:=c.P) b (i * Rep.n α + L.off) T' (a.eval u).cells.toList 0 cs w ho (by simp at hlen ⊢;omega) (λv hv=>Rep.cell h2.2 v hv)
  unfold Oper.wp
  have:(execOp a.eval ⟨none,.store T x u,ty,pos,af,g⟩).run c.P w=.ok .skip (w.setRow b (cs.toList.take (i * Rep.n α + L.off + 0) ++ (a.eval u).cells.toList ++ cs.toList.drop (i * Rep.n α + L.off + 0 + (a.eval u).cells.toList.length)).toArray):=by
    have hsz:(a.eval u).cells.size=Rep.n β:=by simpa using hlen
    simp only [execOp,h1,Instr.storeAt,Instr.sureAddr,storeVar,Sem.run_bind,Sem.run_pure,Result.andThen_ok,TyB.size ht,hsz,ne_eq,not_true,if_false,Sem.run_ite,hrun]
  rw [this]
  have hg:=znz (r:=Rep.rd S) (λ_ _ h=>Rep.len h) hr hy
  have hset:=ztD (r:=Rep.rd S) (λ_ _ h=>Rep.len h) hr hi (L.rset hg h2.2)
  obtain ⟨hst,hh⟩:=ziW (cs:=(cs.toList.take (i * Rep.n α + L.off + 0) ++ (a.eval u).cells.toList ++ cs.toList.drop (i * Rep.n α + L.off + 0 + (a.eval u).cells.toList.length)).toArray) m.sub hnone ho
  have m1:=m.step (Hc:=[zI (some (b,cap)) l]) (H':=[zI (some (b,cap)) (l.set i (L.set y z))]) (zbq.cons hp .nil) hst
    (zfh ⟨_,hh,hnone,_,_,rfl,by
      have hcl:cs.toList.length=cs.size:=by simp
      simp only [List.size_toArray,zLa,zLt,zLd,hlen,hcl]
      omega,by rw [List.length_set];exact hlc,by
      rw [List.length_set]
      have hcl:cs.toList.length=cs.size:=by simp
      have e:=zyY (A:=cs.toList) (v:=(a.eval u).cells.toList) (p:=i * Rep.n α) (q:=L.off) (m:=Rep.n β) (n:=Rep.n α) (n1:=l.length * Rep.n α) hlen hfit hfit1 (by omega)
      rw [e] at hset
      rw [hlen,Nat.add_zero]
      simpa using hset⟩ λb' hb=>by simp [zI] at hb;subst hb;exact .inl (by simp [zbP,zI]))
  exact hn _ _ _ _ (Frz.le_refl _) k m1
end ops
section upd
variable {c:Ctx} {σ σ' σ'':St} {Q:Exit->Act->World->Prop} {ops:Array Oper}
def Upd (c:Ctx) (σ σ':St):Prop:=∀ S a w,za6 c σ S a w->∃ S',S.le S'/\za6 c σ' S' a w
theorem Upd.trans (h:Upd c σ σ') (k:Upd c σ' σ''):Upd c σ σ'':=λS a w m=>by
 obtain ⟨S1,h1,m1⟩:=h S a w m
 obtain ⟨S2,h2,m2⟩:=k S1 a w m1
 exact ⟨S2,Frz.le_trans h1 h2,m2⟩
theorem ztg {x:Code} (h:Upd c σ σ') (k:Wp c x σ' Q):Wp c x σ Q:=λS a w m=>by
 obtain ⟨S',_,m'⟩:=h S a w m
 exact k S' a w m'
theorem zbj {l:List Oper} (h:Upd c σ σ') (k:Rl c ops l σ' Q):Rl c ops l σ Q:=λi hi S a w m=>by
 obtain ⟨S',_,m'⟩:=h S a w m
 exact k i hi S' a w m'
theorem znw (h:Upd c σ σ') (k:Fin c σ' Q):Fin c σ Q:=λS a w m=>by
 obtain ⟨S',_,m'⟩:=h S a w m
 exact k S' a w m'
theorem zg1 (h:Upd c σ σ') (k:Ret c σ' Q):Ret c σ Q:=λS a w m=>by
 obtain ⟨S',_,m'⟩:=h S a w m
 exact k S' a w m'
theorem zpu {P:Program} {Q':Act->World->Prop}:∀ {π:Ord} {C C':World->Prop} {a:Act} {w:World},(∀ w,C' w->C w)->zp4 P ops Q' π C' a w->zp4 P ops Q' π C a w
 | .nil,_,_,_,_,_,h=>h
 | .v _ _,_,_,_,_,hC,⟨C1,h1,h2⟩=>⟨C1,λw h=>hC w (h1 w h),h2⟩
 | .alt _ _ s,C,C',a,w,hC,h=>⟨zgr (C:=C') (C':=C) hC (λ_ _ ⟨C1,h1,h2⟩=>⟨C1,λw h=>hC w (h1 w h),h2⟩) h.1,zpu (π:=s) hC h.2⟩
 | .t i r,C,C',a,w,hC,h=>zgr (C:=C') (C':=C) hC (λ_ _ ⟨C1,h1,h2⟩=>⟨C1,λw h=>hC w (h1 w h),h2⟩) h
theorem znR {π:Ord} (h:Upd c σ σ') (k:Rd c ops π σ' Q):Rd c ops π σ Q:=λS a w m=>by
 obtain ⟨S',hS,m'⟩:=h S a w m
 exact zpu (λw hw=>zod hS hw) (k S' a w m')
theorem zx9 {Γ Γ':zM} {H:List Ent} (h:zM.imp Γ Γ'):Upd c ⟨Γ,H⟩ ⟨Γ',H⟩:=λS a w m=>⟨S,S.le_refl,m.imp h⟩
theorem zbp {Γ:zM} {H:List Ent} {R R':VP} (i:Nat) (h:zcg Γ i=some R) (hr:∀ S v,R.p S v->R'.p S v):Upd c ⟨Γ,H⟩ ⟨(i,R') :: Γ,H⟩:=zx9 (zt1 h hr)
theorem zrE (h:Imp σ σ'):Upd c σ σ':=λS a w m=>⟨S,S.le_refl,m.weak h⟩
theorem zoH {Γ:zM} {H:List Ent} (e:Ent) (he:e.k=none):Upd c ⟨Γ,H⟩ ⟨Γ,e :: H⟩:=λS a w m=>by
 have hk:zbP (e :: H)=zbP H:=by simp [zbP,List.filterMap_cons,he]
 refine ⟨S,S.le_refl,m.size,m.dfr,m.sub,m.keep,m.grow,m.env,⟨λx hx=>?_,by rw [hk];exact m.owns.nodup,λb hb=>m.owns.own b (by rw [<- hk];exact hb)⟩,λx hx=>by
  obtain ⟨h1,h2,h3,h4⟩:=m.pins x hx
  exact ⟨h1,h2,by rw [hk];exact h3,h4⟩⟩
 rcases List.mem_cons.1 hx with rfl | hx
 ·unfold Ent.sat;rw [he];trivial
 ·exact m.owns.sat x hx
theorem zel {Γ:zM} {H:List Ent}:Upd c ⟨Γ,H⟩ ⟨Γ,zO none :: H⟩:=zoH _ rfl
theorem ziX {α:Type} [Rep α] {Γ:zM} {H:List Ent}:Upd c ⟨Γ,H⟩ ⟨Γ,zI none ([]:List α) :: H⟩:=zoH _ rfl

theorem zgE {Γ:zM} {H Hr:List Ent} {e:Ent} (hp:zcw e H Hr):Upd c ⟨Γ,H⟩ ⟨Γ,e :: Hr⟩:=λS a w m =>
 ⟨S,S.le_refl,m.weak ⟨λi R h=>⟨R,h,λ_ _ h=>h⟩,[],.cons hp (zpt (zbq.nil) |> λh=>by simpa using h)⟩⟩

theorem zm3 {e:Ent}:∀ H,zbq (e :: H) H [e]
 | []=>.nil
 | _ :: H=>.cons (.there .here) (zm3 H)
theorem znV {e:Ent} {H Hr:List Ent} (h:zcw e H Hr):zbq H Hr [e]:=by
 induction h with
 | here=>exact zm3 _
 | there _ ih=>exact .cons .here ih

theorem za6.vfreeze {α:Type} [Rep α] {S:Frz} {a:Act} {w:World} {t:Vt} {l:List α} {Hr:List Ent} (m:za6 c σ S a w) (hp:zcw (zI t l) σ.H Hr) :
    ∃ S',S.le S'/\za6 c ⟨σ.Γ,Hr⟩ S' a w/\∀ n v,n <= l.length->(zbw t n).p S' v->(isv (l.take n)).p S' v:=by
  cases t with
  | none =>
    refine ⟨S,S.le_refl,m.weak ⟨λi R h=>⟨R,h,λ_ _ h=>h⟩,[zI Option.none l],?_⟩,λn v _ hv=>?_⟩
    · exact znV hp
    · obtain ⟨_,rfl,rfl⟩:=hv
      rw [List.take_zero]
      exact zmw _ _ rfl
  | some t =>
    obtain ⟨b,cap⟩:=t
    have hs:(zI (some (b,cap)) l).sat S w:=m.owns.get hp
    obtain ⟨o,ho,hnone,cs,T',e,hsz,hlc,hr⟩:=hs
    subst e
    have hle:S.le (S.put b cs.toList):=λj d hj=>by
      have hne:j ≠ b:=by rintro rfl;rw [hnone] at hj;cases hj
      exact ⟨d,by unfold Frz.put;rw [if_neg hne];exact hj,List.prefix_refl _⟩
    refine ⟨S.put b cs.toList,hle,?_,λn v hn hv=>?_⟩
    · have hst:zkC (zbP [zI (some (b,cap)) l]) S (S.put b cs.toList) w w:=by
        refine ⟨zjn.refl _ _,⟨hle,λj _ hj=>by unfold Frz.put;rw [if_neg (by simpa [zbP,zI] using hj)]⟩,λj d hj=>?_⟩
        unfold Frz.put at hj
        split at hj
        · cases hj
          rename_i ej;subst ej
          exact ⟨cs,T',(0,0),ho,List.prefix_refl _⟩
        · exact m.sub j d hj
      have:=m.step (Hc:=[zI (some (b,cap)) l]) (H':=[]) (zbq.cons hp .nil) hst (zff _ _ _ _)
      simpa using this
    · obtain ⟨hm,e⟩:=hv
      simp only at e
      subst e
      have htl:(l.take n).length=n:=by rw [zLt];omega
      have hle2:n * Rep.n α <= l.length * Rep.n α:=Nat.mul_le_mul_right _ hn
      have hle3:l.length * Rep.n α <= cap * Rep.n α:=Nat.mul_le_mul_right _ hlc
      have htk:(cs.toList.take (l.length * Rep.n α)).take (n * Rep.n α)=cs.toList.take (n * Rep.n α):=by rw [List.take_take,Nat.min_eq_left hle2]
      refine zcs.2 ⟨_,_,by rw [htl],by rw [htl];omega,by rw [htl];exact hm,.inr ⟨_,cs.toList.take (n * Rep.n α),rfl,Frz.has_take ⟨rfl,cs.toList,if_pos rfl,λj u hj=>by simpa using hj⟩ _,?_,?_⟩⟩
      · have:cs.toList.length=cs.size:=by simp
        rw [htl,zLt];omega
      · rw [<- htk]
        exact zgc (λ_ _ h=>Rep.mono hle h) (ziy (λ_ _ h=>Rep.len h) n hr)

theorem zw4 {α:Type} [Rep α] {Γ:zM} {H Hr:List Ent} {t:Vt} {n:Nat} {l:List α} (i:Nat) (hp:zcw (zI t l) H Hr) (hi:zcg Γ i=some (zbw t n)) (hn:n <= l.length):Upd c ⟨Γ,H⟩ ⟨(i,isv (l.take n)) :: Γ,Hr⟩:=λS a w m=>by
 obtain ⟨S',hS,m',hv⟩:=m.vfreeze hp
 exact ⟨S',hS,m'.imp (σ:=⟨Γ,Hr⟩) (c:=c) (λj R hj=>⟨R,hj,λ_ _ h=>h⟩) |> λm2=>⟨m2.size,m2.dfr,m2.sub,m2.keep,m2.grow,λj R hj=>by
  unfold zcg at hj
  cases hk:Nat.beq i j with
  | true =>
   rw [hk] at hj
   have e:i=j:=Nat.eq_of_beq_eq_true hk
   subst e
   cases hj
   obtain ⟨v,h1,h2⟩:=m2.env i _ hi
   exact ⟨v,h1,hv n v hn h2⟩
  | false=>rw [hk] at hj;exact m2.env j R hj,m2.owns,m2.pins⟩⟩

def Cv {α β:Type} [Rep α] [Rep β] (S:Frz) (x:α) (y:β):Prop:=∀ cs,Rep.rd S cs x->Rep.rd S cs y
theorem Cv.id {α:Type} [Rep α] {S:Frz} {x:α}:Cv S x x:=λ_ h=>h
theorem Cv.pair {α β γ δ:Type} [Rep α] [Rep β] [Rep γ] [Rep δ] {S:Frz} {a:α} {b:β} {c:γ} {d:δ} (h:Cv S a c) (k:Cv S b d):Cv S (a,b) (c,d):=λ_ ⟨c1,c2,e,h1,h2⟩=>⟨c1,c2,e,h _ h1,k _ h2⟩
theorem Cv.tl {α:Type} [Rep α] {S:Frz} {t:Tok} {l:List α}:Cv S (zaa.mk t l) l:=λ_ ⟨v,e,h⟩=>by
 subst e
 exact ⟨v,rfl,h.1⟩
theorem Cv.isv {α β:Type} [Rep α] [Rep β] {x:α} {y:β} (ha:Rep.agg α=Rep.agg β) (h:∀ S,Cv S x y) (S:Frz) (v:Value) (k:(isv x).p S v):(Sy.isv y).p S v:=⟨k.1.trans ha,h S _ k.2⟩

theorem zxu {α β:Type} [Rep α] [Rep β] {Γ:zM} {H Hr:List Ent} {b:Nat} {x:α} {y:β} (hp:zcw (zj b x) H Hr) (hc:∀ S,Cv S x y):Upd c ⟨Γ,H⟩ ⟨Γ,zj b y :: Hr⟩:=λS a w m=>by
 obtain ⟨S1,h1,m1⟩:=zgE (c:=c) (Γ:=Γ) hp S a w m
 exact ⟨S1,h1,m1.ent rfl (λ⟨o,ho,hn,cs,T,e,hr⟩=>⟨o,ho,hn,cs,T,e,hc _ _ hr⟩)⟩

theorem zrg {α β γ:Type} [Rep α] [Rep β] [Rep γ] {Γ:zM} {H H1 Hr:List Ent} {b:Nat} {x:α} {y:β} {t:Vt} {l:List γ} (hp:zcw (zI t l) H H1) (hb:zcw (zj b x) H1 Hr)
    (hc:∀ S,(∀ n,n <= l.length->Cv S (Vh.mk t n) (l.take n))->Cv S x y):Upd c ⟨Γ,H⟩ ⟨Γ,zj b y :: Hr⟩:=λS a w m=>by
  obtain ⟨S',hS,m',hv⟩:=m.vfreeze hp
  obtain ⟨S1,h1,m1⟩:=zgE (c:=c) (Γ:=Γ) hb S' a w m'
  have hs:(zj b x).sat S1 w:=m1.owns.sat _ (zMs ..)
  refine ⟨S1,Frz.le_trans hS h1,m1.ent rfl (λ⟨o,ho,hn,cs,T,e,hr⟩=>⟨o,ho,hn,cs,T,e,hc _ (λn hn cs ⟨v,e,hvv⟩=>?_) _ hr⟩)⟩
  subst e
  have:=(isv (l.take n)).mono h1 (hv n v hn hvv)
  obtain ⟨u,e,h⟩:=(zeV this rfl).2
  simp at e;subst e
  exact ⟨v,rfl,h⟩
theorem Cv.vh {γ:Type} [Rep γ] {S:Frz} {t:Vt} {n:Nat} {l:List γ} (h:∀ n,n <= l.length->Cv S (Vh.mk t n) (l.take n)) (e:n=l.length):Cv S (Vh.mk t n) l:=by
 subst e
 have:=h l.length (zNl _)
 rwa [List.take_length] at this
end upd

section ops
variable {c:Ctx} {ty:TypeId} {pos:String} {af:Array Edge} {g:Option (Nat × Bool)} {σ:St} {d:Option Nat}

theorem OpT.upd {o:Oper} {K K':St->Prop} (h:OpT c o σ K) (hk:∀ σ',K σ'->∃ σ'',K' σ''/\Upd c σ' σ''):OpT c o σ K':=λS a w next Q m hn =>
 h S a w next Q m λσ' S' a' w' hS hK m'=>by
  obtain ⟨σ'',h1,h2⟩:=hk σ' hK
  obtain ⟨S'',h3,m''⟩:=h2 S' a' w' m'
  exact hn σ'' S'' a' w' (Frz.le_trans hS h3) h1 m''

theorem zhE {Γ:zM} {H:List Ent} {α β:Type} [Rep α] [Rep β] {b:Nat} {L:Fld α β} {y:α} {R:VP} {x:Operand} {T:TypeId} {dd:Nat} {K:St->Prop} {Hr:List Ent} (ht:TyB c.P T (Rep.n β) (Rep.agg β)=true) (hx:zB Γ x=some (zal b L))
    (hp:zcw (zj b y) H Hr) (hc:∀ S v,(isv (L.get y)).p S v->R.p S v) (k:K ⟨(dd,R) :: Γ,H⟩) (hd:Nat.blt dd c.n=true:=by rfl) :
    OpT c ⟨some dd,.load T x,ty,pos,af,g⟩ ⟨Γ,H⟩ K:=by
  intro S a w next Q m hn
  refine zzl (K:=λσ'=>σ'=⟨(dd,isv (L.get y)) :: Γ,H⟩) ht hx hp rfl hd S a w next Q m λσ' S' a' w' hS hK m'=>?_
  subst hK
  refine hn _ S' a' w' hS k ⟨m'.size,m'.dfr,m'.sub,m'.keep,m'.grow,λj R' hj=>?_,m'.owns,m'.pins⟩
  have h0:=m'.env j
  unfold zcg at hj h0
  cases hk:Nat.beq dd j with
  | true =>
    rw [hk] at hj h0
    cases hj
    obtain ⟨v,h1,h2⟩:=h0 _ rfl
    exact ⟨v,h1,hc _ _ h2⟩
  | false=>rw [hk] at hj h0;exact h0 _ hj

theorem zmd {Γ:zM} {H:List Ent} {α β:Type} [Rep α] [Rep β] {b:Nat} {L:Fld α β} {y y':α} {z:β} {R:VP} {x u:Operand} {T:TypeId} {K:St->Prop} {Hr:List Ent} (ht:TyB c.P T (Rep.n β) (Rep.agg β)=true) (hx:zB Γ x=some (zal b L))
    (hu:zB Γ u=some R) (hc:∀ S v,R.p S v->(isv z).p S v) (hp:zcw (zj b y) H Hr) (hy:L.set y z=y') (k:K ⟨Γ,zj b y' :: Hr⟩) :
    OpT c ⟨none,.store T x u,ty,pos,af,g⟩ ⟨Γ,H⟩ K:=by
  subst hy
  intro S a w next Q m hn
  have h1:a.eval x=.pointer (some ⟨b,L.off,none⟩):=zb m hx
  have h2:=hc _ _ (zb m hu)
  have hs:(zj b y).sat S w:=m.owns.get hp
  obtain ⟨o,ho,hnone,cs,T',e,hr⟩:=hs
  subst e
  have hlen:(a.eval u).cells.toList.length=Rep.n β:=Rep.len h2.2
  have hfit:=L.fits
  have hcs:=Rep.len hr
  have hrun:=run_storeCells_at (P:=c.P) b L.off T' (a.eval u).cells.toList 0 cs w ho (by simp at hlen hcs ⊢;omega) (λv hv=>Rep.cell h2.2 v hv)
  unfold Oper.wp
  have:(execOp a.eval ⟨none,.store T x u,ty,pos,af,g⟩).run c.P w=.ok .skip (w.setRow b (cs.toList.take (L.off + 0) ++ (a.eval u).cells.toList ++ cs.toList.drop (L.off + 0 + (a.eval u).cells.toList.length)).toArray):=by
    have hsz:(a.eval u).cells.size=Rep.n β:=by simpa using hlen
    simp only [execOp,h1,Instr.storeAt,Instr.sureAddr,storeVar,Sem.run_bind,Sem.run_pure,Result.andThen_ok,TyB.size ht,hsz,ne_eq,not_true,if_false,Sem.run_ite,hrun]
  rw [this]
  obtain ⟨hst,hh⟩:=ziW (cs:=(cs.toList.take (L.off + 0) ++ (a.eval u).cells.toList ++ cs.toList.drop (L.off + 0 + (a.eval u).cells.toList.length)).toArray) m.sub hnone ho
  have m1:=m.step (Hc:=[zj b y]) (H':=[zj b (L.set y z)]) (zbq.cons hp .nil) hst
    (zfh ⟨_,hh,hnone,_,_,rfl,by
      have:=L.rset hr h2.2
      rw [hlen,Nat.add_zero]
      simpa using this⟩ λb' hb=>by simp [zj] at hb;subst hb;exact .inl (by simp [zbP,zj]))
  exact hn _ _ _ _ (Frz.le_refl _) k m1

theorem zva {Γ:zM} {H:List Ent} {α:Type} [Rep α] {y:α} {R:VP} {x:Operand} {T:TypeId} {dd:Nat} {K:St->Prop} (hx:zB Γ x=some R) (hc:∀ S v,R.p S v->(isv y).p S v)
    (k:∀ b,K ⟨(dd,zal b (Fld.id α)) :: Γ,zj b y :: H⟩) (hd:Nat.blt dd c.n=true:=by rfl) :
    OpT c ⟨some dd,.box T x,ty,pos,af,g⟩ ⟨Γ,H⟩ K:=by
  intro S a w next Q m hn
  have h1:=hc _ _ (zb m hx)
  unfold Oper.wp
  have:(execOp a.eval ⟨some dd,.box T x,ty,pos,af,g⟩).run c.P w=.ok (.value (.pointer (some ⟨w.heap.size,0,none⟩))) { w with heap:=w.heap.push (.cells (a.eval x).cells T (0,0)) }:=by
    simp [execOp,Instr.box,newVar,newRow,newObj,Sem.run]
  rw [this]
  have m1:=m.step (Hc:=[]) (H':=[zj w.heap.size y]) .nil (zig m.sub (.cells (a.eval x).cells T (0,0)))
    (zfh ⟨.cells (a.eval x).cells T (0,0),by simp,zgI m.sub,_,T,rfl,h1.2⟩ λb hb=>by simp [zj] at hb;subst hb;exact .inr (zNl _))
  exact hn _ _ _ _ (Frz.le_refl _) (k w.heap.size) (m1.put hd rfl)
theorem ztt {Γ:zM} {H:List Ent} {α:Type} [Rep α] {y:α} {R:VP} {x:Operand} {T:TypeId} {dd:Nat} {K:St->Prop} (hx:zB Γ x=some R) (hc:∀ S v,R.p S v->(isv y).p S v)
    (k:K ⟨(dd,zbn y) :: Γ,H⟩) (hd:Nat.blt dd c.n=true:=by rfl) :
    OpT c ⟨some dd,.box T x,ty,pos,af,g⟩ ⟨Γ,H⟩ K:=by
  intro S a w next Q m hn
  have h1:=hc _ _ (zb m hx)
  unfold Oper.wp
  have:(execOp a.eval ⟨some dd,.box T x,ty,pos,af,g⟩).run c.P w=.ok (.value (.pointer (some ⟨w.heap.size,0,none⟩))) { w with heap:=w.heap.push (.cells (a.eval x).cells T (0,0)) }:=by
    simp [execOp,Instr.box,newVar,newRow,newObj,Sem.run]
  rw [this]
  have hst:=zje (w:=w) m.sub (a.eval x).cells T (0,0) (a.eval x).cells.toList (List.prefix_refl _)
  have m1:=m.step (Hc:=[]) (H':=[]) .nil hst (zff _ _ _ _)
  exact hn _ _ _ _ hst.grow.le k (m1.put hd ⟨⟨w.heap.size,0,none⟩,(a.eval x).cells.toList,rfl,⟨rfl,_,if_pos rfl,λi v hi=>by simpa using hi⟩,Rep.mono hst.grow.le h1.2⟩)

theorem zuC {Γ:zM} {H:List Ent} {α:Type} [Rep α] {x y:Operand} {T:TypeId} {p q:Int} {z0:α} {dd e:Nat} {K:St->Prop} (hT:elB c.P T (Rep.n α)=true) (hz0:ze2 c.P e z0) (he:c.P.underlying T=some (.slice e)) (hx:zB Γ x=some (isv p)) (hy:zB Γ y=some (isv q)) (h0:0 <= p) (hpq:q=p) (h1:p <= 68719476736)
    (k:∀ t,K ⟨(dd,zbw t (List.replicate p.toNat z0).length) :: Γ,zI t (List.replicate p.toNat z0) :: H⟩) (hd:Nat.blt dd c.n=true:=by rfl):OpT c ⟨some dd,.makeSlice T x y,ty,pos,af,g⟩ ⟨Γ,H⟩ K:=by
  subst hpq
  refine OpT.upd (zuo (K:=λσ'=>∃ b,σ'=⟨(dd,arrv b q.toNat q.toNat) :: Γ,arrE b (List.replicate q.toNat z0) :: H⟩) hT hz0 he hx hy h0 (zIl _) h1 (λb=>⟨b,rfl⟩) hd) ?_
  rintro _ ⟨b,rfl⟩
  refine ⟨_,k (some (b,q.toNat)),λS a w m=>⟨S,S.le_refl,?_⟩⟩
  have m1:=m.ent (e':=zI (some (b,q.toNat)) (List.replicate q.toNat z0)) rfl (λ⟨o,ho,hn,cs,T',e1,hr⟩=>by
    have hl:=zte (n:=Rep.n α) (r:=Rep.rd S) (λ_ _ h=>Rep.len h) hr
    rw [List.length_replicate] at hl
    refine ⟨o,ho,hn,cs,T',e1,by simpa using hl,by rw [List.length_replicate];exact zNl _,?_⟩
    rw [List.length_replicate,<- hl,List.take_length];exact hr)
  refine m1.imp (Γ:=(dd,zbw (some (b,q.toNat)) (List.replicate q.toNat z0).length) :: Γ) λi R hi=>?_
  unfold zcg at hi ⊢
  cases hk:Nat.beq dd i with
  | true =>
    rw [hk] at hi
    cases hi
    refine ⟨_,rfl,λS v hv=>?_⟩
    rw [List.length_replicate]
    exact ⟨by unfold zfr;omega,hv⟩
  | false=>rw [hk] at hi;exact ⟨R,hi,λ_ _ h=>h⟩

theorem zy5 {Γ:zM} {H:List Ent} {α:Type} [Rep α] {x y:Operand} {t:Vt} {n:Nat} {l m:List α} {R:VP} {T U:TypeId} {dd:Nat} {K:St->Prop} {Hr:List Ent} (hT:zmy c.P T U (Rep.n α)=true)
    (hx:zB Γ x=some (zbw t n)) (hy:zB Γ y=some R) (hc:∀ S v,R.p S v->(isv m).p S v) (hp:zcw (zI t l) H Hr) (hnl:n <= l.length)
    (hb:Nat.ble (n + m.length) 68719476736=true)
    (k:∀ t',K ⟨(dd,zbw t' (l.take n ++ m).length) :: Γ,zI t' (l.take n ++ m) :: Hr⟩) (hd:Nat.blt dd c.n=true:=by rfl) :
    OpT c ⟨some dd,.call ⟨.builtin .append,#[x,y],#[T,U]⟩,ty,pos,af,g⟩ ⟨Γ,H⟩ K:=by
  intro S a w next Q mm hn
  replace hb:=Nat.le_of_ble_eq_true hb
  have hll:(l.take n ++ m).length=n + m.length:=by rw [zLa,zLt];omega
  obtain ⟨⟨e,i,z,hu,hi,hsz,hby,hby0,hz,hzn⟩,e',hu'⟩:=AppB.of hT
  obtain ⟨hnm,htk⟩:=zb mm hx
  have hm:=zcs.1 (hc _ _ (zb mm hy))
  obtain ⟨cm,hcm1,hcm2,hcm3,hcm4⟩:=ziq (P:=c.P) hm
  obtain ⟨q,cap',ev',hcap',hmax',_⟩:=hm
  have hcmo:∀ v ∈ cm,v.oneCell'=true:=zjK (λ_ _ h=>Rep.cell h) hcm2
  have hml:zfr=281474976710656:=rfl
  have hs:(zI t l).sat S w:=mm.owns.get hp
  have hrun:∀ w',(execOp a.eval ⟨some dd,.call ⟨.builtin .append,#[x,y],#[T,U]⟩,ty,pos,af,g⟩).run c.P w' =
      ((Builtin.append_ #[T,U] ty #[a.eval x,a.eval y]).run c.P w').andThen λv w'=>.ok (.value v) w':=by
    intro w'
    simp [execOp,resolve,invoke,builtin]
  unfold Oper.wp
  rw [hrun]
  -- a new block
  have grown:∀ (p:Option Addr) (cap:Nat) (cl:List Value),a.eval x=.slice p n cap->¬ n + m.length <= cap->cl.length=n * Rep.n α->rdL (Rep.rd S) (l.take n) cl->(∀ v ∈ cl,v.oneCell'=true) ->
      ((Builtin.firstCells (Rep.n α) n (.slice p n cap)).run c.P { w with drawn:=w.drawn + 1 }=.ok cl.toArray { w with drawn:=w.drawn + 1 }) ->
      (∃ v w',(Builtin.append_ #[T,U] ty #[a.eval x,a.eval y]).run c.P w=.ok v w'/\next (a.put (some dd) v) w'):=by
    intro p cap cl ev hneed hcl1 hcl2 _ hf1
    have hgrow:=zhT (need:=n + m.length) (cap:=cap) (by omega)
    have hbig:¬ 281474976710656 < Builtin.nextslicecap (n + m.length) cap * i.bytes:=by
      have h1:Builtin.nextslicecap (n + m.length) cap * i.bytes <= (2 * (n + m.length) + 1024) * 1024:=Nat.mul_le_mul hgrow hby
      omega
    let q0:Question:=.appendCap (n + m.length) cap e
    let nc:=q0.cut (w.tape w.drawn q0)
    have hnc:n + m.length <= nc:=Nat.le_add_right _ _
    let w1:World:={ w with drawn:=w.drawn + 1 }
    have hs1:S.sub w1:=mm.sub
    have hrun2:(Builtin.append_ #[T,U] ty #[a.eval x,a.eval y]).run c.P w=.ok (.slice (some ⟨w.heap.size,0,none⟩) (n + m.length) nc) { w1 with heap:=w.heap.push (.cells (cl.toArray ++ cm.toArray ++ Builtin.zeroCells z.cells (nc - (n + m.length))) e (0,0)) }:=by
      have hf2:=hcm4 w1 hs1
      rw [ev'] at hf2
      rw [ev,ev']
      exact zkp hu hu' hi hsz hz hby0 hneed (by simpa using hbig) hf1 hf2
    have hzs:(Builtin.zeroCells z.cells (nc - (n + m.length))).size=(nc - (n + m.length)) * z.cells.size:=by simp [Builtin.zeroCells]
    have hsp:=zig (w:=w1) hs1 (.cells (cl.toArray ++ cm.toArray ++ Builtin.zeroCells z.cells (nc - (n + m.length))) e (0,0))
    have hstep':zkC (zbP [zI t l]) S S w { w1 with heap:=w.heap.push (.cells (cl.toArray ++ cm.toArray ++ Builtin.zeroCells z.cells (nc - (n + m.length))) e (0,0)) } :=
      ⟨⟨rfl,rfl,rfl,hsp.keep.size,λk hk _=>hsp.keep.block k hk (by simp)⟩,Grow.refl _ _ _,hsp.sub⟩
    have hlc:(cl ++ cm).length=(n + m.length) * Rep.n α:=by rw [zLa,hcl1,hcm1,Nat.add_mul]
    have m1:=mm.step (H':=[zI (some (w.heap.size,nc)) (l.take n ++ m)]) (zbq.cons hp .nil) hstep'
      (zfh ⟨.cells (cl.toArray ++ cm.toArray ++ Builtin.zeroCells z.cells (nc - (n + m.length))) e (0,0),by simp,zgI mm.sub,_,e,rfl,by
        rw [Array.size_append,Array.size_append,List.size_toArray,List.size_toArray,hzs,hzn,<- zLa,hlc,<- Nat.add_mul]
        congr 1;omega,by rw [hll];exact hnc,by
        rw [hll,<- hlc]
        simp only [Array.toList_append,List.toList_toArray]
        rw [List.take_left' rfl]
        exact zgp hcl2 hcm2⟩ λb' hb'=>by simp [zI] at hb';subst hb';exact .inr (zNl _))
    exact ⟨_,_,hrun2,hn _ _ _ _ (Frz.le_refl _) (k (some (w.heap.size,nc))) (m1.put hd ⟨by rw [hll];omega,by rw [hll]⟩)⟩
  have fin : (∃ v w',(Builtin.append_ #[T,U] ty #[a.eval x,a.eval y]).run c.P w=.ok v w'/\next (a.put (some dd) v) w'):=by
    cases t with
    | none =>
      obtain ⟨ev,rfl⟩:=htk
      by_cases hneed:0 + m.length <= 0
      · have hm0:m=[]:=by cases m with | nil=>rfl | cons _ _=>exact absurd hneed (by simp)
        subst hm0
        refine ⟨.slice none 0 0,w,?_,?_⟩
        · have hf:=hcm4 w mm.sub
          have hcm0:cm=[]:=List.length_eq_zero_iff.1 (by rw [hcm1];simp)
          rw [hcm0] at hf
          rw [ev'] at hf
          simp only [zLn] at hf
          simp [Builtin.append_,underlying,hu,hu',ev,ev',sizeOf,typeInfo,hi,hsz,Builtin.lenOf,hf]
        · have m1:=mm.step (H':=[zI none (l.take 0 ++ ([]:List α))]) (zbq.cons hp .nil) (S':=S) (w':=w) ⟨zjn.refl _ _,Grow.refl _ _ _,mm.sub⟩
            ⟨λx hx=>by simp at hx;subst hx;trivial,by simp [zbP,zI],λb hb=>by simp [zbP,zI] at hb⟩
          exact hn _ _ _ _ (Frz.le_refl _) (k none) (m1.put hd ⟨by rw [hll];simp,rfl,by rw [hll];rfl⟩)
      · refine grown none 0 [] ev hneed (by simp) (by simp [rdL]) (by simp) (by simp [Builtin.firstCells])
    | some t =>
      obtain ⟨b,cap⟩:=t
      simp only at htk
      obtain ⟨o,ho,hnone,cs,T0,e1,hcsz,hlc,hr⟩:=hs
      subst e1
      have hle:n * Rep.n α <= l.length * Rep.n α:=Nat.mul_le_mul_right _ hnl
      have hle2:l.length * Rep.n α <= cap * Rep.n α:=Nat.mul_le_mul_right _ hlc
      have htk2:(cs.toList.take (l.length * Rep.n α)).take (n * Rep.n α)=cs.toList.take (n * Rep.n α):=by rw [List.take_take,Nat.min_eq_left hle]
      have hrn:rdL (Rep.rd S) (l.take n) (cs.toList.take (n * Rep.n α)):=by rw [<- htk2];exact ziy (λ_ _ h=>Rep.len h) n hr
      have hcln:(cs.toList.take (n * Rep.n α)).length=n * Rep.n α:=by
        have:cs.toList.length=cs.size:=by simp
        rw [zLt];omega
      by_cases hneed:n + m.length <= cap
      · have hfit:n * Rep.n α + cm.length <= cs.size:=by
          have h2:(n + m.length) * Rep.n α <= cap * Rep.n α:=Nat.mul_le_mul_right _ hneed
          rw [Nat.add_mul] at h2
          rw [hcm1];omega
        have hst:=run_storeCells_at (P:=c.P) b (n * Rep.n α) T0 cm 0 cs w ho (by omega) hcmo
        have hadd:(⟨b,0,none⟩:Addr).add (n * Rep.n α)=⟨b,n * Rep.n α,none⟩:=by rw [zc6,Nat.zero_add]
        have hrun2:(Builtin.append_ #[T,U] ty #[a.eval x,a.eval y]).run c.P w=.ok (.slice (some ⟨b,0,none⟩) (n + m.length) cap) (w.setRow b (cs.toList.take (n * Rep.n α + 0) ++ cm ++ cs.toList.drop (n * Rep.n α + 0 + cm.length)).toArray):=by
          have hf:=hcm4 w mm.sub
          rw [ev'] at hf
          simp [Builtin.append_,underlying,hu,hu',htk,ev',sizeOf,typeInfo,hi,hsz,Builtin.lenOf,hf,hneed,hadd,hst]
        obtain ⟨hstep,hh⟩:=ziW (cs:=(cs.toList.take (n * Rep.n α + 0) ++ cm ++ cs.toList.drop (n * Rep.n α + 0 + cm.length)).toArray) mm.sub hnone ho
        have m1:=mm.step (Hc:=[zI (some (b,cap)) l]) (H':=[zI (some (b,cap)) (l.take n ++ m)]) (zbq.cons hp .nil) hstep
          (zfh ⟨_,hh,hnone,_,_,rfl,by
            have hcl:cs.toList.length=cs.size:=by simp
            simp only [List.size_toArray,zLa,zLt,zLd,hcl]
            omega,by rw [hll];exact hneed,by
            rw [hll,Nat.add_mul,<- hcm1,Nat.add_zero]
            simp only
            have:(cs.toList.take (n * Rep.n α) ++ cm ++ cs.toList.drop (n * Rep.n α + cm.length)).take (n * Rep.n α + cm.length)=cs.toList.take (n * Rep.n α) ++ cm:=List.take_left' (by rw [zLa,hcln])
            rw [this]
            exact zgp hrn hcm2⟩ λb' hb=>by simp [zI] at hb;subst hb;exact .inl (by simp [zbP,zI]))
        exact ⟨_,_,hrun2,hn _ _ _ _ (Frz.le_refl _) (k (some (b,cap))) (m1.put hd ⟨by rw [hll];omega,by rw [hll]⟩)⟩
      · refine grown (some ⟨b,0,none⟩) cap (cs.toList.take (n * Rep.n α)) htk hneed hcln hrn (λv hv=>zjK (λ_ _ h=>Rep.cell h) hrn v hv) ?_
        have:=run_loadCells_list (P:=c.P) { w with drawn:=w.drawn + 1 } ⟨b,0,none⟩ (cs.toList.take (n * Rep.n α)) (λj u hj=>by
          rw [zc6]
          unfold World.cell?
          show (match w.heap[b]? with | _=>_)=_
          rw [ho]
          simp only
          rw [List.getElem?_take] at hj
          split at hj
          · simpa using hj
          · cases hj)
        rw [hcln] at this
        simpa [Builtin.firstCells] using this
  obtain ⟨v,w',h1,h2⟩:=fin
  rw [h1]
  exact h2

theorem zjf {Γ:zM} {H:List Ent} {α:Type} [Rep α] {x y:Operand} {t:Tok} {l m:List α} {R R2:VP} {T U:TypeId} {dd:Nat} {K:St->Prop} {Hr:List Ent} (hT:zmy c.P T U (Rep.n α)=true)
    (hx:zB Γ x=some R2) (hcx:∀ S v,R2.p S v->(zbK t l).p S v) (hy:zB Γ y=some R) (hc:∀ S v,R.p S v->(isv m).p S v) (ht:zcw (zO t) H Hr)
    (hb:Nat.ble (l.length + m.length) 68719476736=true)
    (k:∀ t',K ⟨(dd,zbK t' (l ++ m)) :: Γ,zO t' :: Hr⟩) (hd:Nat.blt dd c.n=true:=by rfl) :
    OpT c ⟨some dd,.call ⟨.builtin .append,#[x,y],#[T,U]⟩,ty,pos,af,g⟩ ⟨Γ,H⟩ K :=
  zpw hT hx hcx hy hc (.inr rfl) (.cons ht .nil) (Nat.le_of_ble_eq_true hb) k hd
theorem zp8 {Γ:zM} {H:List Ent} {α:Type} [Rep α] {x y:Operand} {m:List α} {R:VP} {T U:TypeId} {dd:Nat} {K:St->Prop} (hT:zmy c.P T U (Rep.n α)=true)
    (hx:zB Γ x=some zeI) (hy:zB Γ y=some R) (hc:∀ S v,R.p S v->(isv m).p S v)
    (hb:Nat.ble (([]:List α).length + m.length) 68719476736=true)
    (k:∀ t',K ⟨(dd,zbK t' (([]:List α) ++ m)) :: Γ,zO t' :: H⟩) (hd:Nat.blt dd c.n=true:=by rfl) :
    OpT c ⟨some dd,.call ⟨.builtin .append,#[x,y],#[T,U]⟩,ty,pos,af,g⟩ ⟨Γ,H⟩ K :=
  zpw hT hx zii hy hc (.inl ⟨rfl,rfl⟩) .nil (Nat.le_of_ble_eq_true hb) k hd
end ops
theorem zr1 {S:Frz}:∀ {l:List UInt8} {cs:List Value},rdL (Rep.rd S) l cs->cs=l.map λx=>Value.int .u8 (x.toNat:Int)
 | [],_,h=>h
 | x :: l,_,⟨c1,c2,e,h1,h2⟩=>by
  have h1':c1=[.int .u8 (x.toNat:Int)]:=h1
  subst h1';subst e
  rw [zr1 h2];rfl
theorem zn0 {S:Frz}:∀ l:List UInt8,rdL (Rep.rd S) l (l.map λx=>Value.int .u8 (x.toNat:Int))
 | []=>rfl
 | x :: l=>⟨[.int .u8 (x.toNat:Int)],_,rfl,rfl,zn0 l⟩
theorem zop:∀ (l:List UInt8) (r:ByteArray),(l.map (λb=>(b.toNat:Int))).foldl (λr n=>r.push (UInt8.ofNat n.toNat)) r=⟨r.data ++ l.toArray⟩
 | [],r=>by simp
 | b :: l,r=>by
  simp only [List.map_cons,List.foldl_cons]
  rw [zop l]
  simp [ByteArray.push]

section ops
variable {c:Ctx} {ty:TypeId} {pos:String} {af:Array Edge} {g:Option (Nat × Bool)} {σ:St} {d:Option Nat}

theorem zz4 {x:Operand} {l:List UInt8} {R:VP} {T U e:TypeId} (hs:c.P.underlying T=some (.slice e)) (he:c.P.underlying e=some (.int .u8)) (hd:c.P.underlying U=some .string) (hx:zB σ.Γ x=some R) (hc:∀ S v,R.p S v->(isv l).p S v) :
    OpV c ⟨d,.convert T U x,ty,pos,af,g⟩ σ (isv (Str.mk l)):=λS a w m=>by
  obtain ⟨p,cap,h1,h2,h3,h4⟩:=zcs.1 (hc _ _ (zb m hx))
  refine ⟨.string (Str.mk l).ba,zdv.2 ⟨rfl,by show l.length <= zhG;unfold zfr at h3;unfold zhG;omega⟩,λw' hw=>?_⟩
  rcases h4 with h4 | ⟨ad,cs,h5,h6,h7,h8⟩
  · subst h4
    have hr:(convert T U (.slice p 0 cap)).run c.P w'=.ok (.string (Str.mk []).ba) w':=by
      rw [run_convert_bytes_string w' T U e p 0 cap hs he hd]
      cases p with
      | none=>simp [Conv.bytesToString,Str.ba];rfl
      | some ad =>
        rw [run_bytesToString w' ad 0 cap [] (by simp [loadCells,loadCellsFrom])]
        rfl
    simp only [execOp,Sem.run_bind,h1,zLn,hr,Result.andThen_ok,Sem.run_pure]
  · subst h5
    have e1:=zr1 h8
    have hr:(convert T U (.slice (some ad) l.length cap)).run c.P w'=.ok (.string (Str.mk l).ba) w':=by
      rw [run_convert_bytes_string w' T U e _ l.length cap hs he hd]
      have hl:=run_loadCells_list (P:=c.P) w' ad cs (λj u hu=>Frz.has_cell hw.1 h6 hu)
      have hn:cs.length=l.length:=by rw [e1,List.length_map]
      rw [hn,e1] at hl
      have e2:(l.map λx=>Value.int .u8 (x.toNat:Int))=(l.map λx=>(x.toNat:Int)).map (Value.int .u8):=by rw [List.map_map];rfl
      rw [e2] at hl
      rw [run_bytesToString w' ad l.length cap _ hl,zop]
      simp [Str.ba,ByteArray.empty,ByteArray.emptyWithCapacity]
      rfl
    simp only [execOp,Sem.run_bind,h1,hr,Result.andThen_ok,Sem.run_pure]

theorem zAg {Γ:zM} {H:List Ent} {x:Operand} {s:Str} {T U e:TypeId} {dd:Nat} {K:St->Prop} (hs:c.P.underlying T=some .string) (hU:c.P.underlying U=some (.slice e)) (he:c.P.underlying e=some (.int .u8)) (hx:zB Γ x=some (isv s)) (hb:Nat.ble s.b.length 68719476736=true)
    (k:K ⟨(dd,isv s.b) :: Γ,H⟩) (hd:Nat.blt dd c.n=true:=by rfl):OpT c ⟨some dd,.convert T U x,ty,pos,af,g⟩ ⟨Γ,H⟩ K:=by
  intro S a w next Q m hn
  obtain ⟨h1,_⟩:=zdv.1 (zb m hx)
  have hb':=Nat.le_of_ble_eq_true hb
  have hr:=Lib.run_convert_string_bytes (P:=c.P) w T U e s.ba hs hU he
  unfold Oper.wp
  have hrun:(execOp a.eval ⟨some dd,.convert T U x,ty,pos,af,g⟩).run c.P w=.ok (.value (.slice (some ⟨w.heap.size,0,none⟩) s.ba.size (grownCap w s.ba.size 0 e))) (Lib.bytesWorld w e s.ba):=by
    simp only [execOp,Sem.run_bind,h1,hr,Result.andThen_ok,Sem.run_pure]
  rw [hrun]
  have hcells:(s.b.map λx=>Value.int .u8 (x.toNat:Int)) <+: (Lib.bytesCells w e s.ba).toList:=by
    simp [Lib.bytesCells,Str.ba]
  have hcap:s.b.length <= grownCap w s.ba.size 0 e:=by
    rw [<- Str.ba_size];exact Nat.le_add_right _ _
  have hfr:=zgI m.sub
  have hst:zkC (zbP []) S (S.put w.heap.size (s.b.map λx=>Value.int .u8 (x.toNat:Int))) w (Lib.bytesWorld w e s.ba):=by
    refine ⟨⟨?_,?_,?_,by rw [Lib.bytesWorld_size];omega,λk hk _=>Lib.bytesWorld_at_old w e s.ba k hk⟩,zrX m.sub _,λb d hb=>?_⟩
    · unfold Lib.bytesWorld World.freeze;rw [if_neg (by decide)];rfl
    · unfold Lib.bytesWorld World.freeze;rw [if_neg (by decide)];rfl
    · unfold Lib.bytesWorld World.freeze;rw [if_neg (by decide)];rfl
    · unfold Frz.put at hb
      split at hb
      · cases hb
        rename_i eb;subst eb
        exact ⟨_,_,_,Lib.bytesWorld_at_new w e s.ba,hcells⟩
      · obtain ⟨c1,T1,f1,h2,h3⟩:=m.sub b d hb
        have hlt:=(Array.getElem?_eq_some_iff.1 h2).1
        exact ⟨c1,T1,f1,by rw [Lib.bytesWorld_at_old w e s.ba b hlt];exact h2,h3⟩
  have m1:=m.step (Hc:=[]) (H':=[]) .nil hst (zff _ _ _ _)
  refine hn _ _ _ _ hst.grow.le k (m1.put hd (zcs.2 ⟨some ⟨w.heap.size,0,none⟩,grownCap w s.ba.size 0 e,by rw [Str.ba_size],hcap,by unfold zfr;omega,.inr ⟨⟨w.heap.size,0,none⟩,s.b.map λx=>Value.int .u8 (x.toNat:Int),rfl,⟨rfl,s.b.map λx=>Value.int .u8 (x.toNat:Int),by show (if w.heap.size=w.heap.size then _ else _)=_;rw [if_pos rfl],λi v hi=>by simpa using hi⟩,by show _=_ * 1;rw [List.length_map,Nat.mul_one],zn0 _⟩⟩))
end ops

/-! ### Values within values -/
structure Raw where
 n:Int
 b:List UInt8
deriving DecidableEq
abbrev Raw.to (x:Raw):Int × List UInt8:=(x.n,x.b)
instance:Rep Raw:=Rep.iso Raw.to

inductive Val where
 | mk (kind:Int) (n:Int) (b:List UInt8) (l:List Val) (rule:Int) (more:List Raw)
def Val.kind:Val->Int | ⟨k,_,_,_,_,_⟩=>k
def Val.n:Val->Int | ⟨_,n,_,_,_,_⟩=>n
def Val.b:Val->List UInt8 | ⟨_,_,b,_,_,_⟩=>b
def Val.l:Val->List Val | ⟨_,_,_,l,_,_⟩=>l
def Val.rule:Val->Int | ⟨_,_,_,_,r,_⟩=>r
def Val.more:Val->List Raw | ⟨_,_,_,_,_,m⟩=>m

mutual
def zkI (S:Frz):Val->List Value->Prop
  | ⟨k,n,b,l,r,m⟩,cs=>∃ vb vl vm,cs=[.int .i64 k,.int .i64 n,vb,vl,.int .i64 r,vm]/\zc3 k/\zc3 n/\zc3 r/\zsS 1 Rep.rd S vb b/\zsS (Rep.n Raw) Rep.rd S vm m /\
      (∃ p cap,vl=.slice p l.length cap/\l.length <= cap/\l.length <= zfr/\(l=[] \/ ∃ a c,p=some a/\S.has a c/\c.length=l.length * 6/\zk6 S l c))
def zk6 (S:Frz):List Val->List Value->Prop
 | [],cs=>cs=[]
 | x :: l,cs=>∃ c1 c2,cs=c1 ++ c2/\zkI S x c1/\zk6 S l c2
end
theorem zjU {S:Frz}:∀ {l:List Val} {cs:List Value},zk6 S l cs ↔ rdL (λcs x=>zkI S x cs) l cs
 | [],_=>by unfold zk6 rdL;exact Iff.rfl
 | x :: l,cs=>by
  unfold zk6 rdL
  exact ⟨λ⟨c1,c2,e,h1,h2⟩=>⟨c1,c2,e,h1,zjU.1 h2⟩,λ⟨c1,c2,e,h1,h2⟩=>⟨c1,c2,e,h1,zjU.2 h2⟩⟩
theorem zuN {S:Frz}:∀ {x:Val} {cs:List Value},zkI S x cs->cs.length=6
 | ⟨_,_,_,_,_,_⟩,_,h=>by
  unfold zkI at h
  obtain ⟨_,_,_,e,_⟩:=h
  rw [e];rfl
mutual
theorem zoh {S S':Frz} (h:S.le S'):∀ (x:Val) {cs:List Value},zkI S x cs->zkI S' x cs
 | ⟨k,n,b,l,r,m⟩,cs,hx=>by
  unfold zkI at hx ⊢
  obtain ⟨vb,vl,vm,e,h1,h2,h3,h4,h5,p,cap,e2,h6,h7,h8⟩:=hx
  refine ⟨vb,vl,vm,e,h1,h2,h3,zcs.1 ((isv b).mono h (zcs.2 h4)),zcs.1 ((isv m).mono h (zcs.2 h5)),p,cap,e2,h6,h7,h8.imp id ?_⟩
  rintro ⟨a,c,j1,j2,j3,j4⟩
  exact ⟨a,c,j1,Frz.has_mono h j2,j3,zm6 h l j4⟩
theorem zm6 {S S':Frz} (h:S.le S'):∀ (l:List Val) {cs:List Value},zk6 S l cs->zk6 S' l cs
 | [],_,hx=>hx
 | x :: l,_,hx=>by
  unfold zk6 at hx ⊢
  obtain ⟨c1,c2,e,h1,h2⟩:=hx
  exact ⟨c1,c2,e,zoh h x h1,zm6 h l h2⟩
end
theorem zpq {α:Type} {n:Nat} {r:Frz->List Value->α->Prop} {S:Frz} {v:Value} {l:List α} (h:zsS n r S v l):v.oneCell'=true:=by
 obtain ⟨p,cap,e,_⟩:=h
 rw [e];rfl
instance:Rep Val where
 n:=6
 agg:=true
 rd:=λS cs x=>zkI S x cs
 len:=zuN
 mono:=λh k=>zoh h _ k
 cell:=λ{S cs x} h v hv=>by
  obtain ⟨k,n,b,l,r,m⟩:=x
  unfold zkI at h
  obtain ⟨vb,vl,vm,e,h1,h2,h3,h4,h5,p,cap,e2,_⟩:=h
  subst e
  simp only [List.mem_cons,List.not_mem_nil,or_false] at hv
  rcases hv with rfl | rfl | rfl | rfl | rfl | rfl
  ·rfl
  ·rfl
  ·exact zpq h4
  ·rw [e2];rfl
  ·rfl
  ·exact zpq h5
 one:=λh=>by cases h
abbrev Val.to (x:Val):Int × Int × List UInt8 × List Val × Int × List Raw:=(x.kind,x.n,x.b,x.l,x.rule,x.more)
theorem Val.rd_to {S:Frz} {cs:List Value} {x:Val}:Rep.rd S cs x ↔ Rep.rd S cs x.to:=by
 obtain ⟨k,n,b,l,r,m⟩:=x
 show zkI S ⟨k,n,b,l,r,m⟩ cs ↔ _
 unfold zkI
 constructor
 ·rintro ⟨vb,vl,vm,e,h1,h2,h3,h4,h5,p,cap,e2,h6,h7,h8⟩
  exact ⟨[.int .i64 k],[.int .i64 n,vb,vl,.int .i64 r,vm],e,⟨rfl,h1⟩,[.int .i64 n],[vb,vl,.int .i64 r,vm],rfl,⟨rfl,h2⟩,[vb],[vl,.int .i64 r,vm],rfl,⟨vb,rfl,h4⟩,[vl],[.int .i64 r,vm],rfl,
   ⟨vl,rfl,p,cap,e2,h6,h7,h8.imp id λ⟨a,c,j1,j2,j3,j4⟩=>⟨a,c,j1,j2,j3,zjU.1 j4⟩⟩,[.int .i64 r],[vm],rfl,⟨rfl,h3⟩,⟨vm,rfl,h5⟩⟩
 ·rintro ⟨_,_,e,⟨rfl,h1⟩,_,_,rfl,⟨rfl,h2⟩,_,_,rfl,⟨vb,rfl,h4⟩,_,_,rfl,⟨vl,rfl,p,cap,e2,h6,h7,h8⟩,_,_,rfl,⟨rfl,h3⟩,⟨vm,rfl,h5⟩⟩
  exact ⟨vb,vl,vm,e,h1,h2,h3,h4,h5,p,cap,e2,h6,h7,h8.imp id λ⟨a,c,j1,j2,j3,j4⟩=>⟨a,c,j1,j2,j3,zjU.2 j4⟩⟩
@[reducible] def Fld.ofV {β:Type} [Rep β] (F:Fld (Int × Int × List UInt8 × List Val × Int × List Raw) β) (get:Val->β) (set:Val->β->Val) (hg:∀ x:Val,F.get x.to=get x) (hs:∀ (x:Val) y,F.set x.to y=(set x y).to):Fld Val β where
 off:=F.off
 get:=get
 set:=set
 fits:=F.fits
 rget:=λ{S cs x} h=>hg x ▸ F.rget (Val.rd_to.1 h)
 rset:=λ{S cs ds x y} h k=>by
  have:=F.rset (Val.rd_to.1 h) k
  rw [hs] at this
  exact Val.rd_to.2 this
theorem Cv.val {S:Frz} {x:Val}:Cv S x.to x:=λ_ h=>Val.rd_to.2 h
section parts
variable {A0 A1 A2 A3 A4 A5 A6 A7 A8 A9:Type} [Rep A0] [Rep A1] [Rep A2] [Rep A3] [Rep A4] [Rep A5] [Rep A6] [Rep A7] [Rep A8] [Rep A9]
@[reducible] def pf0:Fld (A0 × A1) A0:=Fld.fst A0 A1
@[reducible] def pl0:Fld A0 A0:=Fld.id A0
@[reducible] def pl1:Fld (A0 × A1) A1:=Fld.snd A0 A1
@[reducible] def pf1:Fld (A0 × A1 × A2) A1:=(Fld.snd A0 (A1 × A2)).comp (pf0 (A0:=A1) (A1:=A2))
@[reducible] def pf2:Fld (A0 × A1 × A2 × A3) A2:=(Fld.snd A0 (A1 × A2 × A3)).comp (pf1 (A0:=A1) (A1:=A2) (A2:=A3))
@[reducible] def pf3:Fld (A0 × A1 × A2 × A3 × A4) A3:=(Fld.snd A0 (A1 × A2 × A3 × A4)).comp (pf2 (A0:=A1) (A1:=A2) (A2:=A3) (A3:=A4))
@[reducible] def pf4:Fld (A0 × A1 × A2 × A3 × A4 × A5) A4:=(Fld.snd A0 (A1 × A2 × A3 × A4 × A5)).comp (pf3 (A0:=A1) (A1:=A2) (A2:=A3) (A3:=A4) (A4:=A5))
@[reducible] def pf5:Fld (A0 × A1 × A2 × A3 × A4 × A5 × A6) A5:=(Fld.snd A0 (A1 × A2 × A3 × A4 × A5 × A6)).comp (pf4 (A0:=A1) (A1:=A2) (A2:=A3) (A3:=A4) (A4:=A5) (A5:=A6))
@[reducible] def pf6:Fld (A0 × A1 × A2 × A3 × A4 × A5 × A6 × A7) A6:=(Fld.snd A0 (A1 × A2 × A3 × A4 × A5 × A6 × A7)).comp (pf5 (A0:=A1) (A1:=A2) (A2:=A3) (A3:=A4) (A4:=A5) (A5:=A6) (A6:=A7))
@[reducible] def pf7:Fld (A0 × A1 × A2 × A3 × A4 × A5 × A6 × A7 × A8) A7:=(Fld.snd A0 (A1 × A2 × A3 × A4 × A5 × A6 × A7 × A8)).comp (pf6 (A0:=A1) (A1:=A2) (A2:=A3) (A3:=A4) (A4:=A5) (A5:=A6) (A6:=A7) (A7:=A8))
@[reducible] def pl2:Fld (A0 × A1 × A2) A2:=(Fld.snd A0 (A1 × A2)).comp (pl1 (A0:=A1) (A1:=A2))
@[reducible] def pl3:Fld (A0 × A1 × A2 × A3) A3:=(Fld.snd A0 (A1 × A2 × A3)).comp (pl2 (A0:=A1) (A1:=A2) (A2:=A3))
@[reducible] def pl4:Fld (A0 × A1 × A2 × A3 × A4) A4:=(Fld.snd A0 (A1 × A2 × A3 × A4)).comp (pl3 (A0:=A1) (A1:=A2) (A2:=A3) (A3:=A4))
@[reducible] def pl5:Fld (A0 × A1 × A2 × A3 × A4 × A5) A5:=(Fld.snd A0 (A1 × A2 × A3 × A4 × A5)).comp (pl4 (A0:=A1) (A1:=A2) (A2:=A3) (A3:=A4) (A4:=A5))
@[reducible] def pl6:Fld (A0 × A1 × A2 × A3 × A4 × A5 × A6) A6:=(Fld.snd A0 (A1 × A2 × A3 × A4 × A5 × A6)).comp (pl5 (A0:=A1) (A1:=A2) (A2:=A3) (A3:=A4) (A4:=A5) (A5:=A6))
@[reducible] def pl7:Fld (A0 × A1 × A2 × A3 × A4 × A5 × A6 × A7) A7:=(Fld.snd A0 (A1 × A2 × A3 × A4 × A5 × A6 × A7)).comp (pl6 (A0:=A1) (A1:=A2) (A2:=A3) (A3:=A4) (A4:=A5) (A5:=A6) (A6:=A7))
@[reducible] def pl8:Fld (A0 × A1 × A2 × A3 × A4 × A5 × A6 × A7 × A8) A8:=(Fld.snd A0 (A1 × A2 × A3 × A4 × A5 × A6 × A7 × A8)).comp (pl7 (A0:=A1) (A1:=A2) (A2:=A3) (A3:=A4) (A4:=A5) (A5:=A6) (A6:=A7) (A7:=A8))
end parts

@[reducible] def Val.f0:Fld Val (Int):=Fld.ofV pf0 Val.kind (λx y=>⟨y,x.n,x.b,x.l,x.rule,x.more⟩) (λ_=>rfl) (λ⟨_,_,_,_,_,_⟩ _=>rfl)
@[reducible] def Val.f1:Fld Val (Int):=Fld.ofV pf1 Val.n (λx y=>⟨x.kind,y,x.b,x.l,x.rule,x.more⟩) (λ_=>rfl) (λ⟨_,_,_,_,_,_⟩ _=>rfl)
@[reducible] def Val.f2:Fld Val (List UInt8):=Fld.ofV pf2 Val.b (λx y=>⟨x.kind,x.n,y,x.l,x.rule,x.more⟩) (λ_=>rfl) (λ⟨_,_,_,_,_,_⟩ _=>rfl)
@[reducible] def Val.f3:Fld Val (List Val):=Fld.ofV pf3 Val.l (λx y=>⟨x.kind,x.n,x.b,y,x.rule,x.more⟩) (λ_=>rfl) (λ⟨_,_,_,_,_,_⟩ _=>rfl)
@[reducible] def Val.f4:Fld Val (Int):=Fld.ofV pf4 Val.rule (λx y=>⟨x.kind,x.n,x.b,x.l,y,x.more⟩) (λ_=>rfl) (λ⟨_,_,_,_,_,_⟩ _=>rfl)
@[reducible] def Val.f5:Fld Val (List Raw):=Fld.ofV pl5 Val.more (λx y=>⟨x.kind,x.n,x.b,x.l,x.rule,y⟩) (λ_=>rfl) (λ⟨_,_,_,_,_,_⟩ _=>rfl)
@[reducible] def Val.zero:Val:=⟨0,0,[],[],0,[]⟩
@[reducible] def Raw.f0:Fld Raw (Int):=Fld.of Raw.to pf0 (λx=>x.n) (λx y=>{ x with n:=y }) (λ_=>rfl) (λ_ _=>rfl)
@[reducible] def Raw.f1:Fld Raw (List UInt8):=Fld.of Raw.to pl1 (λx=>x.b) (λx y=>{ x with b:=y }) (λ_=>rfl) (λ_ _=>rfl)
@[reducible] def Raw.zero:Raw:=⟨0,[]⟩

structure zS where
 kind:Int
 text:Str
 at_:Int
deriving DecidableEq
abbrev zS.to (x:zS):Int × Str × Int:=(x.kind,x.text,x.at_)
instance:Rep zS:=Rep.iso zS.to
@[reducible] def zS.f0:Fld zS (Int):=Fld.of zS.to pf0 (λx=>x.kind) (λx y=>{ x with kind:=y }) (λ_=>rfl) (λ_ _=>rfl)
@[reducible] def zS.f1:Fld zS (Str):=Fld.of zS.to pf1 (λx=>x.text) (λx y=>{ x with text:=y }) (λ_=>rfl) (λ_ _=>rfl)
@[reducible] def zS.f2:Fld zS (Int):=Fld.of zS.to pl2 (λx=>x.at_) (λx y=>{ x with at_:=y }) (λ_=>rfl) (λ_ _=>rfl)
@[reducible] def zS.zero:zS:=⟨0,⟨[]⟩,0⟩
theorem zS.cv {S:Frz} {x:zS}:Cv S x.to x:=λ_ h=>h
structure zai where
 name:Str
 number:Int
 has:Bool
deriving DecidableEq
abbrev zai.to (x:zai):Str × Int × Bool:=(x.name,x.number,x.has)
instance:Rep zai:=Rep.iso zai.to
@[reducible] def zai.f0:Fld zai (Str):=Fld.of zai.to pf0 (λx=>x.name) (λx y=>{ x with name:=y }) (λ_=>rfl) (λ_ _=>rfl)
@[reducible] def zai.f1:Fld zai (Int):=Fld.of zai.to pf1 (λx=>x.number) (λx y=>{ x with number:=y }) (λ_=>rfl) (λ_ _=>rfl)
@[reducible] def zai.f2:Fld zai (Bool):=Fld.of zai.to pl2 (λx=>x.has) (λx y=>{ x with has:=y }) (λ_=>rfl) (λ_ _=>rfl)
@[reducible] def zai.zero:zai:=⟨⟨[]⟩,0,false⟩
theorem zai.cv {S:Frz} {x:zai}:Cv S x.to x:=λ_ h=>h
structure zbx where
 has:Bool
 hasLow:Bool
 hasHigh:Bool
 more:Bool
 low:Int
 high:Int
deriving DecidableEq
abbrev zbx.to (x:zbx):Bool × Bool × Bool × Bool × Int × Int:=(x.has,x.hasLow,x.hasHigh,x.more,x.low,x.high)
instance:Rep zbx:=Rep.iso zbx.to
@[reducible] def zbx.f0:Fld zbx (Bool):=Fld.of zbx.to pf0 (λx=>x.has) (λx y=>{ x with has:=y }) (λ_=>rfl) (λ_ _=>rfl)
@[reducible] def zbx.f1:Fld zbx (Bool):=Fld.of zbx.to pf1 (λx=>x.hasLow) (λx y=>{ x with hasLow:=y }) (λ_=>rfl) (λ_ _=>rfl)
@[reducible] def zbx.f2:Fld zbx (Bool):=Fld.of zbx.to pf2 (λx=>x.hasHigh) (λx y=>{ x with hasHigh:=y }) (λ_=>rfl) (λ_ _=>rfl)
@[reducible] def zbx.f3:Fld zbx (Bool):=Fld.of zbx.to pf3 (λx=>x.more) (λx y=>{ x with more:=y }) (λ_=>rfl) (λ_ _=>rfl)
@[reducible] def zbx.f4:Fld zbx (Int):=Fld.of zbx.to pf4 (λx=>x.low) (λx y=>{ x with low:=y }) (λ_=>rfl) (λ_ _=>rfl)
@[reducible] def zbx.f5:Fld zbx (Int):=Fld.of zbx.to pl5 (λx=>x.high) (λx y=>{ x with high:=y }) (λ_=>rfl) (λ_ _=>rfl)
@[reducible] def zbx.zero:zbx:=⟨false,false,false,false,0,0⟩
theorem zbx.cv {S:Frz} {x:zbx}:Cv S x.to x:=λ_ h=>h
structure zcP where
 has:Bool
 number:Int
 mode:Int
deriving DecidableEq
abbrev zcP.to (x:zcP):Bool × Int × Int:=(x.has,x.number,x.mode)
instance:Rep zcP:=Rep.iso zcP.to
@[reducible] def zcP.f0:Fld zcP (Bool):=Fld.of zcP.to pf0 (λx=>x.has) (λx y=>{ x with has:=y }) (λ_=>rfl) (λ_ _=>rfl)
@[reducible] def zcP.f1:Fld zcP (Int):=Fld.of zcP.to pf1 (λx=>x.number) (λx y=>{ x with number:=y }) (λ_=>rfl) (λ_ _=>rfl)
@[reducible] def zcP.f2:Fld zcP (Int):=Fld.of zcP.to pl2 (λx=>x.mode) (λx y=>{ x with mode:=y }) (λ_=>rfl) (λ_ _=>rfl)
@[reducible] def zcP.zero:zcP:=⟨false,0,0⟩
theorem zcP.cv {S:Frz} {x:zcP}:Cv S x.to x:=λ_ h=>h
structure zaF where
 name:Str
 ty:Int
 optional:Bool
 has:Bool
 dflt:Val
 group:Int
abbrev zaF.to (x:zaF):Str × Int × Bool × Bool × Val × Int:=(x.name,x.ty,x.optional,x.has,x.dflt,x.group)
instance:Rep zaF:=Rep.iso zaF.to
@[reducible] def zaF.f0:Fld zaF (Str):=Fld.of zaF.to pf0 (λx=>x.name) (λx y=>{ x with name:=y }) (λ_=>rfl) (λ_ _=>rfl)
@[reducible] def zaF.f1:Fld zaF (Int):=Fld.of zaF.to pf1 (λx=>x.ty) (λx y=>{ x with ty:=y }) (λ_=>rfl) (λ_ _=>rfl)
@[reducible] def zaF.f2:Fld zaF (Bool):=Fld.of zaF.to pf2 (λx=>x.optional) (λx y=>{ x with optional:=y }) (λ_=>rfl) (λ_ _=>rfl)
@[reducible] def zaF.f3:Fld zaF (Bool):=Fld.of zaF.to pf3 (λx=>x.has) (λx y=>{ x with has:=y }) (λ_=>rfl) (λ_ _=>rfl)
@[reducible] def zaF.f4:Fld zaF (Val):=Fld.of zaF.to pf4 (λx=>x.dflt) (λx y=>{ x with dflt:=y }) (λ_=>rfl) (λ_ _=>rfl)
@[reducible] def zaF.f5:Fld zaF (Int):=Fld.of zaF.to pl5 (λx=>x.group) (λx y=>{ x with group:=y }) (λ_=>rfl) (λ_ _=>rfl)
@[reducible] def zaF.zero:zaF:=⟨⟨[]⟩,0,false,false,Val.zero,0⟩
theorem zaF.cv {S:Frz} {x:zaF}:Cv S x.to x:=λ_ h=>h
structure zh where
 kind:Int
 name:Str
 mark:zcP
 con:zbx
 items:List zai
 fields:List zaF
 root:Int
 more:Bool
 of:Int
abbrev zh.to (x:zh):Int × Str × zcP × zbx × List zai × List zaF × Int × Bool × Int:=(x.kind,x.name,x.mark,x.con,x.items,x.fields,x.root,x.more,x.of)
instance:Rep zh:=Rep.iso zh.to
@[reducible] def zh.f0:Fld zh (Int):=Fld.of zh.to pf0 (λx=>x.kind) (λx y=>{ x with kind:=y }) (λ_=>rfl) (λ_ _=>rfl)
@[reducible] def zh.f1:Fld zh (Str):=Fld.of zh.to pf1 (λx=>x.name) (λx y=>{ x with name:=y }) (λ_=>rfl) (λ_ _=>rfl)
@[reducible] def zh.f2:Fld zh (zcP):=Fld.of zh.to pf2 (λx=>x.mark) (λx y=>{ x with mark:=y }) (λ_=>rfl) (λ_ _=>rfl)
@[reducible] def zh.f3:Fld zh (zbx):=Fld.of zh.to pf3 (λx=>x.con) (λx y=>{ x with con:=y }) (λ_=>rfl) (λ_ _=>rfl)
@[reducible] def zh.f4:Fld zh (List zai):=Fld.of zh.to pf4 (λx=>x.items) (λx y=>{ x with items:=y }) (λ_=>rfl) (λ_ _=>rfl)
@[reducible] def zh.f5:Fld zh (List zaF):=Fld.of zh.to pf5 (λx=>x.fields) (λx y=>{ x with fields:=y }) (λ_=>rfl) (λ_ _=>rfl)
@[reducible] def zh.f6:Fld zh (Int):=Fld.of zh.to pf6 (λx=>x.root) (λx y=>{ x with root:=y }) (λ_=>rfl) (λ_ _=>rfl)
@[reducible] def zh.f7:Fld zh (Bool):=Fld.of zh.to pf7 (λx=>x.more) (λx y=>{ x with more:=y }) (λ_=>rfl) (λ_ _=>rfl)
@[reducible] def zh.f8:Fld zh (Int):=Fld.of zh.to pl8 (λx=>x.of) (λx y=>{ x with of:=y }) (λ_=>rfl) (λ_ _=>rfl)
@[reducible] def zh.zero:zh:=⟨0,⟨[]⟩,zcP.zero,zbx.zero,[],[],0,false,0⟩
theorem zh.cv {S:Frz} {x:zh}:Cv S x.to x:=λ_ h=>h
structure zaA where
 name:Str
 tagging:Int
 names:List Str
 types:List Int
 nodes:List zh
abbrev zaA.to (x:zaA):Str × Int × List Str × List Int × List zh:=(x.name,x.tagging,x.names,x.types,x.nodes)
instance:Rep zaA:=Rep.iso zaA.to
@[reducible] def zaA.f0:Fld zaA (Str):=Fld.of zaA.to pf0 (λx=>x.name) (λx y=>{ x with name:=y }) (λ_=>rfl) (λ_ _=>rfl)
@[reducible] def zaA.f1:Fld zaA (Int):=Fld.of zaA.to pf1 (λx=>x.tagging) (λx y=>{ x with tagging:=y }) (λ_=>rfl) (λ_ _=>rfl)
@[reducible] def zaA.f2:Fld zaA (List Str):=Fld.of zaA.to pf2 (λx=>x.names) (λx y=>{ x with names:=y }) (λ_=>rfl) (λ_ _=>rfl)
@[reducible] def zaA.f3:Fld zaA (List Int):=Fld.of zaA.to pf3 (λx=>x.types) (λx y=>{ x with types:=y }) (λ_=>rfl) (λ_ _=>rfl)
@[reducible] def zaA.f4:Fld zaA (List zh):=Fld.of zaA.to pl4 (λx=>x.nodes) (λx y=>{ x with nodes:=y }) (λ_=>rfl) (λ_ _=>rfl)
@[reducible] def zaA.zero:zaA:=⟨⟨[]⟩,0,[],[],[]⟩
theorem zaA.cv {S:Frz} {x:zaA}:Cv S x.to x:=λ_ h=>h
structure zg where
 kind:Int
 tags:List Tag
 con:zbx
 items:List zai
 fields:List zaF
 root:Int
 more:Bool
 of:Int
abbrev zg.to (x:zg):Int × List Tag × zbx × List zai × List zaF × Int × Bool × Int:=(x.kind,x.tags,x.con,x.items,x.fields,x.root,x.more,x.of)
instance:Rep zg:=Rep.iso zg.to
@[reducible] def zg.f0:Fld zg (Int):=Fld.of zg.to pf0 (λx=>x.kind) (λx y=>{ x with kind:=y }) (λ_=>rfl) (λ_ _=>rfl)
@[reducible] def zg.f1:Fld zg (List Tag):=Fld.of zg.to pf1 (λx=>x.tags) (λx y=>{ x with tags:=y }) (λ_=>rfl) (λ_ _=>rfl)
@[reducible] def zg.f2:Fld zg (zbx):=Fld.of zg.to pf2 (λx=>x.con) (λx y=>{ x with con:=y }) (λ_=>rfl) (λ_ _=>rfl)
@[reducible] def zg.f3:Fld zg (List zai):=Fld.of zg.to pf3 (λx=>x.items) (λx y=>{ x with items:=y }) (λ_=>rfl) (λ_ _=>rfl)
@[reducible] def zg.f4:Fld zg (List zaF):=Fld.of zg.to pf4 (λx=>x.fields) (λx y=>{ x with fields:=y }) (λ_=>rfl) (λ_ _=>rfl)
@[reducible] def zg.f5:Fld zg (Int):=Fld.of zg.to pf5 (λx=>x.root) (λx y=>{ x with root:=y }) (λ_=>rfl) (λ_ _=>rfl)
@[reducible] def zg.f6:Fld zg (Bool):=Fld.of zg.to pf6 (λx=>x.more) (λx y=>{ x with more:=y }) (λ_=>rfl) (λ_ _=>rfl)
@[reducible] def zg.f7:Fld zg (Int):=Fld.of zg.to pl7 (λx=>x.of) (λx y=>{ x with of:=y }) (λ_=>rfl) (λ_ _=>rfl)
@[reducible] def zg.zero:zg:=⟨0,[],zbx.zero,[],[],0,false,0⟩
theorem zg.cv {S:Frz} {x:zg}:Cv S x.to x:=λ_ h=>h
structure zZ where
 name:Str
 names:List Str
 roots:List Int
 types:List zg
abbrev zZ.to (x:zZ):Str × List Str × List Int × List zg:=(x.name,x.names,x.roots,x.types)
instance:Rep zZ:=Rep.iso zZ.to
@[reducible] def zZ.f2:Fld zZ (List Int):=Fld.of zZ.to pf2 (λx=>x.roots) (λx y=>{ x with roots:=y }) (λ_=>rfl) (λ_ _=>rfl)
@[reducible] def zZ.f3:Fld zZ (List zg):=Fld.of zZ.to pl3 (λx=>x.types) (λx y=>{ x with types:=y }) (λ_=>rfl) (λ_ _=>rfl)
@[reducible] def zZ.zero:zZ:=⟨⟨[]⟩,[],[],[]⟩
theorem zZ.cv {S:Frz} {x:zZ}:Cv S x.to x:=λ_ h=>h
structure zA where
 l:List zS
 at_:Int
 m:zaA
 e:Int
 p:Int
abbrev zA.to (x:zA):List zS × Int × zaA × Int × Int:=(x.l,x.at_,x.m,x.e,x.p)
instance:Rep zA:=Rep.iso zA.to
@[reducible] def zA.zero:zA:=⟨[],0,zaA.zero,0,0⟩
theorem zA.cv {S:Frz} {x:zA}:Cv S x.to x:=λ_ h=>h
structure GMk where
 m:zaA
 l:List zg
 e:Int
abbrev GMk.to (x:GMk):zaA × List zg × Int:=(x.m,x.l,x.e)
instance:Rep GMk:=Rep.iso GMk.to
@[reducible] def GMk.zero:GMk:=⟨zaA.zero,[],0⟩
theorem GMk.cv {S:Frz} {x:GMk}:Cv S x.to x:=λ_ h=>h
structure zeZ where
 l:List zg
abbrev zeZ.to (x:zeZ):List zg:=(x.l)
instance:Rep zeZ:=Rep.iso zeZ.to
@[reducible] def zeZ.f0:Fld zeZ (List zg):=Fld.of zeZ.to pl0 (λx=>x.l) (λx y=>{ x with l:=y }) (λ_=>rfl) (λ_ _=>rfl)
@[reducible] def zeZ.zero:zeZ:=⟨[]⟩
theorem zeZ.cv {S:Frz} {x:zeZ}:Cv S x.to x:=λ_ h=>h
structure zrF where
 types:zeZ
 m:zaA
abbrev zrF.to (x:zrF):zeZ × zaA:=(x.types,x.m)
instance:Rep zrF:=Rep.iso zrF.to
@[reducible] def zrF.zero:zrF:=⟨zeZ.zero,zaA.zero⟩
theorem zrF.cv {S:Frz} {x:zrF}:Cv S x.to x:=λ_ h=>h
structure ziv where
 t:zZ
abbrev ziv.to (x:ziv):zZ:=(x.t)
instance:Rep ziv:=Rep.iso ziv.to
@[reducible] def ziv.f0:Fld ziv (zZ):=Fld.of ziv.to pl0 (λx=>x.t) (λx y=>{ x with t:=y }) (λ_=>rfl) (λ_ _=>rfl)
@[reducible] def ziv.zero:ziv:=⟨zZ.zero⟩
theorem ziv.cv {S:Frz} {x:ziv}:Cv S x.to x:=λ_ h=>h
structure zy where
 tabled:ziv
 bare:Bool
abbrev zy.to (x:zy):ziv × Bool:=(x.tabled,x.bare)
instance:Rep zy:=Rep.iso zy.to
@[reducible] def zy.f0:Fld zy (ziv):=Fld.of zy.to pf0 (λx=>x.tabled) (λx y=>{ x with tabled:=y }) (λ_=>rfl) (λ_ _=>rfl)
@[reducible] def zy.f1:Fld zy (Bool):=Fld.of zy.to pl1 (λx=>x.bare) (λx y=>{ x with bare:=y }) (λ_=>rfl) (λ_ _=>rfl)
@[reducible] def zy.zero:zy:=⟨ziv.zero,false⟩
theorem zy.cv {S:Frz} {x:zy}:Cv S x.to x:=λ_ h=>h
structure zn8 where
 a:zZ
 b:zZ
abbrev zn8.to (x:zn8):zZ × zZ:=(x.a,x.b)
instance:Rep zn8:=Rep.iso zn8.to
@[reducible] def zn8.zero:zn8:=⟨zZ.zero,zZ.zero⟩
theorem zn8.cv {S:Frz} {x:zn8}:Cv S x.to x:=λ_ h=>h
structure zq0 where
 sides:zn8
 e:Int
abbrev zq0.to (x:zq0):zn8 × Int:=(x.sides,x.e)
instance:Rep zq0:=Rep.iso zq0.to
@[reducible] def zq0.zero:zq0:=⟨zn8.zero,0⟩
theorem zq0.cv {S:Frz} {x:zq0}:Cv S x.to x:=λ_ h=>h
structure zrz where
 a:zZ
 b:zZ
 e:Int
abbrev zrz.to (x:zrz):zZ × zZ × Int:=(x.a,x.b,x.e)
instance:Rep zrz:=Rep.iso zrz.to
@[reducible] def zrz.zero:zrz:=⟨zZ.zero,zZ.zero,0⟩
theorem zrz.cv {S:Frz} {x:zrz}:Cv S x.to x:=λ_ h=>h
structure zn9 where
 a:zZ
 b:zZ
abbrev zn9.to (x:zn9):zZ × zZ:=(x.a,x.b)
instance:Rep zn9:=Rep.iso zn9.to
@[reducible] def zn9.zero:zn9:=⟨zZ.zero,zZ.zero⟩
theorem zn9.cv {S:Frz} {x:zn9}:Cv S x.to x:=λ_ h=>h
structure zqZ where
 sides:zn9
 left:Int
abbrev zqZ.to (x:zqZ):zn9 × Int:=(x.sides,x.left)
instance:Rep zqZ:=Rep.iso zqZ.to
@[reducible] def zqZ.zero:zqZ:=⟨zn9.zero,0⟩
theorem zqZ.cv {S:Frz} {x:zqZ}:Cv S x.to x:=λ_ h=>h
structure zrI where
 con:zbx
abbrev zrI.to (x:zrI):zbx:=(x.con)
instance:Rep zrI:=Rep.iso zrI.to
@[reducible] def zrI.zero:zrI:=⟨zbx.zero⟩
theorem zrI.cv {S:Frz} {x:zrI}:Cv S x.to x:=λ_ h=>h
structure zcl where
 s:Str
 at_:Int
abbrev zcl.to (x:zcl):Str × Int:=(x.s,x.at_)
instance:Rep zcl:=Rep.iso zcl.to
@[reducible] def zcl.f0:Fld zcl (Str):=Fld.of zcl.to pf0 (λx=>x.s) (λx y=>{ x with s:=y }) (λ_=>rfl) (λ_ _=>rfl)
@[reducible] def zcl.f1:Fld zcl (Int):=Fld.of zcl.to pl1 (λx=>x.at_) (λx y=>{ x with at_:=y }) (λ_=>rfl) (λ_ _=>rfl)
@[reducible] def zcl.zero:zcl:=⟨⟨[]⟩,0⟩
theorem zcl.cv {S:Frz} {x:zcl}:Cv S x.to x:=λ_ h=>h
structure zab where
 reader:zcl
abbrev zab.to (x:zab):zcl:=(x.reader)
instance:Rep zab:=Rep.iso zab.to
@[reducible] def zab.f0:Fld zab (zcl):=Fld.of zab.to pl0 (λx=>x.reader) (λx y=>{ x with reader:=y }) (λ_=>rfl) (λ_ _=>rfl)
@[reducible] def zab.zero:zab:=⟨zcl.zero⟩
theorem zab.cv {S:Frz} {x:zab}:Cv S x.to x:=λ_ h=>h
structure zag where
 t:zZ
 b:List UInt8
abbrev zag.to (x:zag):zZ × List UInt8:=(x.t,x.b)
instance:Rep zag:=Rep.iso zag.to
@[reducible] def zag.zero:zag:=⟨zZ.zero,[]⟩
theorem zag.cv {S:Frz} {x:zag}:Cv S x.to x:=λ_ h=>h
structure zha where
 l:List zS
 i:Int
abbrev zha.to (x:zha):List zS × Int:=(x.l,x.i)
instance:Rep zha:=Rep.iso zha.to
@[reducible] def zha.f0:Fld zha (List zS):=Fld.of zha.to pf0 (λx=>x.l) (λx y=>{ x with l:=y }) (λ_=>rfl) (λ_ _=>rfl)
@[reducible] def zha.f1:Fld zha (Int):=Fld.of zha.to pl1 (λx=>x.i) (λx y=>{ x with i:=y }) (λ_=>rfl) (λ_ _=>rfl)
@[reducible] def zha.zero:zha:=⟨[],0⟩
theorem zha.cv {S:Frz} {x:zha}:Cv S x.to x:=λ_ h=>h
structure zN where
 stream:zha
 t:zZ
 at_:Int
 e:Int
abbrev zN.to (x:zN):zha × zZ × Int × Int:=(x.stream,x.t,x.at_,x.e)
instance:Rep zN:=Rep.iso zN.to
@[reducible] def zN.zero:zN:=⟨zha.zero,zZ.zero,0,0⟩
theorem zN.cv {S:Frz} {x:zN}:Cv S x.to x:=λ_ h=>h
structure zaE where
 t:zZ
 l:List zS
 at_:Int
 e:Int
 p:Int
abbrev zaE.to (x:zaE):zZ × List zS × Int × Int × Int:=(x.t,x.l,x.at_,x.e,x.p)
instance:Rep zaE:=Rep.iso zaE.to
@[reducible] def zaE.f0:Fld zaE (zZ):=Fld.of zaE.to pf0 (λx=>x.t) (λx y=>{ x with t:=y }) (λ_=>rfl) (λ_ _=>rfl)
@[reducible] def zaE.f1:Fld zaE (List zS):=Fld.of zaE.to pf1 (λx=>x.l) (λx y=>{ x with l:=y }) (λ_=>rfl) (λ_ _=>rfl)
@[reducible] def zaE.f2:Fld zaE (Int):=Fld.of zaE.to pf2 (λx=>x.at_) (λx y=>{ x with at_:=y }) (λ_=>rfl) (λ_ _=>rfl)
@[reducible] def zaE.f3:Fld zaE (Int):=Fld.of zaE.to pf3 (λx=>x.e) (λx y=>{ x with e:=y }) (λ_=>rfl) (λ_ _=>rfl)
@[reducible] def zaE.f4:Fld zaE (Int):=Fld.of zaE.to pl4 (λx=>x.p) (λx y=>{ x with p:=y }) (λ_=>rfl) (λ_ _=>rfl)
@[reducible] def zaE.zero:zaE:=⟨zZ.zero,[],0,0,0⟩
theorem zaE.cv {S:Frz} {x:zaE}:Cv S x.to x:=λ_ h=>h
/-! ### Zeros -/
def Zr {α:Type} [Rep α] (cs:List Value) (x:α):Prop:=∀ S,Rep.rd S cs x
theorem zaT:Zr [.int .i64 0] (0:Int):=λ_=>⟨rfl,zk3 (by omega) (by omega)⟩
theorem zci:Zr [.bool false] false:=λ_=>rfl
theorem zeX:Zr [.string ⟨#[]⟩] (Str.mk []):=λ_=>⟨rfl,zNz _⟩
theorem ztJ:Zr [.int .u8 0] (0:UInt8):=λ_=>rfl
theorem zaI {α:Type} [Rep α]:Zr [.slice none 0 0] ([]:List α):=λ_=>⟨_,rfl,none,0,rfl,zNl _,zNz _,.inl rfl⟩
theorem zoG {α:Type} [Rep α]:Zr [.slice none 0 0] (zaa.mk none ([]:List α)):=λS=>⟨_,rfl,zii S _ rfl⟩
theorem zrC:Zr [.slice none 0 0] (Vh.mk none 0):=λ_=>⟨_,rfl,zNz _,rfl,rfl⟩
theorem zn {α β:Type} [Rep α] [Rep β] {c1 c2:List Value} {x:α} {y:β} (h:Zr c1 x) (k:Zr c2 y):Zr (c1 ++ c2) (x,y):=λS=>⟨c1,c2,rfl,h S,k S⟩
theorem zss:Zr [.int .i64 0,.int .i64 0,.slice none 0 0,.slice none 0 0,.int .i64 0,.slice none 0 0] Val.zero:=λS=>Val.rd_to.2 (zn zaT (zn zaT (zn zaI (zn zaI (zn zaT zaI)))) S)
theorem zbl {α:Type} [Rep α] {P:Program} {T:TypeId} {x:α} {cs:List Value} (ha:Rep.agg α=true) (h:(P.info? T).bind (·.zero)=some (.agg cs.toArray)) (hz:Zr cs x):ze2 P T x:=ze2.of h λS=>ziC ha (by simpa using hz S)
theorem zru {α:Type} [Rep α] {P:Program} {T:TypeId} {x:α} {v:Value} (ha:Rep.agg α=false) (h:(P.info? T).bind (·.zero)=some v) (hz:Zr [v] x):ze2 P T x:=ze2.of h λS=>ze8 ha (hz S)

section ops
variable {c:Ctx} {d:Option Nat} {ty:TypeId} {pos:String} {af:Array Edge} {g:Option (Nat × Bool)} {σ:St}
theorem zo0 {α β γ:Type} [Rep α] [Rep β] [Rep γ] {b:Nat} {L:Fld α β} {x:Operand} {T f:Nat} (hx:zB σ.Γ x=some (zal b L)) (M:Fld β γ) (hf:zfw c.P T f M.off (Rep.n γ) (Rep.agg γ)=true) :
    OpV c ⟨d,.fieldAddr T x f,ty,pos,af,g⟩ σ (zal b (L.comp M)):=zra M hf hx
theorem zAd {β γ:Type} [Rep β] [Rep γ] {y:β} {z:γ} {x:Operand} {T f:Nat} (hx:zB σ.Γ x=some (zbn y)) (M:Fld β γ) (hf:zfw c.P T f M.off (Rep.n γ) (Rep.agg γ)=true) (hz:M.get y=z) :
    OpV c ⟨d,.fieldAddr T x f,ty,pos,af,g⟩ σ (zbn z):=hz ▸ zqv M hf hx
theorem zzQ {α β γ:Type} [Rep α] [Rep β] [Rep γ] {b:Nat} {L:Fld α β} {y:α} {x:Operand} {T f:Nat} {o:Obj} (hx:zB σ.Γ x=some (zdI o b L y)) (M:Fld β γ) (hf:zfw c.P T f M.off (Rep.n γ) (Rep.agg γ)=true) :
    OpV c ⟨d,.fieldAddr T x f,ty,pos,af,g⟩ σ (zdI o b (L.comp M) y):=zpM M hf hx
theorem zAo {α β γ:Type} [Rep α] [Rep β] [Rep γ] {t:Vt} {i:Nat} {L:Fld α β} {x:Operand} {T f:Nat} (hx:zB σ.Γ x=some (zcO t i L)) (M:Fld β γ) (hf:zfw c.P T f M.off (Rep.n γ) (Rep.agg γ)=true) :
    OpV c ⟨d,.fieldAddr T x f,ty,pos,af,g⟩ σ (zcO t i (L.comp M)):=zwC M hf hx
theorem zxd {α:Type} [Rep α] {x i:Operand} {l:List α} {k:Int} {y:α} {R:VP} {T:Nat} (hx:zB σ.Γ x=some R) (hc:∀ S v,R.p S v->(isv l).p S v) (hi:zB σ.Γ i=some (isv k)) (hT:SlB c.P T (Rep.n α) (Rep.agg α)=true)
    (hy:zq l k=some y):OpV c ⟨d,.indexAddr T x i,ty,pos,af,g⟩ σ (zbn y):=λS a w m=>by
  obtain ⟨hk,hy⟩:=zow hy
  obtain ⟨p,cap,h1,h2,h3,h4⟩:=zcs.1 (hc _ _ (zb m hx))
  obtain ⟨h5,_⟩:=zah.1 (zb m hi)
  have hlt:=(List.getElem?_eq_some_iff.1 hy).1
  rcases h4 with h4 | ⟨ad,cs,h6,h7,h8,h9⟩
  · subst h4;simp at hy
  obtain ⟨e,hu,hte⟩:=SlB.spec hT
  subst h6
  refine ⟨.pointer (some (ad.add (k.toNat * Rep.n α))),⟨_,_,rfl,Frz.has_take (Frz.has_sub h7 _) (Rep.n α),znz (r:=Rep.rd S) (λ_ _ h=>Rep.len h) h9 hy⟩,λw' _=>?_⟩
  have hb:0 <= k/\k < (l.length:Int):=⟨hk,by omega⟩
  simp [execOp,h1,h5,Instr.indexAt,asIntOf,underlying,hu,hb,TyB.size hte]
theorem zyO {α:Type} [Rep α] {x:Operand} {l:List α} {R:VP} {T n:Nat} {agg:Bool} (hx:zB σ.Γ x=some R) (hc:∀ S v,R.p S v->(isv l).p S v) (hT:SlB c.P T n agg=true) :
    OpV c ⟨d,.call ⟨.builtin .len,#[x],#[T]⟩,ty,pos,af,g⟩ σ (isv (l.length:Int)):=λS a w m=>by
  obtain ⟨p,cap,h1,h2,h3,_⟩:=zcs.1 (hc _ _ (zb m hx))
  exact ⟨.int .i64 l.length,zah.2 ⟨rfl,by unfold zc3;unfold zfr at h3;omega⟩,λw' _=>by
    simp [execOp,resolve,invoke,builtin,h1,znB hT]⟩
theorem zri {α:Type} [Rep α] {S:Frz} {a:Act} {w:World} (m:za6 c σ S a w) {x:Operand} {lo hi:Option Operand} {l:List α} {R:VP} {k q:Int} {T:Nat} (hx:zB σ.Γ x=some R) (hc:∀ S v,R.p S v->(isv l).p S v) (hT:SlB c.P T (Rep.n α) (Rep.agg α)=true)
    (hlo:(lo=none/\k=0) \/ ∃ o,lo=some o/\zB σ.Γ o=some (isv k)) (hhi:(hi=none/\q=l.length) \/ ∃ o,hi=some o/\zB σ.Γ o=some (isv q))
    (hk:0 <= k) (hkq:k <= q) (hq:q <= l.length):∃ p cap,a.eval x=.slice p l.length cap/\l.length <= cap/\∀ w',(execOp a.eval ⟨d,.slice T x lo hi none,ty,pos,af,g⟩).run c.P w'=.ok (.value (.slice (if cap=k.toNat then p else p.map (·.add (k.toNat * Rep.n α))) (q.toNat - k.toNat) (cap - k.toNat))) w':=by
  obtain ⟨p,cap,h1,h2,h3,h4⟩:=zcs.1 (hc _ _ (zb m hx))
  obtain ⟨e,hu,hte⟩:=SlB.spec hT
  refine ⟨p,cap,h1,h2,λw'=>?_⟩
  have b1:∀ (v:Value) (code:BoundsCode),v=.int .i64 q->(Instr.sliceBound v cap code).run c.P w'=.ok q.toNat w':=λv code hv=>by
    rw [hv];exact zd1 (by omega) (by omega)
  have b2:∀ (v:Value) (code:BoundsCode),v=.int .i64 k->(Instr.sliceBound v q.toNat code).run c.P w'=.ok k.toNat w':=λv code hv=>by
    rw [hv];exact zd1 (by omega) (by omega)
  rcases hlo with ⟨rfl,rfl⟩ | ⟨o1,rfl,ho1⟩
  · rcases hhi with ⟨rfl,rfl⟩ | ⟨o2,rfl,ho2⟩
    · simp [execOp,h1,Instr.sliceAt,Instr.slice,Instr.sliceBounds,underlying,hu,TyB.size hte]
    · have e2:=b1 _ .sliceAcap (zah.1 (zb m ho2)).1
      simp [execOp,h1,Instr.sliceAt,Instr.slice,Instr.sliceBounds,underlying,hu,TyB.size hte,e2]
  · have e1:=b2 _ .sliceB (zah.1 (zb m ho1)).1
    rcases hhi with ⟨rfl,rfl⟩ | ⟨o2,rfl,ho2⟩
    · have e1':(Instr.sliceBound (a.eval o1) l.length .sliceB).run c.P w'=.ok k.toNat w':=by simpa using e1
      simp [execOp,h1,Instr.sliceAt,Instr.slice,Instr.sliceBounds,underlying,hu,TyB.size hte,e1']
    · have e2:=b1 _ .sliceAcap (zah.1 (zb m ho2)).1
      simp [execOp,h1,Instr.sliceAt,Instr.slice,Instr.sliceBounds,underlying,hu,TyB.size hte,e1,e2]
theorem zmk {α:Type} [Rep α] {x:Operand} {lo hi:Option Operand} {l:List α} {R:VP} {k q:Int} {T:Nat} (hx:zB σ.Γ x=some R) (hc:∀ S v,R.p S v->(isv l).p S v) (hT:SlB c.P T (Rep.n α) (Rep.agg α)=true)
    (hlo:(lo=none/\k=0) \/ ∃ o,lo=some o/\zB σ.Γ o=some (isv k)) (hhi:(hi=none/\q=l.length) \/ ∃ o,hi=some o/\zB σ.Γ o=some (isv q))
    (hk:0 <= k) (hkq:k <= q) (hq:q <= l.length):OpV c ⟨d,.slice T x lo hi none,ty,pos,af,g⟩ σ (isv ((l.take q.toNat).drop k.toNat)):=λS a w m=>by
  obtain ⟨p,cap,h1,h2,hr⟩:=zri (d:=d) (ty:=ty) (pos:=pos) (af:=af) (g:=g) m hx hc hT hlo hhi hk hkq hq
  obtain ⟨p',cap',h1',_,h3,h4⟩:=zcs.1 (hc _ _ (zb m hx))
  rw [h1] at h1';cases h1'
  have hlen:((l.take q.toNat).drop k.toNat).length=q.toNat - k.toNat:=by rw [zLd,zLt];omega
  refine ⟨_,zcs.2 ⟨_,_,by rw [hlen],by rw [hlen];omega,by rw [hlen];omega,?_⟩,λw' _=>hr w'⟩
  by_cases he:(l.take q.toNat).drop k.toNat=[]
  · exact .inl he
  right
  have hpos:0 < q.toNat - k.toNat:=by rw [<- hlen];exact List.length_pos_iff.2 he
  rcases h4 with h4 | ⟨ad,cs,h6,h7,h8,h9⟩
  · subst h4;simp at he
  subst h6
  have hne:¬ cap=k.toNat:=by omega
  refine ⟨ad.add (k.toNat * Rep.n α),((cs.take (q.toNat * Rep.n α)).drop (k.toNat * Rep.n α)),by rw [if_neg hne];rfl,?_,?_,zrj (λ_ _ h=>Rep.len h) _ (ziy (λ_ _ h=>Rep.len h) _ h9)⟩
  · exact Frz.has_sub (Frz.has_take h7 _) _
  · have h10:q.toNat * Rep.n α <= l.length * Rep.n α:=Nat.mul_le_mul_right _ (by omega)
    rw [hlen,zLd,zLt,h8,Nat.min_eq_left h10,Nat.sub_mul]
theorem zAa {α:Type} [Rep α] {Γ:zM} {H Hr:List Ent} {K:St->Prop} {dd:Nat} {x lo:Operand} {l:List α} {t:Tok} {k:Int} {T:Nat} (hx:zB Γ x=some (zbK t l)) (hT:SlB c.P T (Rep.n α) (Rep.agg α)=true) (hlo:zB Γ lo=some (isv k))
    (hk:0 <= k) (hkq:k <= l.length) (hp:zcw (zO t) H Hr) (kk:∀ t',K ⟨(dd,zbK t' (l.drop k.toNat)) :: Γ,zO t' :: Hr⟩) (hd:Nat.blt dd c.n=true:=by rfl):OpT c ⟨some dd,.slice T x (some lo) none none,ty,pos,af,g⟩ ⟨Γ,H⟩ K:=by
  intro S a w next Q m hn
  obtain ⟨v,hv,hr⟩:=zmk (σ:=⟨Γ,H⟩) (d:=some dd) (ty:=ty) (pos:=pos) (af:=af) (g:=g) hx zb7 hT (.inr ⟨_,rfl,hlo⟩) (.inl ⟨rfl,rfl⟩) hk hkq (zIl _) S a w m
  obtain ⟨p,cap,h1,h2,hr2⟩:=zri (σ:=⟨Γ,H⟩) (d:=some dd) (ty:=ty) (pos:=pos) (af:=af) (g:=g) m hx zb7 hT (.inr ⟨_,rfl,hlo⟩) (.inl ⟨rfl,rfl⟩) hk hkq (zIl _)
  have e:=(hr w m.cls).symm.trans (hr2 w)
  have e2:v=.slice (if cap=k.toNat then p else p.map (·.add (k.toNat * Rep.n α))) ((l.length:Int).toNat - k.toNat) (cap - k.toNat):=by
    injection e with e3 _;injection e3
  have hl:(l.take (l.length:Int).toNat).drop k.toNat=l.drop k.toNat:=by simp
  rw [hl] at hv
  unfold Oper.wp
  rw [hr w m.cls]
  have hlen:(l.drop k.toNat).length=l.length - k.toNat:=zLd
  obtain ⟨_,ht⟩:=zb m hx
  rw [h1] at ht
  obtain ⟨S1,hS1,m1⟩:=zgE (c:=c) (Γ:=Γ) hp S a w m
  by_cases hc0:cap=k.toNat
  · obtain ⟨S2,hS2,m2⟩:=zel (c:=c) (Γ:=Γ) (H:=Hr) S1 a w (m1.weak ⟨λi R h=>⟨R,h,λ_ _ h=>h⟩,[zO t],zm3 Hr⟩)
    refine hn _ _ _ _ (Frz.le_trans hS1 hS2) (kk none) (m2.put hd ⟨zcs.1 ((isv (l.drop k.toNat)).mono (Frz.le_trans hS1 hS2) hv),p,?_⟩)
    rw [e2,if_pos hc0,hlen]
    have e3:(l.length:Int).toNat - k.toNat=l.length - k.toNat:=by omega
    have e4:cap - k.toNat=l.length - k.toNat:=by omega
    rw [e3,e4]
  · refine hn _ _ _ _ hS1 (kk t) (m1.put hd ⟨zcs.1 ((isv (l.drop k.toNat)).mono hS1 hv),?_⟩)
    cases t with
    | none =>
      obtain ⟨p0,e0⟩:=ht
      cases e0
      exact ⟨_,by rw [e2,hlen];rfl⟩
    | some t =>
      obtain ⟨b,F,C⟩:=t
      obtain ⟨off,cap0,e0,hF,hC⟩:=ht
      cases e0
      refine ⟨off + k.toNat * Rep.n α,cap - k.toNat,?_,?_,?_⟩
      · rw [e2,if_neg hc0,hlen];simp [zc6]
      · rw [hlen,Nat.sub_mul,<- hF]
        have:k.toNat * Rep.n α <= l.length * Rep.n α:=Nat.mul_le_mul_right _ (by omega)
        omega
      · rw [Nat.sub_mul,<- hC]
        have:k.toNat * Rep.n α <= cap * Rep.n α:=Nat.mul_le_mul_right _ (by omega)
        omega
end ops
section rules
variable {c:Ctx} {ops:Array Oper} {Q:Exit->Act->World->Prop} {ι β:Type} {r:β}

theorem zAp {γ:Type} {x y:Code} {Γ:zM} {H Hc Hr:List Ent} (mod:ι->γ->zM) (Hm:ι->γ->List Ent) (_hT:zbq H Hc Hr) {B:(ι->Option β)->Option β} {R:ι->Option β} (h:jp B R=some r)
    (hk:∀ i g,R i=some r->Wp c y ⟨mod i g ++ Γ,Hm i g ++ Hr⟩ Q)
    (hx:∀ J:ι->Option β,B J=some r->(∀ i g,J i=some r->∀ σ',Imp σ' ⟨mod i g ++ Γ,Hm i g ++ Hr⟩->Fin c σ' (nxt c y Q))->Wp c x ⟨Γ,H⟩ (nxt c y Q)):Wp c x ⟨Γ,H⟩ (nxt c y Q) :=
  hx R h λi g hi σ' him=>zc7 (zyv him (hk i g hi))

theorem zAi {γ:Type} {l l':List Oper} {Γ:zM} {H Hc Hr:List Ent} (mod:ι->γ->zM) (Hm:ι->γ->List Ent) (_hT:zbq H Hc Hr) {B:(ι->Option β)->Option β} {R:ι->Option β} (h:jp B R=some r) (n:Nat) (_hl:l.drop n=l')
    (hk:∀ i g,R i=some r->Rl c ops l' ⟨mod i g ++ Γ,Hm i g ++ Hr⟩ Q)
    (hx:∀ J:ι->Option β,B J=some r->(∀ i g,J i=some r->∀ σ',Imp σ' ⟨mod i g ++ Γ,Hm i g ++ Hr⟩->Rl c ops l' σ' Q)->Rl c ops l ⟨Γ,H⟩ Q):Rl c ops l ⟨Γ,H⟩ Q :=
  hx R h λi g hi σ' him=>λk hk' S a w m=>hk i g hi k hk' S a w (m.weak him)

theorem zy0 {γ:Type} {x:Code} {Γ:zM} {H Hr:List Ent} (mod:ι->γ->zM) (Hm:ι->γ->List Ent) {F:(ι->Option β)->ι->Option β} {i0:ι} (h:lp F i0=some r) (g0:γ)
    (hm:zpL Γ (mod i0 g0)) (hT:zbq H (Hm i0 g0) Hr)
    (hx:∀ (L:ι->Option β) (i:ι) (g:γ) (Q':Exit->Act->World->Prop),F L i=some r->(∀ j g',L j=some r->∀ σ',Imp σ' ⟨mod j g' ++ Γ,Hm j g' ++ Hr⟩->Fin c σ' Q')->(∀ id σ',Exi c id σ' Q->Exi c id σ' Q')->(∀ σ',Ret c σ' Q->Ret c σ' Q')->Wp c x ⟨mod i g ++ Γ,Hm i g ++ Hr⟩ Q'):Wp c (.loop x) ⟨Γ,H⟩ Q:=by
  refine zv0 (ι:=Nat × ι × γ) (λp=>lpN F p.1 p.2.1=some r) (λp=>⟨mod p.2.1 p.2.2 ++ Γ,Hm p.2.1 p.2.2 ++ Hr⟩) (λp=>p.1) (fuel,i0,g0) h (ziu 0 rfl rfl hm (zpt hT)) ?_
  rintro ⟨n,i,g⟩ hI
  cases n with
  | zero=>cases hI
  | succ n =>
    exact hx (lpN F n) i g _ hI (λj g' hj σ' him=>zqC (n,j,g') hj (Nat.lt_succ_self n) him) (λid σ' he=>zrW he) (λσ' hr=>zry hr)

theorem zns {α:Type} [Rep α] {Γ:zM} {H Hr:List Ent} {b:Nat} {y:α} (i:Nat) (hp:zcw (zj b y) H Hr) (hi:zcg Γ i=some (zal b (Fld.id α))):Upd c ⟨Γ,H⟩ ⟨(i,zbn y) :: Γ,Hr⟩:=λS a w m=>by
 have hs:(zj b y).sat S w:=m.owns.get hp
 obtain ⟨o,ho,hnone,cs,T',e,hr⟩:=hs
 subst e
 have hle:S.le (S.put b cs.toList):=λj d hj=>by
  have hne:j ≠ b:=by rintro rfl;rw [hnone] at hj;cases hj
  exact ⟨d,by unfold Frz.put;rw [if_neg hne];exact hj,List.prefix_refl _⟩
 have hst:zkC (zbP [zj b y]) S (S.put b cs.toList) w w:=by
  refine ⟨zjn.refl _ _,⟨hle,λj _ hj=>by unfold Frz.put;rw [if_neg (by simpa [zbP,zj] using hj)]⟩,λj d hj=>?_⟩
  unfold Frz.put at hj
  split at hj
  ·cases hj
   rename_i ej;subst ej
   exact ⟨cs,T',(0,0),ho,List.prefix_refl _⟩
  ·exact m.sub j d hj
 have m':=m.step (Hc:=[zj b y]) (H':=[]) (zbq.cons hp .nil) hst (zff _ _ _ _)
 refine ⟨S.put b cs.toList,hle,m'.size,m'.dfr,m'.sub,m'.keep,m'.grow,λj R hj=>?_,m'.owns,m'.pins⟩
 unfold zcg at hj
 cases hk:Nat.beq i j with
 | true =>
  rw [hk] at hj
  have e:i=j:=Nat.eq_of_beq_eq_true hk
  subst e
  cases hj
  obtain ⟨v,h1,h2⟩:=m'.env i _ hi
  have h2':v=.pointer (some ⟨b,0,none⟩):=h2
  exact ⟨v,h1,⟨b,0,none⟩,cs.toList,h2',⟨rfl,cs.toList,by show (if b=b then _ else _)=_;rw [if_pos rfl],λj u hj=>by simpa using hj⟩,Rep.mono hle hr⟩
 | false=>rw [hk] at hj;exact m'.env j R hj

theorem zvi {α β:Type} [Rep α] [Rep β] {P:Program} {n:Nat} {w0:World} {S0:Frz} {M:List Nat} {pin:List (Nat × Obj)} {code:Code} {Γ:zM} {H Hr:List Ent} {b:Nat} {L:Fld α β} {x:α} (i:Nat) (hp:zcw (zj b x) H Hr) (hi:zcg Γ i=some (zal b L))
    (k:∀ o,b ∉ pin.map (·.1)->Wp ⟨P,n,w0,S0,M,(b,o) :: pin⟩ code ⟨(i,zdI o b L x) :: Γ,Hr⟩ Q):Wp ⟨P,n,w0,S0,M,pin⟩ code ⟨Γ,H⟩ Q:=λS a w m=>by
  refine zzK hp hi (λo=>k o λhb=>?_) S a w m
  obtain ⟨y,hy,rfl⟩:=List.mem_map.1 hb
  refine (m.pins y hy).2.2.1 ?_
  have hkp:=zjI hp.perm
  exact hkp.mem_iff.2 (by simp [zbP,zj])
theorem znK {α β:Type} [Rep α] [Rep β] {P:Program} {n:Nat} {w0:World} {S0:Frz} {M:List Nat} {pin:List (Nat × Obj)} {Γ:zM} {H:List Ent} {b:Nat} {L:Fld α β} {x:α} {o:Obj} (i:Nat) (hnd:b ∉ pin.map (·.1)) (hi:zcg Γ i=some (zdI o b L x))
    (k:Fin ⟨P,n,w0,S0,M,pin⟩ ⟨(i,zal b L) :: Γ,zj b x :: H⟩ Q):Fin ⟨P,n,w0,S0,M,(b,o) :: pin⟩ ⟨Γ,H⟩ Q:=zuj hnd hi k

section ops
variable {ty:TypeId} {pos:String} {af:Array Edge} {g:Option (Nat × Bool)} {σ:St} {d:Option Nat}
theorem ztA {α β:Type} [Rep α] [Rep β] {b:Nat} {L:Fld α β} {y:α} {R:VP} {x:Operand} {T:TypeId} {o:Obj} (ht:TyB c.P T (Rep.n β) (Rep.agg β)=true) (hx:zB σ.Γ x=some (zdI o b L y))
    (hp:(b,o) ∈ c.pin) (hc:∀ S v,(isv (L.get y)).p S v->R.p S v):OpV c ⟨d,.load T x,ty,pos,af,g⟩ σ R:=λS a w m=>by
  obtain ⟨v,hv,hr⟩:=zxp (d:=d) (ty:=ty) (pos:=pos) (af:=af) (g:=g) ht hx hp S a w m
  exact ⟨v,hc _ _ hv,hr⟩
theorem zzx {α β:Type} [Rep α] [Rep β] {t:Vt} {i:Nat} {L:Fld α β} {x:Operand} (hx:zB σ.Γ x=some (zcO t i L)):OpV c ⟨d,.nilCheck x,ty,pos,af,g⟩ σ (zcO t i L):=λS a w m=>by
 obtain ⟨b,cap,h1,h2⟩:=zb m hx
 exact ⟨_,⟨b,cap,h1,rfl⟩,λw' _=>by simp [execOp,h2]⟩
end ops

theorem zvH {Γ:zM} {H Hr:List Ent} {e:Ent} (hp:zcw e H Hr):Upd c ⟨Γ,H⟩ ⟨Γ,Hr⟩:=λS a w m=>⟨S,S.le_refl,m.weak ⟨λi R h=>⟨R,h,λ_ _ h=>h⟩,[e],znV hp⟩⟩
theorem Cv.vhe {S:Frz} {t:Vt} {n m:Nat} (e:n=m):Cv S (Vh.mk t n) (Vh.mk t m):=λ_ h=>e ▸ h
section vec
variable {ty:TypeId} {pos:String} {af:Array Edge} {g:Option (Nat × Bool)}
theorem zqy {Γ:zM} {H:List Ent} {α:Type} [Rep α] {x y:Operand} {t:Vt} {n:Nat} {l m:List α} {R:VP} {T U:TypeId} {dd:Nat} {K:St->Prop} {Hr:List Ent} (hT:zmy c.P T U (Rep.n α)=true)
    (hx:zB Γ x=some (zbw t n)) (hy:zB Γ y=some R) (hc:∀ S v,R.p S v->(isv m).p S v) (hp:zcw (zI t l) H Hr) (hnl:n=l.length)
    (hb:Nat.ble (l.length + m.length) 68719476736=true)
    (k:∀ t',K ⟨(dd,zbw t' (l ++ m).length) :: Γ,zI t' (l ++ m) :: Hr⟩) (hd:Nat.blt dd c.n=true:=by rfl) :
    OpT c ⟨some dd,.call ⟨.builtin .append,#[x,y],#[T,U]⟩,ty,pos,af,g⟩ ⟨Γ,H⟩ K:=by
  subst hnl
  exact zy5 hT hx hy hc hp (zNl _) hb (λt'=>by rw [List.take_length];exact k t') hd
theorem zhK {α:Type} [Rep α] {Γ:zM} {H Hr:List Ent} {t:Vt} {n:Nat} {l:List α} (i:Nat) (hp:zcw (zI t l) H Hr) (hi:zcg Γ i=some (zbw t n)) (hn:n=l.length):Upd c ⟨Γ,H⟩ ⟨(i,isv l) :: Γ,Hr⟩:=by
 have:=zw4 (c:=c) i hp hi (by omega)
 rw [hn,List.take_length] at this
 exact this
end vec
section more
variable {ty:TypeId} {pos:String} {af:Array Edge} {g:Option (Nat × Bool)} {σ:St} {d:Option Nat}
theorem zAk {x:Operand} {u:UInt64} {T U:TypeId} {k:IntKind} (hT:c.P.underlying T=some (.int k)) (hU:c.P.underlying U=some (.int .u64)) (hx:zB σ.Γ x=some (isv u)) :
    OpV c ⟨d,.convert T U x,ty,pos,af,g⟩ σ (isv u):=λS a w m=>by
  have h1:=zaW.1 (zb m hx)
  have h:=u.toNat_lt
  exact ⟨.int .u64 u.toNat,zaW.2 rfl,λw' _=>by
    have e:((u.toNat:Nat):Int) % 18446744073709551616=(u.toNat:Int):=by omega
    simp [execOp,convert,underlying,hT,hU,h1,Conv.intToInt,zf8,e]⟩
theorem zyD {x:Operand} {u:UInt8} {T U:TypeId} {k:IntKind} (hT:c.P.underlying T=some (.int k)) (hU:c.P.underlying U=some (.int .i64)) (hx:zB σ.Γ x=some (isv u)) :
    OpV c ⟨d,.convert T U x,ty,pos,af,g⟩ σ (isv (u.toNat:Int)):=λS a w m=>by
  have h1:=zbS.1 (zb m hx)
  have h:=u.toNat_lt
  have hb:zc3 (u.toNat:Int):=zk3 (by omega) (by omega)
  exact ⟨.int .i64 u.toNat,zah.2 ⟨rfl,hb⟩,λw' _=>by
    simp [execOp,convert,underlying,hT,hU,h1,Conv.intToInt,zfz hb]⟩
theorem zyP {x y:Operand} {T U:TypeId} {p q:Int} (hx:zB σ.Γ x=some (isv p)) (hy:zB σ.Γ y=some (isv q)) (hq:(!decide (q=0))=true):OpV c ⟨d,.binOp .rem T x y U,ty,pos,af,g⟩ σ (isv (p.tmod q)):=λS a w m=>by
 obtain ⟨h1,hp⟩:=zah.1 (zb m hx)
 obtain ⟨h2,_⟩:=zah.1 (zb m hy)
 have hq0:¬ q=0:=by simpa using hq
 have hb:zc3 (p.tmod q):=by
  unfold zc3 at hp ⊢
  have h3:(p.tmod q).natAbs <= p.natAbs:=by rw [Int.natAbs_tmod];exact Nat.mod_le _ _
  rcases Int.le_total 0 p with h4 | h4
  ·have:=Int.tmod_nonneg q h4;omega
  ·have h5:p.tmod q <= 0:=by
    have h6:p=-(-p):=by omega
    rw [h6,Int.neg_tmod]
    have:=Int.tmod_nonneg (a:=-p) q (by omega)
    omega
   omega
 exact ⟨.int .i64 (p.tmod q),zah.2 ⟨rfl,hb⟩,λw' _=>by
  have hr:(Op.intDiv .rem .i64 p q).run c.P w'=.ok (.int .i64 (p.tmod q)) w':=by
   unfold Op.intDiv;rw [if_neg hq0];rfl
  simp [execOp,binOp,eqGuard,h1,h2,hr]⟩
end more

end rules
section short
variable {c:Ctx} {ops:Array Oper} {Q:Exit->Act->World->Prop} {Γ:zM} {H:List Ent} {σ:St}
theorem oT {o:Oper} {rest:List Oper} (h:OpT c o σ λσ'=>Rl c ops rest σ' Q) (hg:o.guard=none:=by rfl):Rl c ops (o :: rest) σ Q:=zmo hg h
theorem oV {d:Nat} {op:Op} {ty:TypeId} {pos:String} {af:Array Edge} {rest:List Oper} {R:VP} (h:OpV c ⟨some d,op,ty,pos,af,none⟩ ⟨Γ,H⟩ R) (k:Rl c ops rest ⟨(d,R) :: Γ,H⟩ Q) (hd:Nat.blt d c.n=true:=by rfl):Rl c ops (⟨some d,op,ty,pos,af,none⟩ :: rest) ⟨Γ,H⟩ Q :=
 zmo rfl (OpV.t h k hd)
end short
section ops
variable {c:Ctx} {ty:TypeId} {pos:String} {af:Array Edge} {g:Option (Nat × Bool)} {σ:St} {d:Option Nat}
/-! ### Numbers -/
theorem zyL {x y:Operand} {T U:TypeId} {p q:Int} (hx:zB σ.Γ x=some (isv p)) (hy:zB σ.Γ y=some (isv q)) (hq:(!decide (q=0))=true) (hb:zc3 (p.tdiv q)):OpV c ⟨d,.binOp .quo T x y U,ty,pos,af,g⟩ σ (isv (p.tdiv q)):=λS a w m=>by
 obtain ⟨h1,hp⟩:=zah.1 (zb m hx)
 obtain ⟨h2,_⟩:=zah.1 (zb m hy)
 have hq0:¬ q=0:=by simpa using hq
 exact ⟨.int .i64 (p.tdiv q),zah.2 ⟨rfl,hb⟩,λw' _=>by
  have hr:(Op.intDiv .quo .i64 p q).run c.P w'=.ok (.int .i64 (p.tdiv q)) w':=by
   unfold Op.intDiv;rw [if_neg hq0];simp only [zfz hb];rfl
  simp [execOp,binOp,eqGuard,h1,h2,hr]⟩
theorem zyh {x y:Operand} {t u:TypeId} {p q:UInt64} (hx:zB σ.Γ x=some (isv p)) (hy:zB σ.Γ y=some (isv q)) (hn:q.toNat < 64):OpV c ⟨d,.binOp .shr t x y u,ty,pos,af,g⟩ σ (isv (p >>> q)):=λS a w m=>by
 have h1:=zaW.1 (zb m hx)
 have h2:=zaW.1 (zb m hy)
 have e:(((p >>> q).toNat:Nat):Int)=((p.toNat:Int)).fdiv (2 ^ q.toNat):=by
  rw [UInt64.toNat_shiftRight,Nat.mod_eq_of_lt hn,Nat.shiftRight_eq_div_pow,Int.fdiv_eq_ediv_of_nonneg _ (Int.pow_nonneg (by decide))]
  simp
 have hmin:min q.toNat 64=q.toNat:=Nat.min_eq_left (by omega)
 exact ⟨.int .u64 ((p >>> q).toNat:Int),zaW.2 rfl,λw' _=>by
  rw [e]
  simp [execOp,binOp,eqGuard,h1,h2,Op.shift,IntKind.bits,hmin]
  exact (Int.fdiv_eq_ediv_of_nonneg _ (Int.pow_nonneg (by decide))).symm⟩
theorem zzM {x y:Operand} {p q:Int} {T1 T2:TypeId} (hx:zB σ.Γ x=some (isv p)) (hy:zB σ.Γ y=some (isv q)):OpV c ⟨d,.call ⟨.builtin .min,#[x,y],#[T1,T2]⟩,ty,pos,af,g⟩ σ (isv (min p q)):=λS a w m=>by
 obtain ⟨h1,k1⟩:=zah.1 (zb m hx)
 obtain ⟨h2,k2⟩:=zah.1 (zb m hy)
 refine ⟨.int .i64 (min p q),zah.2 ⟨rfl,by unfold zc3 at *;omega⟩,λw' _=>?_⟩
 simp [execOp,resolve,invoke,builtin,Builtin.min_,h1,h2,Builtin.min2]
 split <;> omega
theorem zyF {x y:Operand} {p q:Int} {T1 T2:TypeId} (hx:zB σ.Γ x=some (isv p)) (hy:zB σ.Γ y=some (isv q)):OpV c ⟨d,.call ⟨.builtin .max,#[x,y],#[T1,T2]⟩,ty,pos,af,g⟩ σ (isv (max p q)):=λS a w m=>by
 obtain ⟨h1,k1⟩:=zah.1 (zb m hx)
 obtain ⟨h2,k2⟩:=zah.1 (zb m hy)
 refine ⟨.int .i64 (max p q),zah.2 ⟨rfl,by unfold zc3 at *;omega⟩,λw' _=>?_⟩
 simp [execOp,resolve,invoke,builtin,Builtin.max_,h1,h2,Builtin.max2]
 split <;> omega
end ops
structure zhm where
 lo:UInt8
 hi:UInt8
abbrev zhm.to (x:zhm):UInt8 × UInt8:=(x.lo,x.hi)
instance:Rep zhm:=Rep.iso zhm.to
@[reducible] def zhm.f0:Fld zhm (UInt8):=Fld.of zhm.to pf0 (λx=>x.lo) (λx y=>{ x with lo:=y }) (λ_=>rfl) (λ_ _=>rfl)
@[reducible] def zhm.f1:Fld zhm (UInt8):=Fld.of zhm.to pl1 (λx=>x.hi) (λx y=>{ x with hi:=y }) (λ_=>rfl) (λ_ _=>rfl)
@[reducible] def zhm.zero:zhm:=⟨0,0⟩

def zfU (x:UInt8):UInt8:=UInt8.ofNat (Lib.firstT x.toNat)
def zim (x:UInt8):zhm:=⟨UInt8.ofNat (Lib.accLo x.toNat),UInt8.ofNat (Lib.accHi x.toNat)⟩
theorem znG (x:UInt8):(zfU x).toNat=Lib.firstT x.toNat:=by
 unfold zfU
 rw [UInt8.toNat_ofNat']
 refine Nat.mod_eq_of_lt ?_
 unfold Lib.firstT
 repeat' split
 all_goals decide
theorem zwm (i:Nat):Lib.accLo i < 256:=by
 unfold Lib.accLo
 repeat' split
 all_goals decide
theorem zvK (i:Nat):Lib.accHi i < 256:=by
 unfold Lib.accHi
 repeat' split
 all_goals decide

def t1v (P:Program) (x:UInt8):VP where
 p := fun _ v => ∃ g, P.globals.findIdx? (·.name == "unicode/utf8.first") = some g ∧ v = .pointer (some ⟨g, x.toNat, none⟩)
 mono:=λ_ h=>h
def t2v (P:Program) (x:UInt8):VP where
 p := fun _ v => ∃ g, P.globals.findIdx? (·.name == "unicode/utf8.acceptRanges") = some g ∧ v = .pointer (some ⟨g, 2 * x.toNat, none⟩)
 mono:=λ_ h=>h
def zqw (P:Program) (T len n:Nat) (agg:Bool):Bool :=
 match P.underlying T with
 | some (.array l e)=>l == len && TyB P e n agg
 | _=>false
theorem zqw.spec {P:Program} {T len n:Nat} {agg:Bool} (h:zqw P T len n agg=true):∃ e,P.underlying T=some (.array len e)/\TyB P e n agg=true:=by
 unfold zqw at h
 split at h
 ·rename_i l e hu
  simp only [zBa,beq_iff_eq] at h
  obtain ⟨rfl,h2⟩:=h
  exact ⟨e,hu,h2⟩
 ·cases h
section ops
variable {c:Ctx} {ty:TypeId} {pos:String} {af:Array Edge} {gd:Option (Nat × Bool)} {σ:St} {d:Option Nat}
theorem zAh {x : Operand} {k : UInt8} {T g : Nat} (hg : c.P.globals.findIdx? (·.name == "unicode/utf8.first") = some g) (hT : zqw c.P T 256 1 false = true) (hx : zB σ.Γ x = some (isv k)) :
    OpV c ⟨d,.indexAddr T (.global g) x,ty,pos,af,gd⟩ σ (t1v c.P k):=λS a w m=>by
  have h1:=zbS.1 (zb m hx)
  obtain ⟨e,hu,hte⟩:=zqw.spec hT
  have hlt:=k.toNat_lt
  refine ⟨.pointer (some ⟨g,k.toNat,none⟩),⟨g,hg,rfl⟩,λw' _=>?_⟩
  have hb:(k.toNat:Int) < 256:=by omega
  have hg2:a.eval (.global g)=.pointer (some ⟨g,0,none⟩):=rfl
  simp [execOp,h1,hg2,Instr.indexAt,asIntOf,underlying,hu,TyB.size hte,zc6,Instr.sureAddr,hb]
  intro h;omega
theorem zAn {x : Operand} {k : UInt8} {T g : Nat} (hg : c.P.globals.findIdx? (·.name == "unicode/utf8.acceptRanges") = some g) (hT : zqw c.P T 16 2 true = true) (hx : zB σ.Γ x = some (isv k)) (hk : Nat.blt k.toNat 16 = true) :
    OpV c ⟨d,.indexAddr T (.global g) x,ty,pos,af,gd⟩ σ (t2v c.P k):=λS a w m=>by
  have h1:=zbS.1 (zb m hx)
  obtain ⟨e,hu,hte⟩:=zqw.spec hT
  have hlt:k.toNat < 16:=by simpa using hk
  refine ⟨.pointer (some ⟨g,2 * k.toNat,none⟩),⟨g,hg,rfl⟩,λw' _=>?_⟩
  have hb:(k.toNat:Int) < 16:=by omega
  have hg2:a.eval (.global g)=.pointer (some ⟨g,0,none⟩):=rfl
  simp [execOp,h1,hg2,Instr.indexAt,asIntOf,underlying,hu,TyB.size hte,zc6,Instr.sureAddr,hb,Nat.mul_comm]
  intro h;omega
theorem ztb (hT:zkR c) {S:Frz} {a:Act} {w:World} (m:za6 c σ S a w) {w':World} (h:cls c S w'):zyI c.P w':=(hT.tabs.mono m.grow.le w' h.1).1
theorem zzI {x : Operand} {k : UInt8} {T : Nat} (hT : zkR c) (ht : TyB c.P T 1 false = true) (hx : zB σ.Γ x = some (t1v c.P k)) (g2 : Nat) (h2 : c.P.globals.findIdx? (·.name == "unicode/utf8.acceptRanges") = some g2) :
    OpV c ⟨d,.load T x,ty,pos,af,gd⟩ σ (isv (zfU k)):=λS a w m=>by
  obtain ⟨g,hg,h1⟩:=zb m hx
  refine ⟨.int .u8 ((zfU k).toNat:Int),zbS.2 rfl,λw' hw'=>?_⟩
  obtain ⟨h3,_⟩:=ztb hT m hw' g g2 hg h2
  obtain ⟨v,hv,hrun⟩:=zfH (α:=UInt8) (S:=S) (cs:=[Value.int .u8 ((zfU k).toNat:Int)]) (x:=zfU k) (ad:=⟨g,k.toNat,none⟩) ht rfl
  have h4:=hrun w' λi u hi=>by
    match i,hi with
    | 0,hi =>
      simp at hi;subst hi
      rw [zc6,znG]
      exact h3 _ k.toNat_lt
  simp only [execOp,h1,Instr.loadAt,Instr.sureAddr]
  have e:=zbS.1 hv
  subst e
  simp [h4]
theorem zzV {x : Operand} {k : UInt8} {T : Nat} (hT : zkR c) (ht : TyB c.P T 2 true = true) (hx : zB σ.Γ x = some (t2v c.P k)) (hk : Nat.blt k.toNat 16 = true) (g1 : Nat) (h1 : c.P.globals.findIdx? (·.name == "unicode/utf8.first") = some g1) :
    OpV c ⟨d,.load T x,ty,pos,af,gd⟩ σ (isv (zim k)):=λS a w m=>by
  obtain ⟨g,hg,h2⟩:=zb m hx
  have hlt:k.toNat < 16:=by simpa using hk
  have hrd:Rep.rd S [Value.int .u8 (Lib.accLo k.toNat:Int),Value.int .u8 (Lib.accHi k.toNat:Int)] (zim k):=by
    refine ⟨[_],[_],rfl,?_,?_⟩
    · show _=_
      unfold zim
      rw [UInt8.toNat_ofNat',Nat.mod_eq_of_lt (zwm _)]
    · show _=_
      unfold zim
      rw [UInt8.toNat_ofNat',Nat.mod_eq_of_lt (zvK _)]
  obtain ⟨v,hv,hrun⟩:=zfH (α:=zhm) (S:=S) (x:=zim k) (ad:=⟨g,2 * k.toNat,none⟩) ht hrd
  refine ⟨v,hv,λw' hw'=>?_⟩
  obtain ⟨_,h3⟩:=ztb hT m hw' g1 g h1 hg
  obtain ⟨h4,h5⟩:=h3 _ hlt
  have h6:=hrun w' λi u hi=>by
    match i,hi with
    | 0,hi=>simp at hi;subst hi;rw [zc6];exact h4
    | 1,hi=>simp at hi;subst hi;rw [zc6];exact h5
  simp only [execOp,h2,Instr.loadAt,Instr.sureAddr]
  simp [h6]
theorem zyy {α:Type} [Rep α] {x hi mx:Operand} {l:List α} {R:VP} {q:Int} {T:Nat} (hx:zB σ.Γ x=some R) (hc:∀ S v,R.p S v->(isv l).p S v) (hT:SlB c.P T (Rep.n α) (Rep.agg α)=true)
    (hhi:zB σ.Γ hi=some (isv q)) (hmx:zB σ.Γ mx=some (isv q)) (hq0:0 <= q) (hq:q <= l.length):OpV c ⟨d,.slice T x none (some hi) (some mx),ty,pos,af,gd⟩ σ (isv (l.take q.toNat)):=λS a w m=>by
  obtain ⟨p,cap,h1,h2,h3,h4⟩:=zcs.1 (hc _ _ (zb m hx))
  obtain ⟨e,hu,hte⟩:=SlB.spec hT
  have hlen:(l.take q.toNat).length=q.toNat:=by rw [zLt];omega
  have b1:∀ (w':World) (code:BoundsCode),(Instr.sliceBound (a.eval mx) cap code).run c.P w'=.ok q.toNat w':=λw' code=>by
    rw [(zah.1 (zb m hmx)).1];exact zd1 (by omega) (by omega)
  have b2:∀ (w':World) (code:BoundsCode),(Instr.sliceBound (a.eval hi) q.toNat code).run c.P w'=.ok q.toNat w':=λw' code=>by
    rw [(zah.1 (zb m hhi)).1];exact zd1 (by omega) (by omega)
  refine ⟨.slice (if q.toNat=0 then p else p.map (·.add 0)) q.toNat q.toNat,zcs.2 ⟨_,q.toNat,by rw [hlen],by rw [hlen];exact zNl _,by rw [hlen];omega,?_⟩,λw' _=>?_⟩
  · by_cases he:l.take q.toNat=[]
    · exact .inl he
    right
    rcases h4 with h4 | ⟨ad,cs,h6,h7,h8,h9⟩
    · subst h4;simp at he
    subst h6
    have h10:q.toNat * Rep.n α <= l.length * Rep.n α:=Nat.mul_le_mul_right _ (by omega)
    refine ⟨ad,cs.take (q.toNat * Rep.n α),?_,Frz.has_take h7 _,by rw [hlen,zLt,h8,Nat.min_eq_left h10],ziy (λ_ _ h=>Rep.len h) _ h9⟩
    split
    · rfl
    · show some (ad.add 0)=some ad
      unfold Addr.add;simp
  · simp [execOp,h1,Instr.sliceAt,Instr.slice,Instr.sliceBounds,underlying,hu,TyB.size hte,b1,b2]
end ops

section bits
variable {c:Ctx} {ty:TypeId} {pos:String} {af:Array Edge} {g:Option (Nat × Bool)} {σ:St} {d:Option Nat} {x y:Operand} {t u:TypeId}
theorem bv64 (p:UInt64):BitVec.ofInt 64 (p.toNat:Int)=p.toBitVec:=by
 apply BitVec.eq_of_toNat_eq
 rw [BitVec.toNat_ofInt]
 have h:=p.toNat_lt
 have e:p.toBitVec.toNat=p.toNat:=rfl
 rw [e]
 omega
theorem zhU {p q:UInt64} (hx:zB σ.Γ x=some (isv p)) (hy:zB σ.Γ y=some (isv q)):OpV c ⟨d,.binOp .or t x y u,ty,pos,af,g⟩ σ (isv (p ||| q)):=λS a w m=>by
 have h1:=zaW.1 (zb m hx)
 have h2:=zaW.1 (zb m hy)
 have h:=(p ||| q).toNat_lt
 have e:(((p ||| q).toNat:Nat):Int)=((BitVec.ofInt 64 (p.toNat:Int) ||| BitVec.ofInt 64 (q.toNat:Int)).toNat:Int) % 18446744073709551616:=by
  rw [bv64,bv64]
  have:(p.toBitVec ||| q.toBitVec).toNat=(p ||| q).toNat:=rfl
  rw [this];omega
 exact ⟨.int .u64 ((p ||| q).toNat:Int),zaW.2 rfl,λw' _=>by
  have hr:(Op.intBits .or .u64 (p.toNat:Int) (q.toNat:Int)).run c.P w'=.ok (.int .u64 ((p ||| q).toNat:Int)) w':=by
   rw [e];unfold Op.intBits;simp only [Sem.run_pure,zf8];rfl
  simp [execOp,binOp,eqGuard,h1,h2,hr]⟩
theorem znu {p q:UInt64} (hx:zB σ.Γ x=some (isv p)) (hy:zB σ.Γ y=some (isv q)):OpV c ⟨d,.binOp .and t x y u,ty,pos,af,g⟩ σ (isv (p &&& q)):=λS a w m=>by
 have h1:=zaW.1 (zb m hx)
 have h2:=zaW.1 (zb m hy)
 have h:=(p &&& q).toNat_lt
 have e:(((p &&& q).toNat:Nat):Int)=((BitVec.ofInt 64 (p.toNat:Int) &&& BitVec.ofInt 64 (q.toNat:Int)).toNat:Int) % 18446744073709551616:=by
  rw [bv64,bv64]
  have:(p.toBitVec &&& q.toBitVec).toNat=(p &&& q).toNat:=rfl
  rw [this];omega
 exact ⟨.int .u64 ((p &&& q).toNat:Int),zaW.2 rfl,λw' _=>by
  have hr:(Op.intBits .and .u64 (p.toNat:Int) (q.toNat:Int)).run c.P w'=.ok (.int .u64 ((p &&& q).toNat:Int)) w':=by
   rw [e];unfold Op.intBits;simp only [Sem.run_pure,zf8];rfl
  simp [execOp,binOp,eqGuard,h1,h2,hr]⟩
def zf9 (x:UInt64) (n:Nat):UInt64:=UInt64.ofNat (x.toNat * 2 ^ n)
theorem ziP {p n:UInt64} (hx:zB σ.Γ x=some (isv p)) (hy:zB σ.Γ y=some (isv n)) (hn:Nat.ble n.toNat 64=true):OpV c ⟨d,.binOp .shl t x y u,ty,pos,af,g⟩ σ (isv (zf9 p n.toNat)):=λS a w m=>by
 have h1:=zaW.1 (zb m hx)
 have h2:=zaW.1 (zb m hy)
 have hn':=Nat.le_of_ble_eq_true hn
 have e:(((zf9 p n.toNat).toNat:Nat):Int)=((p.toNat:Int) * 2 ^ n.toNat) % 18446744073709551616:=by
  unfold zf9
  rw [UInt64.toNat_ofNat']
  simp
 have hmin:min n.toNat 64=n.toNat:=Nat.min_eq_left hn'
 exact ⟨.int .u64 ((zf9 p n.toNat).toNat:Int),zaW.2 rfl,λw' _=>by rw [e];simp [execOp,binOp,eqGuard,h1,h2,Op.shift,zf8,IntKind.bits,hmin]⟩
theorem zsp {p:UInt8} {n:UInt64} (hx:zB σ.Γ x=some (isv p)) (hy:zB σ.Γ y=some (isv n)) (hn:Nat.ble n.toNat 8=true):OpV c ⟨d,.binOp .shr t x y u,ty,pos,af,g⟩ σ (isv (zf0 p n.toNat)):=λS a w m=>by
 have h1:=zbS.1 (zb m hx)
 have h2:=zaW.1 (zb m hy)
 have hn':=Nat.le_of_ble_eq_true hn
 have hlt:p.toNat / 2 ^ n.toNat < 256:=Nat.lt_of_le_of_lt (Nat.div_le_self _ _) p.toNat_lt
 have e:(((zf0 p n.toNat).toNat:Nat):Int)=((p.toNat:Int)).fdiv (2 ^ n.toNat):=by
  unfold zf0
  rw [UInt8.toNat_ofNat',Nat.mod_eq_of_lt hlt,Int.fdiv_eq_ediv_of_nonneg _ (Int.pow_nonneg (by decide))]
  simp
 have hmin:min n.toNat 8=n.toNat:=Nat.min_eq_left hn'
 exact ⟨.int .u8 ((zf0 p n.toNat).toNat:Int),zbS.2 rfl,λw' _=>by
  rw [e]
  simp [execOp,binOp,eqGuard,h1,h2,Op.shift,IntKind.bits,hmin]
  exact (Int.fdiv_eq_ediv_of_nonneg _ (Int.pow_nonneg (by decide))).symm⟩
end bits
theorem zln.u64 {P:Program} {T:TypeId}:zln P T UInt64:=by
 intro S v u x y hx hy X Y w
 have h1:=zaW.1 hx
 have h2:=zaW.1 hy
 subst h1;subst h2
 have hb:((x.toNat:Int) == (y.toNat:Int))=decide (x=y):=by
  by_cases h:x=y
  ·simp [h]
  ·have:x.toNat ≠ y.toNat:=λe=>h (UInt64.toNat_inj.1 e)
   simp [h];omega
 refine ⟨by simp [eqGuard],by simp [eqGuard],?_,?_⟩
 ·simp only [binOp,Op.intCmp,Sem.run_pure,hb,ne_eq,not_true,if_false]
 ·have hb':((x.toNat:Int) != (y.toNat:Int))=!decide (x=y):=by rw [bne,hb]
  simp only [binOp,Op.intCmp,Sem.run_pure,hb',ne_eq,not_true,if_false]
section bits
variable {c:Ctx} {ty:TypeId} {pos:String} {af:Array Edge} {g:Option (Nat × Bool)} {σ:St} {d:Option Nat} {x y:Operand} {t u:TypeId}
theorem zx2 {p q:UInt64} (hx:zB σ.Γ x=some (isv p)) (hy:zB σ.Γ y=some (isv q)):OpV c ⟨d,.binOp .leq t x y u,ty,pos,af,g⟩ σ (isv (decide (p <= q))):=λS a w m=>by
 have h1:=zaW.1 (zb m hx)
 have h2:=zaW.1 (zb m hy)
 have e:decide (p <= q)=decide ((p.toNat:Int) <= (q.toNat:Int)):=by rw [decide_eq_decide,UInt64.le_iff_toNat_le];omega
 exact ⟨.bool (decide (p <= q)),zbO.2 rfl,λw' _=>by rw [e];simp [execOp,binOp,eqGuard,h1,h2,Op.intCmp]⟩
theorem zx1 {p q:UInt64} (hx:zB σ.Γ x=some (isv p)) (hy:zB σ.Γ y=some (isv q)):OpV c ⟨d,.binOp .geq t x y u,ty,pos,af,g⟩ σ (isv (decide (q <= p))):=λS a w m=>by
 have h1:=zaW.1 (zb m hx)
 have h2:=zaW.1 (zb m hy)
 have e:decide (q <= p)=decide ((q.toNat:Int) <= (p.toNat:Int)):=by rw [decide_eq_decide,UInt64.le_iff_toNat_le];omega
 exact ⟨.bool (decide (q <= p)),zbO.2 rfl,λw' _=>by rw [e];simp [execOp,binOp,eqGuard,h1,h2,Op.intCmp]⟩
theorem ztL {p q:UInt8} (hx:zB σ.Γ x=some (isv p)) (hy:zB σ.Γ y=some (isv q)):OpV c ⟨d,.binOp .andNot t x y u,ty,pos,af,g⟩ σ (isv (p &&& ~~~q)):=λS a w m=>by
 have h1:=zbS.1 (zb m hx)
 have h2:=zbS.1 (zb m hy)
 have h:=(p &&& ~~~q).toNat_lt
 have e:(((p &&& ~~~q).toNat:Nat):Int)=((BitVec.ofInt 8 (p.toNat:Int) &&& ~~~BitVec.ofInt 8 (q.toNat:Int)).toNat:Int) % 256:=by
  rw [bv8,bv8]
  have:(p.toBitVec &&& ~~~q.toBitVec).toNat=(p &&& ~~~q).toNat:=rfl
  rw [this];omega
 exact ⟨.int .u8 ((p &&& ~~~q).toNat:Int),zbS.2 rfl,λw' _=>by
  have hr:(Op.intBits .andNot .u8 (p.toNat:Int) (q.toNat:Int)).run c.P w'=.ok (.int .u8 ((p &&& ~~~q).toNat:Int)) w':=by
   rw [e];unfold Op.intBits;simp only [Sem.run_pure,zi2];rfl
  simp [execOp,binOp,eqGuard,h1,h2,hr]⟩
def andI (p q:Int):Int:=((p.toNat &&& q.toNat:Nat):Int)
theorem zzB {p q:Int} (hx:zB σ.Γ x=some (isv p)) (hy:zB σ.Γ y=some (isv q)) (hp:0 <= p) (hq:0 <= q):OpV c ⟨d,.binOp .and t x y u,ty,pos,af,g⟩ σ (isv (andI p q)):=λS a w m=>by
 obtain ⟨h1,i1⟩:=zah.1 (zb m hx)
 obtain ⟨h2,i2⟩:=zah.1 (zb m hy)
 obtain ⟨_,p2⟩:=i1
 obtain ⟨_,q2⟩:=i2
 have hn:p.toNat < 2 ^ 63:=by omega
 have hm:q.toNat < 2 ^ 63:=by omega
 have hle:p.toNat &&& q.toNat <= p.toNat:=Nat.and_le_left
 have e:andI p q=((BitVec.ofInt 64 p &&& BitVec.ofInt 64 q).toNat:Int):=by
  obtain ⟨p',rfl⟩:∃ n:Nat,p=(n:Int):=⟨p.toNat,by omega⟩
  obtain ⟨q',rfl⟩:∃ n:Nat,q=(n:Int):=⟨q.toNat,by omega⟩
  rw [Int.toNat_natCast] at hn hm
  unfold andI
  rw [BitVec.toNat_and,BitVec.ofInt_natCast,BitVec.ofInt_natCast,BitVec.toNat_ofNat,BitVec.toNat_ofNat,Nat.mod_eq_of_lt (by omega),Nat.mod_eq_of_lt (by omega),Int.toNat_natCast,Int.toNat_natCast]
 have hin:zc3 (andI p q):=zk3 (by unfold andI;omega) (by unfold andI;omega)
 exact ⟨.int .i64 (andI p q),zah.2 ⟨rfl,hin⟩,λw' _=>by
  have hr:(Op.intBits .and .i64 p q).run c.P w'=.ok (.int .i64 (andI p q)) w':=by
   have e2:Value.int .i64 (andI p q)=.int .i64 (IntKind.i64.wrap ((BitVec.ofInt 64 p &&& BitVec.ofInt 64 q).toNat:Int)):=by rw [<- e,zfz hin]
   rw [e2];rfl
  simp [execOp,binOp,eqGuard,h1,h2,hr]⟩
end bits
structure zfY where
 b:Nat
instance:Rep zfY where
 n:=1
 agg:=false
 rd:=λ_ cs x=>cs=[.pointer (some ⟨x.b,0,none⟩)]
 len:=λh=>by rw [h];rfl
 mono:=λ_ h=>h
 cell:=λh v hv=>by rw [h] at hv;simp at hv;subst hv;rfl
 one:=λ_=>rfl
theorem zrf {S:Frz} {v:Value} {x:zfY}:(isv x).p S v ↔ v=.pointer (some ⟨x.b,0,none⟩):=by
 constructor
 ·intro h
  obtain ⟨_,h2⟩:=zeV h rfl
  have h3:[v]=[Value.pointer (some ⟨x.b,0,none⟩)]:=h2
  exact (List.cons.inj h3).1
 ·intro h
  subst h
  exact ⟨rfl,rfl⟩
theorem zya {α:Type} [Rep α] {b:Nat}:∀ (S:Frz) (v:Value),(zal b (Fld.id α)).p S v->(isv (zfY.mk b)).p S v:=λ_ _ h=>zrf.2 h
theorem zyd {α:Type} [Rep α] {b:Nat}:∀ (S:Frz) (v:Value),(isv (zfY.mk b)).p S v->(zal b (Fld.id α)).p S v:=λ_ _ h=>zrf.1 h
theorem zrm {α:Type} [Rep α] {c:Ctx} {ty:TypeId} {pos:String} {af:Array Edge} {g:Option (Nat × Bool)} {σ:St} {d:Option Nat} {b:Nat} {x:Operand} {T:TypeId} (ht:TyB c.P T (Rep.n zfY) (Rep.agg zfY)=true) (hx:zB σ.Γ x=some (zbn (zfY.mk b))) :
    OpV c ⟨d,.load T x,ty,pos,af,g⟩ σ (zal b (Fld.id α)):=λS a w m=>by
  obtain ⟨v,h1,h2⟩:=zao (d:=d) (ty:=ty) (pos:=pos) (af:=af) (g:=g) ht hx S a w m
  exact ⟨v,zyd S v h1,h2⟩
/-! ### Lists of lists, the last one of which is appended to -/
structure NL (α:Type) where
 l:List α
 t:Option Tok
instance {α:Type} [Rep α]:Rep (NL α) where
 n:=1
 agg:=false
 rd:=λS cs x=>match x.t with
  | none=>Rep.rd S cs x.l
  | some t=>Rep.rd S cs (zaa.mk t x.l)
 len:=λ{S cs x} h=>by
  cases hx:x.t with
  | none=>simp only [hx] at h;exact Rep.len h
  | some t=>simp only [hx] at h;exact Rep.len h
 mono:=λ{S S' cs x} hS h=>by
  cases hx:x.t with
  | none=>simp only [hx] at h ⊢;exact Rep.mono hS h
  | some t=>simp only [hx] at h ⊢;exact Rep.mono hS h
 cell:=λ{S cs x} h=>by
  cases hx:x.t with
  | none=>simp only [hx] at h;exact Rep.cell h
  | some t=>simp only [hx] at h;exact Rep.cell h
 one:=λ_=>rfl
section nest0
variable {α:Type}
def zgf (t:Tok):List (List α)->List (NL α)
 | []=>[]
 | [x]=>[⟨x,some t⟩]
 | x :: y :: r=>⟨x,none⟩ :: zgf t (y :: r)
@[simp] theorem zfT (t:Tok):∀ L:List (List α),(zgf t L).length=L.length
 | []=>rfl
 | [_]=>rfl
 | x :: y :: r=>by show (zgf t (y :: r)).length + 1=(y :: r).length + 1;rw [zfT t (y :: r)]
theorem zip {t:Tok} {y:List α}:∀ {L:List (List α)} {i:Nat},i + 1=L.length->L[i]?=some y->(zgf t L)[i]?=some ⟨y,some t⟩
 | [],i,h,_=>by cases h
 | [x],i,h,hy=>by
  have:i=0:=by simpa using h
  subst this
  cases hy;rfl
 | x :: z :: r,i,h,hy=>by
  cases i with
  | zero=>simp at h
  | succ i =>
   show (zgf t (z :: r))[i]?=_
   exact zip (by simpa using h) (by simpa using hy)
theorem zmH {t t':Tok} {y:List α}:∀ {L:List (List α)} {i:Nat},i + 1=L.length->(zgf t L).set i ⟨y,some t'⟩=zgf t' (L.set i y)
 | [],i,h=>by cases h
 | [x],i,h=>by
  have:i=0:=by simpa using h
  subst this;rfl
 | x :: z :: r,i,h=>by
  cases i with
  | zero=>simp at h
  | succ i =>
   have:=zmH (t:=t) (t':=t') (y:=y) (L:=z :: r) (i:=i) (by simpa using h)
   cases i with
   | zero=>show _ :: (zgf t (z :: r)).set 0 _=_;rw [this];rfl
   | succ i=>show _ :: (zgf t (z :: r)).set (i + 1) _=_;rw [this];rfl
end nest0
section nest
variable {α:Type} [Rep α] {S:Frz} {v:Value} {c:Ctx}
theorem zv5 {t:Tok} {l:List α} (S:Frz) (v:Value) (h:(isv (NL.mk l (some t))).p S v):(zbK t l).p S v:=zoL S v h
theorem zql {t:Tok} {l:List α} (S:Frz) (v:Value) (h:(zbK t l).p S v):(isv (NL.mk l (some t))).p S v:=zr2 S v h
theorem zyw {x:NL α} {cs:List Value} (h:Rep.rd S cs x):Rep.rd S cs x.l:=by
 obtain ⟨l,t⟩:=x
 cases t with
 | none=>exact h
 | some t =>
  obtain ⟨v,e,k⟩:=(show Rep.rd S cs (zaa.mk t l) from h)
  exact ⟨v,e,k.1⟩
theorem zv8 {t:Tok} {cs:List Value}:∀ {L:List (List α)},rdL (Rep.rd S) (zgf t L) cs->rdL (Rep.rd S) L cs:=by
 intro L
 induction L generalizing cs with
 | nil=>intro h;exact h
 | cons x r ih =>
  cases r with
  | nil=>intro ⟨c1,c2,e,h1,h2⟩;exact ⟨c1,c2,e,zyw h1,h2⟩
  | cons y r=>intro ⟨c1,c2,e,h1,h2⟩;exact ⟨c1,c2,e,h1,ih h2⟩
theorem zoP {t u:Tok} {x:List α} {cs:List Value}:∀ {L:List (List α)},rdL (Rep.rd S) (zgf t L ++ [NL.mk x (some u)]) cs->rdL (Rep.rd S) (zgf u (L ++ [x])) cs:=by
 intro L
 induction L generalizing cs with
 | nil=>intro h;exact h
 | cons z r ih =>
  cases r with
  | nil=>intro ⟨c1,c2,e,h1,h2⟩;exact ⟨c1,c2,e,(show Rep.rd S c1 (NL.mk z none) from (zyw (x:=NL.mk z (some t)) h1:Rep.rd S c1 z)),h2⟩
  | cons y r=>intro ⟨c1,c2,e,h1,h2⟩;exact ⟨c1,c2,e,h1,ih h2⟩
theorem zk8 {t:Tok} {L:List (List α)} (S:Frz) (v:Value) (h:(isv (zgf t L)).p S v):(isv L).p S v:=by
 have h:=zcs.1 h
 refine zcs.2 ?_
 obtain ⟨p,cap,e,h1,h2,h3⟩:=h
 rw [zfT] at e h1 h2
 refine ⟨p,cap,e,h1,h2,?_⟩
 rcases h3 with h3 | ⟨a,cs,h4,h5,h6,h7⟩
 ·left
  have:=zfT t L
  rw [h3] at this
  exact List.length_eq_zero_iff.1 this.symm
 ·rw [zfT] at h6
  exact .inr ⟨a,cs,h4,h5,h6,zv8 h7⟩
theorem zqN {Γ:zM} {H Hr:List Ent} {v:Vt} {t u:Tok} {L:List (List α)} {x:List α} (hp:zcw (zI v (zgf t L ++ [NL.mk x (some u)])) H Hr):Upd c ⟨Γ,H⟩ ⟨Γ,zI v (zgf u (L ++ [x])) :: Hr⟩:=λS a w m=>by
 obtain ⟨S1,h1,m1⟩:=zgE (c:=c) (Γ:=Γ) hp S a w m
 have e:(zgf u (L ++ [x])).length=(zgf t L ++ [NL.mk x (some u)]).length:=by simp
 refine ⟨S1,h1,m1.ent rfl ?_⟩
 cases v with
 | none=>exact λh=>h
 | some v =>
  obtain ⟨b,cap⟩:=v
  intro ⟨o,ho,hn,cs,T,e1,e2,e3,e4⟩
  exact ⟨o,ho,hn,cs,T,e1,e2,by rw [e];exact e3,by rw [e];exact zoP e4⟩
theorem zrV {β:Type} [Rep β] {Γ:zM} {H Hr:List Ent} {v:Vt} {l l':List β} (hp:zcw (zI v l) H Hr) (e:l=l'):Upd c ⟨Γ,H⟩ ⟨Γ,zI v l' :: Hr⟩:=by
 subst e
 exact zgE hp
end nest
section nilq
variable {c:Ctx} {ty:TypeId} {pos:String} {af:Array Edge} {g:Option (Nat × Bool)} {σ:St} {d:Option Nat}
end nilq
/-! ### An owned list, as one that is appended to -/
section vapp
variable {c:Ctx}
end vapp
structure Wr (α:Type) where
 v:α
instance {α:Type} [Rep α]:Rep (Wr α):=Rep.iso Wr.v
theorem Cv.wr {α β:Type} [Rep α] [Rep β] {S:Frz} {y:α} {z:β} (h:Cv S y z):Cv S (Wr.mk y) (Wr.mk z):=h
/-! ### Shorter words for walks -/
theorem zxS {c:Ctx} {ty:TypeId} {pos:String} {af:Array Edge} {g:Option (Nat × Bool)} {Γ:zM} {H:List Ent} {f:FuncId} {xs:Array Operand} {ats:Array TypeId} {args:List VP} {Hc Hr:List Ent} {R0:VP} {H0:List Ent} {dd:Nat} {K:St->Prop} (hs:Ctr c.P f args Hc (λR H=>R=R0/\H=H0)) (hT:zkR c) (hx:zgK Γ xs.toList args) (ht:zbq H Hc Hr)
    (k:K ⟨(dd,R0) :: Γ,H0 ++ Hr⟩) (hd:Nat.blt dd c.n=true:=by rfl) :
    OpT c ⟨some dd,.call ⟨.value (.func f),xs,ats⟩,ty,pos,af,g⟩ ⟨Γ,H⟩ K :=
  zsP hs hT hx ht (λR H' hR=>by obtain ⟨rfl,rfl⟩:=hR;exact k) hd
theorem hI {α β:Type} {p:α->β->Prop} (a:α) (b:β) (h:p a b):p a b:=h
theorem k1 {a:Ent} {H:List Ent}:zbq (a :: H) [a] H:=.cons .here .nil
theorem k2 {a b:Ent} {H:List Ent}:zbq (a :: b :: H) [a,b] H:=.cons .here k1
theorem k3 {a b c:Ent} {H:List Ent}:zbq (a :: b :: c :: H) [a,b,c] H:=.cons .here k2
theorem k4 {a b c d:Ent} {H:List Ent}:zbq (a :: b :: c :: d :: H) [a,b,c,d] H:=.cons .here k3
theorem s1 {Γ:zM} {x:Operand} {R:VP} (h:zB Γ x=some R):zgK Γ [x] [R]:=.same h .nil
theorem s2 {Γ:zM} {x y:Operand} {R Q:VP} (h:zB Γ x=some R) (k:zB Γ y=some Q):zgK Γ [x,y] [R,Q]:=.same h (s1 k)
theorem s3 {Γ:zM} {x y z:Operand} {R Q T:VP} (h:zB Γ x=some R) (k:zB Γ y=some Q) (l:zB Γ z=some T):zgK Γ [x,y,z] [R,Q,T]:=.same h (s2 k l)
theorem zeu {P:Program} {f:FuncId} {fn:Func} {code:Code} {args:List VP} {H:List Ent} {post:VP->List Ent->Prop}
    (hf:P.funcs[f]?=some fn) (hb:fn.body=some code)
    (h:∀ w0 S0,zlz P S0 w0 (zbP H)->Wp ⟨P,fn.ntmps,w0,S0,zbP H,[]⟩ code ⟨zkd 0 args,H⟩ (zl3 P fn w0 S0 H post))
    (hn : (fn.name == "runtime.NumGoroutine") = false := by decide +kernel) (hl : Nat.ble args.length fn.ntmps = true := by rfl) : Ctr P f args H post := zr9 hf hb hn hl h
end Go.Sy
namespace Go.Sy
open Go
section
variable {c:Ctx} {σ:St} {d:Nat} {ty:TypeId} {x y:Operand} {t u:TypeId} {p q:Int}
end
end Go.Sy

/- ProjectBack: the law's model answers true. No condition but that no list in the value is longer than any may be. -/
import Derived.Test.YtndfkmgciajjnaaGreatDoorPbA
import Derived.Test.YtndfkmgciajjnaaGreatDoorPbB
import Derived.Test.YtndfkmgciajjnaaGreatDoorPbC
set_option linter.unusedVariables false
set_option linter.unusedSimpArgs false

namespace Go.Proofs.Q
open Go.Sy
set_option linter.unusedVariables false

theorem zjk {v:Val} {n b l m l':Bool} {L:List Val} (h:pln v n b l m=true) (hl:l'=true ∨ L=[]) (m':Bool):pln (Val.mk v.kind v.n v.b L 0 []) n b l' m'=true:=by
  unfold pln at h ⊢
  rw [Bool.and_eq_true,Bool.and_eq_true] at h
  rw [Bool.and_eq_true,Bool.and_eq_true]
  refine ⟨⟨h.1.1,?_⟩,?_⟩
  · rcases hl with e | e
    · rw [e];rfl
    · subst e;cases l' <;> rfl
  · cases m' <;> rfl
theorem zus {v:Val} {n b m:Bool} (h:pln v n b false m=true):v.l=[]:=by
  unfold pln at h
  simp only [Bool.false_or,Bool.and_eq_true,decide_eq_true_eq] at h
  exact List.length_eq_zero_iff.1 (by have:=h.1.2;omega)
theorem zm1 {a b:List GTyp} {h:Nat} {i k:Int} {v:Val} (hs:Sim h a b i k) (h0:v.kind ≠ 0):(prj h a b i k v).kind ≠ 0:=by
  cases h with
  | zero=>exact h0
  | succ h =>
    obtain ⟨x,y,hx,hy,_⟩:=hs
    by_cases h12:v.kind=12
    · rw [show prj (h + 1) a b i k v=u12 from if_pos h12];decide
    rw [zgV h12 hx hy]
    unfold prjK
    split
    · split
      · exact h0
      · decide
    split
    · exact h0
    split
    · split
      · decide
      · unfold pch
        split
        · exact h0
        · decide
    split
    · exact h0
    · exact h0
theorem zrD {a b:List GTyp} {h:Nat} {i k:Int} {v:Val} (hs:Sim (h + 1) a b i k) (hf:FitB a (h + 1) i v) (h6:(prj (h + 1) a b i k v).kind ≤ 6):prj (h + 1) a b i k v=v:=by
  obtain ⟨x,y,hx,hy,hkd,_⟩:=hs
  obtain ⟨x',hx',hfit⟩:=hf
  rw [hx] at hx';cases hx'
  rcases hfit with ⟨hv,_⟩ | ⟨h12,hk,hr,hm,hfk⟩
  · subst hv;exact ziQ
  rw [zgV h12 hx hy] at h6 ⊢
  have fin:v.l=[]→Val.mk v.kind v.n v.b [] 0 []=v:=fun hl=>by
    conv=>rhs;rw [← Val.eta v,hl,hr,hm]
  unfold prjK at h6 ⊢
  by_cases h3:v.kind=3
  · rw [if_pos h3] at h6 ⊢
    split at h6
    · rename_i hi;rw [if_pos hi];exact fin (zus (fk3 hfk (by omega)).1)
    · exact absurd h6 (by decide)
  rw [if_neg h3] at h6 ⊢
  by_cases h10:v.kind=10
  · rw [if_pos h10] at h6
    have h6:v.kind ≤ 6:=h6
    omega
  rw [if_neg h10] at h6 ⊢
  by_cases h9:v.kind=9
  · rw [if_pos h9] at h6
    split at h6
    · exact absurd h6 (by decide)
    · unfold pch at h6
      split at h6
      · have h6:v.kind ≤ 6:=h6
        omega
      · exact absurd h6 (by decide)
  rw [if_neg h9] at h6 ⊢
  by_cases h78:v.kind=7 ∨ v.kind=8
  · rw [if_pos h78] at h6
    have h6:v.kind ≤ 6:=h6
    omega
  rw [if_neg h78]
  exact fin (fkl (y:=x) (G:=fun _ _=>True) hfk (by omega) (by omega) (by omega) (by omega) rfl rfl).1
theorem zsT {t:List GTyp} {h:Nat} {i:Int} {v:Val} (h1:FitB t h i v):∃ h',h=h' + 1:=by
  cases h with
  | zero=>exact h1.elim
  | succ h=>exact ⟨h,rfl⟩
theorem zpd {a b:List GTyp} {h:Nat} {i k:Int} {v d:Val} (hd:DOk d) (hs:Sim h a b i k) (hf:FitB a h i v) (hn:v ≠ d):prj h a b i k v ≠ d:=fun e=>by
  obtain ⟨h',rfl⟩:=zsT hf
  have h6:=hd.2.2.2.2.1
  rw [← e] at h6
  exact hn ((zrD hs hf h6).symm.trans e)
theorem zky {F:Int→Int→Val→Val} {x y:GTyp} {l:List Val} {q:Nat} {f g:GFld} {w:Val} (h1:x.fields[q]?=some f) (h2:y.fields[q]?=some g) (h3:l[q]?=some w):pfl F x y l q=if w.kind=0 then zeroV else F f.ty g.ty w:=by
  unfold pfl
  rw [h1,h2,h3]
theorem zgr {α:Type} {f:Nat→α} {n q:Nat} (h:q < n):((List.range n).map f)[q]?=some (f q):=by
  rw [List.getElem?_map,List.getElem?_range h];rfl
theorem ztD {a b:GTab} (ha:TabOk a) (hb:TabOk b):∀ {h:Nat} {i k:Int} {v:Val},ext h a.types b.types i k=true→FitB b.types h k v→FitB a.types h i (prj h b.types a.types k i v):=by
  intro h
  induction h with
  | zero=>intro i k v _ hf;exact hf.elim
  | succ h ih =>
    intro i k v he hfitB
    obtain ⟨x,y,hx,hy,L⟩:=zhT ha hb he
    obtain ⟨y',hy',hfit⟩:=hfitB
    rw [hy] at hy';cases hy'
    obtain ⟨tx,lx⟩:=ziR ha hx
    obtain ⟨ty,ly⟩:=ziR hb hy
    rcases hfit with ⟨hv,h1,h2⟩ | ⟨h12,hk,hr,hm,hfk⟩
    · subst hv;rw [ziQ]
      exact ⟨x,hx,.inl ⟨rfl,by rw [L.more];exact h1,by rw [L.kind];exact h2⟩⟩
    rw [zgV h12 hy hx]
    have hkx:v.kind=x.kind:=by rw [L.kind];exact hk
    have mk:∀ {l},FitK x (Val.mk v.kind v.n v.b l 0 []) (FitB a.types h)→FitB a.types (h + 1) i (Val.mk v.kind v.n v.b l 0 []):=fun hf=>⟨x,hx,.inr ⟨h12,hkx,rfl,rfl,hf⟩⟩
    have un:x.more=true→x.kind=9 ∨ x.kind=3→FitB a.types (h + 1) i u12:=fun h1 h2=>⟨x,hx,.inl ⟨rfl,h1,h2⟩⟩
    unfold prjK
    by_cases h3:v.kind=3
    · rw [if_pos h3]
      obtain ⟨g1,it,g2,g3⟩:=fk3 hfk (by omega)
      split
      · rename_i hi
        obtain ⟨it',h4,h5⟩:=List.any_eq_true.1 hi
        exact mk (.inr (.inr (.inl ⟨by omega,zjk g1 (.inr rfl) _,it',h4,zOT h5⟩)))
      · rename_i hi
        refine un ((L.imore (by omega)).resolve_right fun e=>hi ?_) (.inr (by omega))
        have:=L.itake (by omega)
        rw [List.take_of_length_le (by omega)] at this
        exact List.any_eq_true.2 ⟨it,by rw [← this];exact g2,zDT g3⟩
    rw [if_neg h3]
    by_cases h10:v.kind=10
    · rw [if_pos h10]
      obtain ⟨g1,g2,g3⟩:=fk10 hfk (by omega)
      refine mk (.inr (.inr (.inr (.inr (.inr (.inl ⟨by omega,zjk g1 (.inl rfl) _,?_,fun w hw=>?_⟩))))))
      · show (x.con.more || wthn x.con ((v.l.map _).length:Int))=true
        rw [List.length_map,L.con];exact g2
      · obtain ⟨w',h1,h2⟩:=List.mem_map.1 (show w ∈ v.l.map _ from hw)
        subst h2
        exact ih (L.of (by omega)) (g3 w' h1)
    rw [if_neg h10]
    by_cases h9:v.kind=9
    · rw [if_pos h9]
      obtain ⟨g1,g2,g,w,g3,g4,g5⟩:=fk9 hfk (by omega)
      have gl:=(List.getElem?_eq_some_iff.1 g3).1
      split
      · rename_i hn
        exact un (L.lenm.resolve_right fun e=>by omega) (.inl (by omega))
      · rename_i hn
        obtain ⟨f,hf⟩:∃ f,x.fields[v.n.toNat]?=some f:=⟨_,List.getElem?_eq_getElem (by omega)⟩
        have e:pch (prj h b.types a.types) y x v=Val.mk v.kind v.n v.b [prj h b.types a.types g.ty f.ty w] 0 []:=by
          unfold pch
          rw [g3,hf,g4];rfl
        rw [e]
        exact mk (.inr (.inr (.inr (.inr (.inr (.inr (.inl ⟨by omega,zjk g1 (.inl rfl) _,g2,f,_,hf,rfl,ih (L.fld _ f g hf g3).2.2.2.2 g5⟩)))))))
    rw [if_neg h9]
    by_cases h78:v.kind=7 ∨ v.kind=8
    · rw [if_pos h78]
      obtain ⟨g1,g2,g3,g4,g5⟩:=fk78 hfk (by omega)
      have hlen:=L.len
      have hrt:=L.root (by omega)
      have hw:∀ q:Nat,q < x.fields.length→∃ f g w,x.fields[q]?=some f∧y.fields[q]?=some g∧v.l[q]?=some w∧FldF y (FitB b.types h) q g w:=fun q hq=>by
        obtain ⟨f,hf⟩:∃ f,x.fields[q]?=some f:=⟨_,List.getElem?_eq_getElem hq⟩
        obtain ⟨g,hg⟩:∃ g,y.fields[q]?=some g:=⟨_,List.getElem?_eq_getElem (by omega)⟩
        obtain ⟨w,hw⟩:∃ w,v.l[q]?=some w:=⟨_,List.getElem?_eq_getElem (by omega)⟩
        exact ⟨f,g,w,hf,hg,hw,g4 q g w hg hw⟩
      have hfl:∀ q:Nat,q < x.fields.length→∃ f g w,x.fields[q]?=some f∧y.fields[q]?=some g∧v.l[q]?=some w∧FldF x (FitB a.types h) q f (pfl (prj h b.types a.types) y x v.l q)∧decide ((pfl (prj h b.types a.types) y x v.l q).kind=0)=decide (w.kind=0):=fun q hq=>by
        obtain ⟨f,g,w,hf,hg,hw,h1⟩:=hw q hq
        obtain ⟨l1,l2,l3,l4,l5⟩:=L.fld q f g hf hg
        refine ⟨f,g,w,hf,hg,hw,?_⟩
        rw [zky hg hf hw]
        rcases h1 with ⟨e1,e2,e3⟩ | ⟨e1,e2,e3⟩
        · rw [if_pos e1]
          exact ⟨.inl ⟨rfl,rfl,by rw [l1,l2,hrt];exact e3⟩,by rw [zDT e1];rfl⟩
        · rw [if_neg e1]
          have hs:=(zoj ha hb l5).2
          have hk0:=zm1 hs e1
          refine ⟨.inr ⟨hk0,ih l5 e2,fun hh=>?_⟩,by rw [zDF e1,zDF hk0]⟩
          rw [l2] at hh
          rw [l3]
          exact zpd (ty.dflt g (List.mem_of_getElem? hg)) hs e2 (e3 hh)
      refine mk (.inr (.inr (.inr (.inr (.inr (.inr (.inr ⟨by omega,zjk g1 (.inl rfl) _,fun _=>rfl,?_,fun q f w hf hw=>?_,fun s hs=>?_⟩)))))))
      · show ((List.range x.fields.length).map _).length=_
        rw [List.length_map,List.length_range]
      · have hq:=(List.getElem?_eq_some_iff.1 hf).1
        obtain ⟨f',g,w',hf',hg,hw',h1,_⟩:=hfl q hq
        rw [hf] at hf';cases hf'
        rw [show (Val.mk v.kind v.n v.b ((List.range x.fields.length).map (pfl (prj h b.types a.types) y x v.l)) 0 []).l[q]?=_ from zgr hq] at hw
        cases hw
        exact h1
      · have r0:=tx.root0
        have rF:=tx.rootF (by omega)
        obtain ⟨rest,e1,_⟩:=zl2 L (by omega) r0 rF
        have hg:=g5 s (by rw [e1];exact List.mem_append_left _ hs)
        obtain ⟨k0,r,s1,s2,s3⟩:=zkQ r0 s hs
        unfold Grp at hg ⊢
        have hh:s.headD 0=k0:=by rw [s1];rfl
        have k0i:=s3 k0 (by rw [s1];exact List.mem_cons_self)
        have t1:∀ k ∈ s,thr (Val.mk v.kind v.n v.b ((List.range x.fields.length).map (pfl (prj h b.types a.types) y x v.l)) 0 []) k=thr v k∧lck x (Val.mk v.kind v.n v.b ((List.range x.fields.length).map (pfl (prj h b.types a.types) y x v.l)) 0 []) k=lck y v k:=fun k hk=>by
          obtain ⟨u1,u2⟩:=s3 k hk
          have hq:k.toNat < x.fields.length:=by omega
          obtain ⟨f,g,w,hf,hg,hw,_,h2⟩:=hfl k.toNat hq
          obtain ⟨l1,l2,_⟩:=L.fld _ f g hf hg
          have e:thr (Val.mk v.kind v.n v.b ((List.range x.fields.length).map (pfl (prj h b.types a.types) y x v.l)) 0 []) k=thr v k:=by
            unfold thr
            rw [show (Val.mk v.kind v.n v.b ((List.range x.fields.length).map (pfl (prj h b.types a.types) y x v.l)) 0 []).l[k.toNat]?=_ from zgr hq,hw]
            show (!decide ((pfl (prj h b.types a.types) y x v.l k.toNat).kind=0))=!decide (w.kind=0)
            rw [h2]
          refine ⟨e,?_⟩
          unfold lck
          rw [e,hf,hg]
          show (!thr v k && !(f.optional || f.has))=(!thr v k && !(g.optional || g.has))
          rw [l1,l2]
        rw [hh] at hg ⊢
        rw [← zhV L (by omega),zkE fun k hk=>(t1 k hk).1,zkE fun k hk=>(t1 k hk).2]
        exact hg
    · rw [if_neg h78]
      obtain ⟨hl,_,g⟩:=fkl (y:=x) (G:=FitB a.types h) hfk (by omega) (by omega) (by omega) (by omega) L.kind.symm L.con.symm
      have e:Val.mk v.kind v.n v.b [] 0 []=v:=by
        conv=>rhs;rw [← Val.eta v,hl,hr,hm]
      rw [e]
      exact ⟨x,hx,.inr ⟨h12,hkx,hr,hm,g⟩⟩
end Go.Proofs.Q


namespace Go.Proofs.Q
open Go.Sy
set_option linter.unusedVariables false

theorem zmp {F:Int→Int→Val→Val} {x y:GTyp} {l:List Val} {q:Nat} (h:x.fields[q]?=none):pfl F x y l q=zeroV:=by
  unfold pfl
  rw [h]
theorem zu3 {a b:GTab} (ha:TabOk a) (hb:TabOk b):∀ {h:Nat} {i k:Int} {v:Val},ext h a.types b.types i k=true→FitB a.types h i v→FitB b.types h k (prj h a.types b.types i k v):=by
  intro h
  induction h with
  | zero=>intro i k v _ hf;exact hf.elim
  | succ h ih =>
    intro i k v he hfitB
    obtain ⟨x,y,hx,hy,L⟩:=zhT ha hb he
    obtain ⟨x',hx',hfit⟩:=hfitB
    rw [hx] at hx';cases hx'
    obtain ⟨tx,lx⟩:=ziR ha hx
    obtain ⟨ty,ly⟩:=ziR hb hy
    rcases hfit with ⟨hv,h1,h2⟩ | ⟨h12,hk,hr,hm,hfk⟩
    · subst hv;rw [ziQ]
      exact ⟨y,hy,.inl ⟨rfl,by rw [← L.more];exact h1,by rw [← L.kind];exact h2⟩⟩
    rw [zgV h12 hx hy]
    have hky:v.kind=y.kind:=by rw [← L.kind];exact hk
    have mk:∀ {l},FitK y (Val.mk v.kind v.n v.b l 0 []) (FitB b.types h)→FitB b.types (h + 1) k (Val.mk v.kind v.n v.b l 0 []):=fun hf=>⟨y,hy,.inr ⟨h12,hky,rfl,rfl,hf⟩⟩
    unfold prjK
    by_cases h3:v.kind=3
    · rw [if_pos h3]
      obtain ⟨g1,it,g2,g3⟩:=fk3 hfk (by omega)
      have hit:it ∈ y.items:=List.mem_of_mem_take (by rw [L.itake (by omega)];exact g2)
      rw [if_pos (List.any_eq_true.2 ⟨it,hit,zDT g3⟩)]
      exact mk (.inr (.inr (.inl ⟨by omega,zjk g1 (.inr rfl) _,it,hit,g3⟩)))
    rw [if_neg h3]
    by_cases h10:v.kind=10
    · rw [if_pos h10]
      obtain ⟨g1,g2,g3⟩:=fk10 hfk (by omega)
      refine mk (.inr (.inr (.inr (.inr (.inr (.inl ⟨by omega,zjk g1 (.inl rfl) _,?_,fun w hw=>?_⟩))))))
      · show (y.con.more || wthn y.con ((v.l.map _).length:Int))=true
        rw [List.length_map,← L.con];exact g2
      · obtain ⟨w',h1,h2⟩:=List.mem_map.1 (show w ∈ v.l.map _ from hw)
        subst h2
        exact ih (L.of (by omega)) (g3 w' h1)
    rw [if_neg h10]
    by_cases h9:v.kind=9
    · rw [if_pos h9]
      obtain ⟨g1,g2,f,w,g3,g4,g5⟩:=fk9 hfk (by omega)
      have gl:=(List.getElem?_eq_some_iff.1 g3).1
      have hlen:=L.len
      rw [if_neg (by omega)]
      obtain ⟨g,hg⟩:∃ g,y.fields[v.n.toNat]?=some g:=⟨_,List.getElem?_eq_getElem (by omega)⟩
      have e:pch (prj h a.types b.types) x y v=Val.mk v.kind v.n v.b [prj h a.types b.types f.ty g.ty w] 0 []:=by
        unfold pch
        rw [g3,hg,g4];rfl
      rw [e]
      exact mk (.inr (.inr (.inr (.inr (.inr (.inr (.inl ⟨by omega,zjk g1 (.inl rfl) _,g2,g,_,hg,rfl,ih (L.fld _ f g g3 hg).2.2.2.2 g5⟩)))))))
    rw [if_neg h9]
    by_cases h78:v.kind=7 ∨ v.kind=8
    · rw [if_pos h78]
      obtain ⟨g1,g2,g3,g4,g5⟩:=fk78 hfk (by omega)
      have hlen:=L.len
      have hrt:=L.root (by omega)
      have r0:=tx.root0
      have rF:=tx.rootF (by omega)
      have hfl:∀ q:Nat,q < x.fields.length→∃ f g w,x.fields[q]?=some f∧y.fields[q]?=some g∧v.l[q]?=some w∧FldF y (FitB b.types h) q g (pfl (prj h a.types b.types) x y v.l q)∧decide ((pfl (prj h a.types b.types) x y v.l q).kind=0)=decide (w.kind=0):=fun q hq=>by
        obtain ⟨f,hf⟩:∃ f,x.fields[q]?=some f:=⟨_,List.getElem?_eq_getElem hq⟩
        obtain ⟨g,hg⟩:∃ g,y.fields[q]?=some g:=⟨_,List.getElem?_eq_getElem (by omega)⟩
        obtain ⟨w,hw⟩:∃ w,v.l[q]?=some w:=⟨_,List.getElem?_eq_getElem (by omega)⟩
        have h1:=g4 q f w hf hw
        obtain ⟨l1,l2,l3,l4,l5⟩:=L.fld q f g hf hg
        refine ⟨f,g,w,hf,hg,hw,?_⟩
        rw [zky hf hg hw]
        rcases h1 with ⟨e1,e2,e3⟩ | ⟨e1,e2,e3⟩
        · rw [if_pos e1]
          exact ⟨.inl ⟨rfl,rfl,by rw [← l1,← l2,← hrt];exact e3⟩,by rw [zDT e1];rfl⟩
        · rw [if_neg e1]
          have hs:=(zoj ha hb l5).1
          have hk0:=zm1 hs e1
          refine ⟨.inr ⟨hk0,ih l5 e2,fun hh=>?_⟩,by rw [zDF e1,zDF hk0]⟩
          rw [← l2] at hh
          rw [← l3]
          exact zpd (tx.dflt f (List.mem_of_getElem? hf)) hs e2 (e3 hh)
      have hget:∀ q:Nat,q < y.fields.length→(Val.mk v.kind v.n v.b ((List.range y.fields.length).map (pfl (prj h a.types b.types) x y v.l)) 0 []).l[q]?=some (pfl (prj h a.types b.types) x y v.l q):=fun q hq=>zgr hq
      refine mk (.inr (.inr (.inr (.inr (.inr (.inr (.inr ⟨by omega,zjk g1 (.inl rfl) _,fun _=>rfl,?_,fun q g w hg hw=>?_,fun s hs=>?_⟩)))))))
      · show ((List.range y.fields.length).map _).length=_
        rw [List.length_map,List.length_range]
      · have hq:=(List.getElem?_eq_some_iff.1 hg).1
        rw [hget q hq] at hw
        cases hw
        rcases Nat.lt_or_ge q x.fields.length with hqx | hqx
        · obtain ⟨f,g',w',hf',hg',hw',h1,_⟩:=hfl q hqx
          rw [hg] at hg';cases hg'
          exact h1
        · rw [zmp (List.getElem?_eq_none hqx)]
          exact .inl ⟨rfl,rfl,.inr (.inr (by omega))⟩
      · obtain ⟨rest,e1,e2⟩:=zl2 L (by omega) r0 rF
        rw [e1] at hs
        unfold Grp
        rcases List.mem_append.1 hs with hs | hs
        · have hg:=g5 s hs
          obtain ⟨k0,r,s1,s2,s3⟩:=zkQ r0 s hs
          unfold Grp at hg
          have hh:s.headD 0=k0:=by rw [s1];rfl
          have k0i:=s3 k0 (by rw [s1];exact List.mem_cons_self)
          have t1:∀ k ∈ s,thr (Val.mk v.kind v.n v.b ((List.range y.fields.length).map (pfl (prj h a.types b.types) x y v.l)) 0 []) k=thr v k∧lck y (Val.mk v.kind v.n v.b ((List.range y.fields.length).map (pfl (prj h a.types b.types) x y v.l)) 0 []) k=lck x v k:=fun k hk=>by
            obtain ⟨u1,u2⟩:=s3 k hk
            have hq:k.toNat < x.fields.length:=by omega
            obtain ⟨f,g,w,hf,hg,hw,_,h2⟩:=hfl k.toNat hq
            obtain ⟨l1,l2,_⟩:=L.fld _ f g hf hg
            have e:thr (Val.mk v.kind v.n v.b ((List.range y.fields.length).map (pfl (prj h a.types b.types) x y v.l)) 0 []) k=thr v k:=by
              unfold thr
              rw [hget _ (by omega),hw]
              show (!decide ((pfl (prj h a.types b.types) x y v.l k.toNat).kind=0))=!decide (w.kind=0)
              rw [h2]
            refine ⟨e,?_⟩
            unfold lck
            rw [e,hf,hg]
            show (!thr v k && !(g.optional || g.has))=(!thr v k && !(f.optional || f.has))
            rw [l1,l2]
          rw [hh] at hg ⊢
          rw [zhV L (by omega),zkE fun k hk=>(t1 k hk).1,zkE fun k hk=>(t1 k hk).2]
          exact hg
        · have:s.any (thr (Val.mk v.kind v.n v.b ((List.range y.fields.length).map (pfl (prj h a.types b.types) x y v.l)) 0 []))=false:=List.any_eq_false.2 fun k hk=>by
            have h1:=e2 s hs k hk
            unfold thr
            rw [show (Val.mk v.kind v.n v.b ((List.range y.fields.length).map (pfl (prj h a.types b.types) x y v.l)) 0 []).l=(List.range y.fields.length).map (pfl (prj h a.types b.types) x y v.l) from rfl,List.getElem?_map]
            rcases Nat.lt_or_ge k.toNat y.fields.length with h2 | h2
            · rw [List.getElem?_range h2]
              show ¬ (!decide ((pfl (prj h a.types b.types) x y v.l k.toNat).kind=0))=true
              rw [zmp (List.getElem?_eq_none (by omega))]
              decide
            · rw [List.getElem?_eq_none (by rw [List.length_range];exact h2)]
              show ¬ false=true
              decide
          rw [this,Bool.and_false,Bool.false_and]
    · rw [if_neg h78]
      obtain ⟨hl,_,g⟩:=fkl (y:=y) (G:=FitB b.types h) hfk (by omega) (by omega) (by omega) (by omega) L.kind L.con
      have e:Val.mk v.kind v.n v.b [] 0 []=v:=by
        conv=>rhs;rw [← Val.eta v,hl,hr,hm]
      rw [e]
      exact ⟨y,hy,.inr ⟨h12,hky,hr,hm,g⟩⟩
end Go.Proofs.Q


namespace Go.Proofs.Q
open Go.Sy
set_option linter.unusedVariables false

theorem zt9 {a b:GTab} (ha:TabOk a) (hb:TabOk b):∀ {h:Nat} {i k:Int} {v:Val},ext h a.types b.types i k=true→FitB a.types h i v→prj h b.types a.types k i (prj h a.types b.types i k v)=v:=by
  intro h
  induction h with
  | zero=>intro i k v _ hf;exact hf.elim
  | succ h ih =>
    intro i k v he hfitB
    obtain ⟨x,y,hx,hy,L⟩:=zhT ha hb he
    obtain ⟨x',hx',hfit⟩:=hfitB
    rw [hx] at hx';cases hx'
    rcases hfit with ⟨hv,h1,h2⟩ | ⟨h12,hk,hr,hm,hfk⟩
    · subst hv;rw [ziQ,ziQ]
    rw [zgV h12 hx hy]
    have bk:∀ l,prj (h + 1) b.types a.types k i (Val.mk v.kind v.n v.b l 0 [])=prjK (prj h b.types a.types) y x (Val.mk v.kind v.n v.b l 0 []):=fun l=>zgV h12 hy hx
    have fin:∀ {l},l=v.l→Val.mk v.kind v.n v.b l 0 []=v:=fun hl=>by
      conv=>rhs;rw [← Val.eta v,hr,hm]
      rw [hl]
    unfold prjK
    by_cases h3:v.kind=3
    · rw [if_pos h3]
      obtain ⟨g1,it,g2,g3⟩:=fk3 hfk (by omega)
      have hit:it ∈ y.items:=List.mem_of_mem_take (by rw [L.itake (by omega)];exact g2)
      rw [if_pos (List.any_eq_true.2 ⟨it,hit,zDT g3⟩),bk]
      unfold prjK
      rw [if_pos (show (Val.mk v.kind v.n v.b [] 0 []).kind=3 from h3)]
      rw [if_pos (List.any_eq_true.2 ⟨it,g2,zDT g3⟩)]
      exact fin (zus g1).symm
    rw [if_neg h3]
    by_cases h10:v.kind=10
    · rw [if_pos h10,bk]
      obtain ⟨g1,g2,g3⟩:=fk10 hfk (by omega)
      unfold prjK
      rw [if_neg (show ¬ (Val.mk v.kind v.n v.b (v.l.map (prj h a.types b.types x.of y.of)) 0 []).kind=3 from h3),if_pos (show (Val.mk v.kind v.n v.b (v.l.map (prj h a.types b.types x.of y.of)) 0 []).kind=10 from h10)]
      refine fin ?_
      show (v.l.map (prj h a.types b.types x.of y.of)).map (prj h b.types a.types y.of x.of)=v.l
      rw [List.map_map]
      conv=>rhs;rw [← List.map_id v.l]
      exact List.map_congr_left fun w hw=>ih (L.of (by omega)) (g3 w hw)
    rw [if_neg h10]
    by_cases h9:v.kind=9
    · rw [if_pos h9]
      obtain ⟨g1,g2,f,w,g3,g4,g5⟩:=fk9 hfk (by omega)
      have gl:=(List.getElem?_eq_some_iff.1 g3).1
      have hlen:=L.len
      rw [if_neg (by omega)]
      obtain ⟨g,hg⟩:∃ g,y.fields[v.n.toNat]?=some g:=⟨_,List.getElem?_eq_getElem (by omega)⟩
      have e:pch (prj h a.types b.types) x y v=Val.mk v.kind v.n v.b [prj h a.types b.types f.ty g.ty w] 0 []:=by
        unfold pch
        rw [g3,hg,g4];rfl
      rw [e,bk]
      unfold prjK
      generalize hz:Val.mk v.kind v.n v.b [prj h a.types b.types f.ty g.ty w] 0 []=z
      have zk:z.kind=v.kind:=by rw [← hz];rfl
      have zn:z.n=v.n:=by rw [← hz];rfl
      have zb:z.b=v.b:=by rw [← hz];rfl
      have zl:z.l=[prj h a.types b.types f.ty g.ty w]:=by rw [← hz];rfl
      rw [if_neg (by rw [zk];exact h3),if_neg (by rw [zk];exact h10),if_pos (by rw [zk];exact h9),if_neg (by rw [zn];omega)]
      unfold pch
      rw [zn,hg,g3,zl,zk,zb]
      show Val.mk v.kind v.n v.b [prj h b.types a.types g.ty f.ty (prj h a.types b.types f.ty g.ty w)] 0 []=v
      refine fin ?_
      rw [ih (L.fld _ f g g3 hg).2.2.2.2 g5,g4]
    rw [if_neg h9]
    by_cases h78:v.kind=7 ∨ v.kind=8
    · rw [if_pos h78,bk]
      obtain ⟨g1,g2,g3,g4,g5⟩:=fk78 hfk (by omega)
      have hlen:=L.len
      unfold prjK
      generalize hz:Val.mk v.kind v.n v.b ((List.range y.fields.length).map (pfl (prj h a.types b.types) x y v.l)) 0 []=z
      have zk:z.kind=v.kind:=by rw [← hz];rfl
      have zn:z.n=v.n:=by rw [← hz];rfl
      have zb:z.b=v.b:=by rw [← hz];rfl
      have zl:z.l=(List.range y.fields.length).map (pfl (prj h a.types b.types) x y v.l):=by rw [← hz];rfl
      rw [if_neg (by rw [zk];exact h3),if_neg (by rw [zk];exact h10),if_neg (by rw [zk];exact h9),if_pos (by rw [zk];exact h78),zk,zn,zb,zl]
      refine fin ?_
      refine List.ext_getElem? fun q=>?_
      rcases Nat.lt_or_ge q x.fields.length with hq | hq
      · obtain ⟨f,hf⟩:∃ f,x.fields[q]?=some f:=⟨_,List.getElem?_eq_getElem hq⟩
        obtain ⟨g,hg⟩:∃ g,y.fields[q]?=some g:=⟨_,List.getElem?_eq_getElem (by omega)⟩
        obtain ⟨w,hw⟩:∃ w,v.l[q]?=some w:=⟨_,List.getElem?_eq_getElem (by omega)⟩
        rw [zgr hq,hw,zky hg hf (zgr (by omega)),zky hf hg hw]
        rcases g4 q f w hf hw with ⟨e1,e2,e3⟩ | ⟨e1,e2,e3⟩
        · rw [if_pos e1,e2];rfl
        · have l5:=(L.fld q f g hf hg).2.2.2.2
          rw [if_neg e1,if_neg (zm1 (zoj ha hb l5).1 e1),ih l5 e2]
      · rw [List.getElem?_eq_none (by rw [List.length_map,List.length_range];exact hq),List.getElem?_eq_none (by omega)]
    · rw [if_neg h78]
      obtain ⟨hl,_,_⟩:=fkl (y:=y) (G:=fun _ _=>True) hfk (by omega) (by omega) (by omega) (by omega) L.kind L.con
      rw [bk]
      unfold prjK
      generalize hz:Val.mk v.kind v.n v.b [] 0 []=z
      have zk:z.kind=v.kind:=by rw [← hz];rfl
      have zn:z.n=v.n:=by rw [← hz];rfl
      have zb:z.b=v.b:=by rw [← hz];rfl
      rw [if_neg (by rw [zk];exact h3),if_neg (by rw [zk];exact h10),if_neg (by rw [zk];exact h9),if_neg (by rw [zk];exact h78),zk,zn,zb]
      exact fin hl.symm

/-! ### How much there is -/
theorem zii:∀ (l:List Val) (n:Nat) (f:Nat→Val),n ≤ l.length→(∀ q w,q < n→l[q]?=some w→cnt (f q) ≤ cnt w)→(((List.range n).map f).map cnt).sum ≤ (l.map cnt).sum
  | l,0,_,_,_=>Nat.zero_le _
  | [],n + 1,_,h,_=>by simp at h
  | w :: r,n + 1,f,h,hf=>by
    rw [List.range_succ_eq_map,List.map_cons,List.map_cons,List.sum_cons,List.map_cons,List.sum_cons,(List.map_map:((List.range n).map Nat.succ).map f=_)]
    have h1:=hf 0 w (by omega) rfl
    have h2:=zii r n (f ∘ Nat.succ) (by simp only [List.length_cons] at h;omega) fun q w' hq hw=>hf (q + 1) w' (by omega) hw
    omega
theorem zko:∀ (l:List Val) (f:Val→Val),(∀ w ∈ l,cnt (f w) ≤ cnt w)→((l.map f).map cnt).sum ≤ (l.map cnt).sum
  | [],_,_=>Nat.le_refl _
  | w :: r,f,h=>by
    simp only [List.map_cons,List.sum_cons]
    have h1:=h w List.mem_cons_self
    have h2:=zko r f fun w' hw=>h w' (List.mem_cons_of_mem _ hw)
    omega
theorem zhn (k n:Int) (b:List UInt8) (l:List Val) (r:Int) (m:List Raw):cnt (Val.mk k n b l r m)=1 + (l.map cnt).sum:=zeD _
theorem zup:cnt u12=1:=zhn ..
theorem zqw:cnt zeroV=1:=zhn ..
theorem zsQ {a b:GTab} (ha:TabOk a) (hb:TabOk b):∀ {h:Nat} {i k:Int} {v:Val},ext h a.types b.types i k=true→FitB b.types h k v→cnt (prj h b.types a.types k i v) ≤ cnt v:=by
  intro h
  induction h with
  | zero=>intro i k v _ hf;exact hf.elim
  | succ h ih =>
    intro i k v he hfitB
    obtain ⟨x,y,hx,hy,L⟩:=zhT ha hb he
    obtain ⟨y',hy',hfit⟩:=hfitB
    rw [hy] at hy';cases hy'
    have hp:=zc5 v
    rcases hfit with ⟨hv,h1,h2⟩ | ⟨h12,hk,hr,hm,hfk⟩
    · subst hv;rw [ziQ];exact Nat.le_refl _
    have hu:cnt u12 ≤ cnt v:=by rw [zup];exact hp
    have hn:cnt (Val.mk v.kind v.n v.b [] 0 []) ≤ cnt v:=by rw [zhn];exact hp
    rw [zgV h12 hy hx]
    unfold prjK
    split
    · split
      · exact hn
      · exact hu
    split
    · obtain ⟨_,_,g3⟩:=fk10 hfk (by omega)
      have:=zko v.l (prj h b.types a.types y.of x.of) fun w hw=>ih (L.of (by have:=L.kind;omega)) (g3 w hw)
      rw [zhn,zeD v];omega
    split
    · split
      · exact hu
      · obtain ⟨g1,g2,g,w,g3,g4,g5⟩:=fk9 hfk (by omega)
        unfold pch
        split
        · rename_i g' f w' e1 e2 e3
          rw [g3] at e1;cases e1
          rw [g4] at e3;cases e3
          have:=ih (L.fld _ f g e2 g3).2.2.2.2 g5
          rw [zhn,zeD v,g4]
          simp only [List.map_cons,List.map_nil,List.sum_cons,List.sum_nil]
          omega
        · exact hu
    split
    · obtain ⟨g1,g2,g3,g4,g5⟩:=fk78 hfk (by omega)
      have hlen:=L.len
      have:=zii v.l x.fields.length (pfl (prj h b.types a.types) y x v.l) (by omega) fun q w hq hw=>by
        obtain ⟨f,hf⟩:∃ f,x.fields[q]?=some f:=⟨_,List.getElem?_eq_getElem hq⟩
        obtain ⟨g,hg⟩:∃ g,y.fields[q]?=some g:=⟨_,List.getElem?_eq_getElem (by omega)⟩
        rw [zky hg hf hw]
        rcases g4 q g w hg hw with ⟨e1,e2,e3⟩ | ⟨e1,e2,e3⟩
        · rw [if_pos e1,zqw];exact zc5 w
        · rw [if_neg e1];exact ih (L.fld q f g hf hg).2.2.2.2 e2
      rw [zhn,zeD v];omega
    · exact hn
theorem zs5 {a b:GTab} (ha:TabOk a) (hb:TabOk b):∀ {h:Nat} {i k:Int} {v:Val},ext h a.types b.types i k=true→FitB b.types h k v→cnt (prj h a.types b.types i k (prj h b.types a.types k i v)) ≤ cnt v:=by
  intro h
  induction h with
  | zero=>intro i k v _ hf;exact hf.elim
  | succ h ih =>
    intro i k v he hfitB
    obtain ⟨x,y,hx,hy,L⟩:=zhT ha hb he
    obtain ⟨y',hy',hfit⟩:=hfitB
    rw [hy] at hy';cases hy'
    have hp:=zc5 v
    rcases hfit with ⟨hv,h1,h2⟩ | ⟨h12,hk,hr,hm,hfk⟩
    · subst hv;rw [ziQ,ziQ];exact Nat.le_refl _
    have hu:cnt u12 ≤ cnt v:=by rw [zup];exact hp
    have huu:cnt (prj (h + 1) a.types b.types i k u12) ≤ cnt v:=by rw [ziQ];exact hu
    have hn:∀ n b,cnt (Val.mk v.kind n b [] 0 []) ≤ cnt v:=fun n b=>by rw [zhn];exact hp
    have bk:∀ l,prj (h + 1) a.types b.types i k (Val.mk v.kind v.n v.b l 0 [])=prjK (prj h a.types b.types) x y (Val.mk v.kind v.n v.b l 0 []):=fun l=>zgV h12 hx hy
    rw [zgV h12 hy hx]
    conv in prjK (prj h b.types a.types) y x v=>unfold prjK
    by_cases h3:v.kind=3
    · rw [if_pos h3]
      split
      · rw [bk]
        unfold prjK
        rw [if_pos (show (Val.mk v.kind v.n v.b [] 0 []).kind=3 from h3)]
        split
        · exact hn _ _
        · exact hu
      · exact huu
    rw [if_neg h3]
    by_cases h10:v.kind=10
    · rw [if_pos h10,bk]
      obtain ⟨g1,g2,g3⟩:=fk10 hfk (by omega)
      unfold prjK
      rw [if_neg (show ¬ (Val.mk v.kind v.n v.b (v.l.map (prj h b.types a.types y.of x.of)) 0 []).kind=3 from h3),if_pos (show (Val.mk v.kind v.n v.b (v.l.map (prj h b.types a.types y.of x.of)) 0 []).kind=10 from h10)]
      rw [zhn,zeD v]
      show 1 + (((v.l.map (prj h b.types a.types y.of x.of)).map (prj h a.types b.types x.of y.of)).map cnt).sum ≤ _
      rw [(List.map_map:(v.l.map (prj h b.types a.types y.of x.of)).map (prj h a.types b.types x.of y.of)=_)]
      have:=zko v.l (prj h a.types b.types x.of y.of ∘ prj h b.types a.types y.of x.of) fun w hw=>ih (L.of (by have:=L.kind;omega)) (g3 w hw)
      omega
    rw [if_neg h10]
    by_cases h9:v.kind=9
    · rw [if_pos h9]
      split
      · exact huu
      · obtain ⟨g1,g2,g,w,g3,g4,g5⟩:=fk9 hfk (by omega)
        have gl:=(List.getElem?_eq_some_iff.1 g3).1
        obtain ⟨f,hf⟩:∃ f,x.fields[v.n.toNat]?=some f:=⟨_,List.getElem?_eq_getElem (by omega)⟩
        have e:pch (prj h b.types a.types) y x v=Val.mk v.kind v.n v.b [prj h b.types a.types g.ty f.ty w] 0 []:=by
          unfold pch
          rw [g3,hf,g4];rfl
        rw [e,bk]
        unfold prjK
        generalize hz:Val.mk v.kind v.n v.b [prj h b.types a.types g.ty f.ty w] 0 []=z
        have zk:z.kind=v.kind:=by rw [← hz];rfl
        have zn:z.n=v.n:=by rw [← hz];rfl
        have zl:z.l=[prj h b.types a.types g.ty f.ty w]:=by rw [← hz];rfl
        rw [if_neg (by rw [zk];exact h3),if_neg (by rw [zk];exact h10),if_pos (by rw [zk];exact h9),if_neg (by rw [zn];omega)]
        unfold pch
        rw [zn,hf,g3,zl]
        show cnt (Val.mk z.kind v.n z.b [prj h a.types b.types f.ty g.ty (prj h b.types a.types g.ty f.ty w)] 0 []) ≤ _
        have:=ih (L.fld _ f g hf g3).2.2.2.2 g5
        rw [zhn,zeD v,g4]
        simp only [List.map_cons,List.map_nil,List.sum_cons,List.sum_nil]
        omega
    rw [if_neg h9]
    by_cases h78:v.kind=7 ∨ v.kind=8
    · rw [if_pos h78,bk]
      obtain ⟨g1,g2,g3,g4,g5⟩:=fk78 hfk (by omega)
      have hlen:=L.len
      unfold prjK
      generalize hz:Val.mk v.kind v.n v.b ((List.range x.fields.length).map (pfl (prj h b.types a.types) y x v.l)) 0 []=z
      have zk:z.kind=v.kind:=by rw [← hz];rfl
      have zl:z.l=(List.range x.fields.length).map (pfl (prj h b.types a.types) y x v.l):=by rw [← hz];rfl
      rw [if_neg (by rw [zk];exact h3),if_neg (by rw [zk];exact h10),if_neg (by rw [zk];exact h9),if_pos (by rw [zk];exact h78),zl]
      have := zii v.l y.fields.length (pfl (prj h a.types b.types) x y ((List.range x.fields.length).map (pfl (prj h b.types a.types) y x v.l))) (by omega) fun q w hq hw=>by
        rcases Nat.lt_or_ge q x.fields.length with hqx | hqx
        · obtain ⟨f,hf⟩:∃ f,x.fields[q]?=some f:=⟨_,List.getElem?_eq_getElem hqx⟩
          obtain ⟨g,hg⟩:∃ g,y.fields[q]?=some g:=⟨_,List.getElem?_eq_getElem hq⟩
          rw [zky hf hg (zgr hqx),zky hg hf hw]
          rcases g4 q g w hg hw with ⟨e1,e2,e3⟩ | ⟨e1,e2,e3⟩
          · rw [if_pos e1]
            show cnt (if (0:Int)=0 then zeroV else _) ≤ _
            rw [if_pos rfl,zqw];exact zc5 w
          · rw [if_neg e1]
            split
            · rw [zqw];exact zc5 w
            · exact ih (L.fld q f g hf hg).2.2.2.2 e2
        · rw [zmp (List.getElem?_eq_none hqx),zqw];exact zc5 w
      rw [zhn,zeD v];omega
    · rw [if_neg h78,bk]
      unfold prjK
      generalize hz:Val.mk v.kind v.n v.b [] 0 []=z
      have zk:z.kind=v.kind:=by rw [← hz];rfl
      rw [if_neg (by rw [zk];exact h3),if_neg (by rw [zk];exact h10),if_neg (by rw [zk];exact h9),if_neg (by rw [zk];exact h78),zk]
      exact hn _ _
end Go.Proofs.Q


namespace Go.Proofs.Q
open Go.Sy
set_option linter.unusedVariables false

theorem zsD {t:GTab} (ht:TabOk t) {b:Bool} (hbt:b=true):∀ {h n:Nat} {i:Int} {v:Val} {d:Int},0 ≤ d→d + h=18→6 * h + 6 ≤ n→Fine v→cnt v ≤ 100000→FitB t.types h i v→zaO n (zl9 t b) i (strip v) d=some (true,zl9 t b):=by
  intro h
  induction h with
  | zero=>intro n i v d _ _ _ _ _ hf;exact hf.elim
  | succ h ih =>
    intro n i v d d0 hd hn hf hc hfit
    obtain ⟨n,rfl⟩:∃ n',n=n' + 6:=⟨n - 6,by omega⟩
    obtain ⟨x,hx0,hfk⟩:=hfit
    obtain ⟨i0,i1,hx⟩:=zg9 hx0
    have htl:=ht.types
    have hvl:=hf.l
    have hlt:=(List.getElem?_eq_some_iff.1 hx).1
    obtain ⟨j,hj⟩:=SubT.sub ht.kids i.toNat (by omega) (by omega)
    have hjl:=hj.inb
    obtain ⟨x',hx',hok,hkid⟩:=hj
    rw [hx] at hx';cases hx'
    have hfl:=zf3 hkid hjl (by omega)
    have hil:=hok.ilen
    have eg:getI t.types i=some x:=by rw [zdB i0 (by omega)];exact congrArg some (List.getElem?_eq_some_iff.1 hx).2
    rcases hfk with ⟨hv,u1,u2⟩ | ⟨hk12,hkk,_,_,hfk⟩
    · subst hv
      rw [show strip u12=u12 by rw [zgA];rfl]
      refine T.eqs ?_
      show T _ (zbp (za1 (n + 5)) (zaO (n + 5)) (zbq (n + 5)) (zaf (n + 5)) (zai (n + 5)) (za3 (n + 5)) (zl9 t b) i u12 d)
      unfold zbp
      refine T.or' (T.or' (T.br (fun hq=>?_) fun _=>?_))
      · rw [Bool.or_eq_true,Bool.or_eq_true] at hq
        rcases hq with (hq | hq) | hq
        · have:=zOT hq;omega
        · have:=zOT hq
          have:(t.types.length:Int) ≤ i:=this
          omega
        · have:=zOT hq;omega
      refine T.eq eg (T.br (fun _=>?_) fun h=>absurd (zOF h) (by decide))
      refine T.eq (y:=(true,zl9 t b)) ?_ (T.some rfl)
      refine T.eqs ?_
      unfold zcF
      refine T.eq eg ?_
      refine T.jp (fun q=>q=false) (fun J kk=>T.br (fun h=>by rw [u1] at h;cases h) fun _=>T.jp (fun q=>q=false) (fun J2 k2=>T.br (fun h9=>k2 _ ?_) fun _=>k2 _ rfl) fun q hq=>by rw [hq];exact kk _ rfl) fun q hq=>?_
      · have h9:¬ x.kind=9:=by simpa using h9
        rw [zDT (u2.resolve_left h9)];rfl
      subst hq
      refine T.jp (fun q=>q=false) (fun J kk=>T.br (fun h=>by cases h) fun _=>T.ck (by decide) (kk _ rfl)) fun q hq=>?_
      subst hq
      refine T.br (fun h=>by cases h) fun _=>T.br (fun _=>?_) fun h=>?_
      · exact T.and' (T.and' (T.some rfl))
      · subst hbt;cases h
    have es:=zga hk12
    have esl:(strip v).l=v.l.map strip:=by rw [es];rfl
    have esk:(strip v).kind=v.kind:=ziB v
    have esn:(strip v).n=v.n:=by rw [es];rfl
    have esb:(strip v).b=v.b:=by rw [es];rfl
    refine T.eqs ?_
    show T _ (zbp (za1 (n + 5)) (zaO (n + 5)) (zbq (n + 5)) (zaf (n + 5)) (zai (n + 5)) (za3 (n + 5)) (zl9 t b) i (strip v) d)
    unfold zbp
    refine T.or' (T.or' (T.br (fun hq=>?_) fun _=>?_))
    · rw [Bool.or_eq_true,Bool.or_eq_true] at hq
      rcases hq with (hq | hq) | hq
      · have:=zOT hq;omega
      · have:=zOT hq
        have:(t.types.length:Int) ≤ i:=this
        omega
      · have:=zOT hq;omega
    refine T.eq eg (T.br (fun h=>absurd (zOT h) (by rw [esk];exact hk12)) fun _=>T.br (fun h=>?_) fun _=>?_)
    · rw [esk,hkk] at h
      simp at h
    have P:∀ {n' b' l' m':Bool},pln v n' b' l' m'=true→∀ m2,pln (strip v) n' b' l' m2=true:=fun h m2=>zrx hk12 h
    rcases hfk with ⟨k,h1,h2⟩ | ⟨k,h1,h2⟩ | ⟨k,h1,h2⟩ | ⟨k,h1⟩ | ⟨k,h1,h2,h3,h4⟩ | ⟨k,h1,h2,h3⟩ | ⟨k,h1,h2,f,w,h3,h4,h5⟩ | ⟨k,h1,h2,h3,h4,h5⟩
    · refine T.br (fun _=>?_) fun h=>absurd k (zOF h)
      refine T.eq (zea _ _ (by decide)) (T.andJ (d:=decide ((strip v).n=0) || decide ((strip v).n=1)) (fun J hh=>T.or' hh) (T.some ?_))
      have e:pln (strip v) (!decide (andI 1 1=0)) (!decide (andI 1 2=0)) (!decide (andI 1 4=0)) (!decide (andI 1 8=0))=true:=P h1 false
      rw [e,esn,h2];rfl
    · refine T.br (fun h=>absurd (zOT h) (by rw [k];decide)) fun _=>T.br (fun _=>?_) fun h=>absurd k (zOF h)
      refine T.eq (zea _ _ (by decide)) (T.andJ (d:=x.con.more || wthn x.con (strip v).n) (fun J hh=>T.orJ (d:=wthn x.con (strip v).n) (fun J2 h2=>T.eq (zkC _ _) h2) hh) (T.some ?_))
      have e:pln (strip v) (!decide (andI 1 1=0)) (!decide (andI 1 2=0)) (!decide (andI 1 4=0)) (!decide (andI 1 8=0))=true:=P h1 false
      rw [e,esn,h2];rfl
    · refine T.br (fun h=>absurd (zOT h) (by rw [k];decide)) fun _=>T.br (fun h=>absurd (zOT h) (by rw [k];decide)) fun _=>T.br (fun _=>?_) fun h=>absurd k (zOF h)
      have e:pln (strip v) (!decide (andI 1 1=0)) (!decide (andI 1 2=0)) (!decide (andI 1 4=0)) (!decide (andI 1 8=0))=true:=P h1 false
      refine T.eq (zea _ _ (by decide)) (T.jp (fun b=>b=true) (fun J hh=>T.br (fun _=>?_) fun h=>by rw [e] at h;cases h) fun b hb=>T.some (by rw [hb]))
      refine T.cal (zta x (strip v).n (by omega) (by rw [esn];exact h2)) fun r _ hr=>hh _ (zDT hr)
    · refine T.br (fun h=>absurd (zOT h) (by rw [k];decide)) fun _=>T.br (fun h=>absurd (zOT h) (by rw [k];decide)) fun _=>T.br (fun h=>absurd (zOT h) (by rw [k];decide)) fun _=>T.br (fun _=>?_) fun h=>absurd k (zOF h)
      have e:pln (strip v) (!decide (andI 0 1=0)) (!decide (andI 0 2=0)) (!decide (andI 0 4=0)) (!decide (andI 0 8=0))=true:=P h1 false
      exact T.eq (zea _ _ (by decide)) (T.some (by rw [e]))
    all_goals refine T.br (fun h=>absurd (zOT h) (by omega)) fun _=>T.br (fun h=>absurd (zOT h) (by omega)) fun _=>T.br (fun h=>absurd (zOT h) (by omega)) fun _=>T.br (fun h=>absurd (zOT h) (by omega)) fun _=>?_
    · refine T.jp (fun b=>b=true) (fun J kk=>T.br (fun h=>kk _ h) fun h=>kk _ (zDT (k.resolve_left (zOF h)))) fun b56 hb56=>?_
      subst hb56
      refine T.br (fun _=>?_) fun h=>by cases h
      refine T.eq (y:=(true,zl9 t b)) ?_ (T.some rfl)
      refine T.eqs ?_
      unfold zcM
      have e:pln (strip v) (!decide (andI 2 1=0)) (!decide (andI 2 2=0)) (!decide (andI 2 4=0)) (!decide (andI 2 8=0))=true:=P h1 false
      refine T.eq (zea _ _ (by decide)) (T.and' (T.andJ (d:=x.con.more || wthn x.con ((strip v).b.length:Int)) (fun J hh=>T.orJ (d:=wthn x.con ((strip v).b.length:Int)) (fun J2 h2=>T.eq (zkC _ _) h2) hh) ?_))
      rw [e,esb,h3,zDT h2]
      refine T.jp (fun b=>b=true) (fun J kk=>T.br (fun _=>?_) fun h=>by cases h) fun c hc=>T.some (by rw [hc])
      refine T.jp (fun b=>b=true) (fun J2 k2=>T.br (fun h5=>k2 _ rfl) fun h5=>T.eq (h4.resolve_left (zOF h5)) (k2 _ rfl)) fun c hc=>kk _ hc
    all_goals refine T.jp (fun b=>b=false) (fun J kk=>T.br (fun h=>absurd (zOT h) (by omega)) fun h=>kk _ (zDF (by omega))) fun b56 hb56=>T.br (fun h=>by rw [hb56] at h;cases h) fun _=>?_
    · refine T.br (fun _=>?_) fun h=>absurd k (zOF h)
      refine T.eq (y:=(true,zl9 t b)) ?_ (T.some rfl)
      refine T.eqs ?_
      show T _ (zce (za1 (n + 4)) (zaO (n + 4)) (zbq (n + 4)) (zaf (n + 4)) (zai (n + 4)) (za3 (n + 4)) (zl9 t b) x (strip v) d)
      unfold zce
      have e:pln (strip v) (!decide (andI 4 1=0)) (!decide (andI 4 2=0)) (!decide (andI 4 4=0)) (!decide (andI 4 8=0))=true:=P h1 false
      refine T.eq (zea _ _ (by decide)) (T.andJ (d:=x.con.more || wthn x.con ((strip v).l.length:Int)) (fun J hh=>T.orJ (d:=wthn x.con ((strip v).l.length:Int)) (fun J2 h2=>T.eq (zkC _ _) h2) hh) ?_)
      rw [e,esl,List.length_map,h2]
      refine T.jp (ι:=Bool × GChk) (fun p=>p=(true,zl9 t b)) (fun J kk=>T.br (fun _=>?_) fun h=>by cases h) fun p hp=>T.some (by rw [hp])
      refine T.eq (y:=(false,zl9 t b)) ?_ (kk _ rfl)
      refine T.eqs ?_
      show T _ (zav (za1 (n + 3)) (zaO (n + 3)) (zbq (n + 3)) (zaf (n + 3)) (zai (n + 3)) (za3 (n + 3)) (v.l.map strip) (zl9 t b) x d)
      unfold zav
      refine T.eq (y:=((-1:Int),zl9 t b)) ?_ (T.some rfl)
      refine T.eqs ?_
      show T _ (zaE (za1 (n + 2)) (zaO (n + 2)) (zbq (n + 2)) (zaf (n + 2)) (zai (n + 2)) (za3 (n + 2)) (v.l.map strip) (zl9 t b) x d)
      unfold zaE
      refine T.lp (ι:=Int × GChk) (fun q=>0 ≤ q.1∧q.1 ≤ (v.l.length:Int)∧q.2=zl9 t b) (fun q=>((v.l.length:Int) - q.1).toNat) ⟨Int.le_refl _,by dsimp only;omega,rfl⟩ (by dsimp only;omega) fun L q ⟨q1,q2,q3⟩ hL=>T.br (fun hb2=>?_) fun _=>T.some (by rw [q3])
      obtain ⟨q,c⟩:=q
      dsimp only at q1 q2 q3 hL hb2 ⊢
      subst q3
      have hb2:=zOT hb2
      rw [List.length_map] at hb2
      refine T.get q1 (by rw [List.length_map];exact hb2) fun y hy=>?_
      rw [List.getElem?_map] at hy
      obtain ⟨w,hw1,hw2⟩:=Option.map_eq_some_iff.1 hy
      subst hw2
      have hwm:=List.mem_of_getElem? hw1
      refine T.eq (y:=(false,zl9 t b)) ?_ (T.br (fun h=>by cases h) fun _=>T.ck (by omega) (hL _ ⟨by dsimp only;omega,by dsimp only;omega,rfl⟩ (by dsimp only;omega)))
      refine T.eqs ?_
      show T _ (zbL (za1 (n + 1)) (zaO (n + 1)) (zbq (n + 1)) (zaf (n + 1)) (zai (n + 1)) (za3 (n + 1)) (strip w) (zl9 t b) x d)
      unfold zbL
      exact T.ck (by omega) (T.eq (ih (by omega) (by omega) (by omega) (hf.kid w hwm) (by have:=zcN hwm;omega) (h3 w hwm)) (T.some rfl))
    · refine T.br (fun h=>absurd (zOT h) (by omega)) fun _=>T.br (fun _=>?_) fun h=>absurd k (zOF h)
      have e:pln (strip v) (!decide (andI 5 1=0)) (!decide (andI 5 2=0)) (!decide (andI 5 4=0)) (!decide (andI 5 8=0))=true:=P h1 false
      have hnl:=(List.getElem?_eq_some_iff.1 h3).1
      have hl1:(strip v).l=[strip w]:=by rw [esl,h4];rfl
      have hwm:w ∈ v.l:=by rw [h4];exact List.mem_singleton.2 rfl
      refine T.eq (zea _ _ (by decide)) (T.and' (T.and' (T.and' ?_)))
      rw [e,esn,hl1,zDT h2,zDT (show v.n < (x.fields.length:Int) by omega)]
      refine T.jp (ι:=Bool × GChk) (fun p=>p=(true,zl9 t b)) (fun J kk=>T.br (fun _=>?_) fun h=>by cases h) fun p hp=>T.some (by rw [hp])
      refine T.get h2 (by omega) fun f' hf'=>?_
      rw [h3] at hf';cases hf'
      refine T.eq (y:=strip w) rfl (T.ck (by omega) (T.eq (ih (by omega) (by omega) (by omega) (hf.kid w hwm) (by have:=zcN hwm;omega) h5) (kk _ rfl)))
    · refine T.br (fun h=>absurd (zOT h) (by omega)) fun _=>T.br (fun h=>absurd (zOT h) (by omega)) fun _=>?_
      refine T.jp (fun b=>b=true) (fun J kk=>T.br (fun h=>kk _ h) fun h=>kk _ (zDT (k.resolve_left (zOF h)))) fun b78 hb78=>?_
      subst hb78
      refine T.br (fun _=>?_) fun h=>by cases h
      refine T.eq (y:=(true,zl9 t b)) ?_ (T.some rfl)
      refine T.eqs ?_
      show T _ (zbO (za1 (n + 4)) (zaO (n + 4)) (zbq (n + 4)) (zaf (n + 4)) (zai (n + 4)) (za3 (n + 4)) (zl9 t b) i (strip v) d)
      unfold zbO
      have e:pln (strip v) (!decide (andI 12 1=0)) (!decide (andI 12 2=0)) (!decide (andI 12 4=0)) (!decide (andI 12 8=0))=true:=P h1 true
      refine T.eq eg (T.eq (zea _ _ (by decide)) (T.or' ?_))
      rw [e,esl,List.length_map,h3,zDT rfl]
      refine T.jp (ι:=Bool × GChk) (fun p=>p=(false,zl9 t b)) (fun J kk=>T.br (fun h=>by cases h) fun _=>T.eq (y:=(true,zl9 t b)) ?_ (kk _ rfl)) fun p hp=>?_
      · refine T.eqs ?_
        unfold zdo
        refine T.eq eg (T.br (fun _=>T.some ?_) fun h=>?_)
        · rw [es];rfl
        · rw [es] at h;cases h
      subst hp
      refine T.br (fun h=>by cases h) fun _=>?_
      refine T.lp (ι:=Int × GChk) (fun q=>0 ≤ q.1∧q.1 ≤ (x.fields.length:Int)∧q.2=zl9 t b) (fun q=>((x.fields.length:Int) - q.1).toNat) ⟨Int.le_refl _,by dsimp only;omega,rfl⟩ (by dsimp only;omega) fun L q ⟨q1,q2,q3⟩ hL=>?_
      obtain ⟨q,c⟩:=q
      dsimp only at q1 q2 q3 hL ⊢
      subst q3
      refine T.br (fun hb2=>?_) fun _=>?_
      · have hb2:=zOT hb2
        refine T.jp (ι:=GChk) (fun p=>p=zl9 t b) (fun J kk=>?_) fun p hp=>T.ck (by omega) (hL _ ⟨by dsimp only;omega,by dsimp only;omega,hp⟩ (by dsimp only;omega))
        refine T.get q1 hb2 fun f hff=>T.get q1 (by rw [List.length_map];omega) fun y hy=>?_
        rw [List.getElem?_map] at hy
        obtain ⟨w,hw1,hw2⟩:=Option.map_eq_some_iff.1 hy
        subst hw2
        have hwm:=List.mem_of_getElem? hw1
        have hfw:=h4 q.toNat f w hff hw1
        have hcw:=zcN hwm
        rw [ziB w]
        refine T.br (fun hz=>?_) fun hz=>?_
        · have hz:=zOT hz
          obtain ⟨_,z1,z2⟩:=hfw.resolve_right fun h=>h.1 hz
          rw [z1,zis]
          refine T.eq (zlO _) ?_
          have ea:(decide (zeroV.kind=0) && pln zeroV false false false false)=true:=rfl
          rw [ea]
          have el:(f.optional || f.has || decide (x.root ≤ q))=true:=by
            rcases z2 with z2 | z2 | z2
            · rw [z2];rfl
            · rw [z2];simp
            · rw [zDT (show x.root ≤ q by omega)];simp
          refine T.orJ (d:=false) (fun J2 hh=>T.eq (zry q1 hff) (by rw [el];exact hh)) (T.br (fun h=>by cases h) fun _=>kk _ rfl)
        · have hz:=zOF hz
          obtain ⟨_,z1,z2⟩:=hfw.resolve_left fun h=>hz h.1
          refine T.ck (by omega) (T.eq (ih (by omega) (by omega) (by omega) (hf.kid w hwm) (by omega) z1) ?_)
          have hdk:=hok.dflt f (List.mem_of_getElem? hff)
          have hne:f.has=true→strip w ≠ f.dflt:=fun hh e=>z2 hh ((zkn z1).symm.trans e)
          refine T.orJ (d:=false) (fun J2 hh=>T.jp (fun b=>b=false) (fun J3 k3=>T.br (fun h1=>?_) fun _=>k3 _ rfl) fun b hb=>by rw [hb];exact hh) (T.br (fun h=>by cases h) fun _=>kk _ rfl)
          refine T.cal (znK (k:=100000) (n:=fuel) (by have:=zrK 100000 w (by omega);omega) (by unfold fuel;omega) (zqh 100000 w (by omega) (hf.kid w hwm)) _) fun r _ hr=>k3 _ ?_
          cases r with
          | true=>exact absurd (hr.1 rfl) (hne h1)
          | false=>rfl
      · refine T.eq (zpP ht (v:=strip v) i0 hx k (by rw [esl,List.length_map,h3]) (fun w hw hz=>?_) (fun s hs=>?_) hfl hok.root0) (T.some rfl)
        · rw [esl] at hw
          obtain ⟨w',hw1,hw2⟩:=List.mem_map.1 hw
          subst hw2
          rw [ziB] at hz
          obtain ⟨k',hk'⟩:=List.mem_iff_getElem?.1 hw1
          have:=(List.getElem?_eq_some_iff.1 hk').1
          obtain ⟨f,hff⟩:∃ f,x.fields[k']?=some f:=⟨_,List.getElem?_eq_getElem (by omega)⟩
          obtain ⟨_,z1,_⟩:=(h4 k' f w' hff hk').resolve_right fun h=>h.1 hz
          rw [z1];exact zis
        · have:=h5 s hs
          have et:thr (strip v)=thr v:=by
            funext k
            unfold thr
            rw [esl,List.getElem?_map]
            cases v.l[k.toNat]? with
            | none=>rfl
            | some w=>show (!decide ((strip w).kind=0))=_;rw [ziB]
          unfold Grp lck at this ⊢
          rw [et]
          exact this
end Go.Proofs.Q


namespace Go.Proofs.Q
open Go.Sy
set_option linter.unusedVariables false

theorem tx {β:Type} {o:Option β} {x:β} (h:T (fun r=>r=x) o):o=some x:=by
  obtain ⟨r,h1,h2⟩:=h;rw [h1,h2]
def hd:List UInt8→UInt8
  | []=>0
  | c :: _=>c
theorem ztN (b:List UInt8) (n:Nat):hd (b.drop n)=(b[n]?).getD 0:=by
  rcases Nat.lt_or_ge n b.length with h | h
  · rw [List.drop_eq_getElem_cons h,List.getElem?_eq_getElem h];rfl
  · rw [List.drop_eq_nil_of_le h,List.getElem?_eq_none h];rfl
theorem dropc {b:List UInt8} {n:Nat} {y:UInt8} (h:b[n]?=some y):b.drop n=y :: b.drop (n + 1):=by
  obtain ⟨h1,h2⟩:=List.getElem?_eq_some_iff.1 h
  rw [List.drop_eq_getElem_cons h1,h2]
theorem zl0 (s:Str) (i:Int) (h:0 ≤ i):zfu s i=some (hd (s.b.drop i.toNat)):=by
  obtain ⟨r,h1,h2⟩:=ziA s i
  rw [h1,h2,if_pos h,ztN]

/-! ### White -/
inductive Wst where
  | out
  | start
  | ins
  | fin
def isWh (c:UInt8):Bool:=decide (c=32) || decide (c=9) || decide (c=10) || decide (c=13)
def wh:Wst→List UInt8→List UInt8
  | _,[]=>[]
  | .out,c :: r=>bif isWh c then wh .out r else bif decide (c=45) && decide (hd r=45) then wh .start r else c :: r
  | .start,_ :: r=>wh .ins r
  | .ins,c :: r=>bif decide (c=10) then wh .out r else bif decide (c=45) && decide (hd r=45) then wh .fin r else wh .ins r
  | .fin,_ :: r=>wh .out r
theorem zuu {b:List UInt8} {n:Nat} (h:hd (b.drop n)=45):n < b.length:=by
  rcases Nat.lt_or_ge n b.length with h2 | h2
  · exact h2
  · rw [List.drop_eq_nil_of_le h2] at h;cases h
theorem skip1 {b:List UInt8} {n:Nat} (h:n < b.length):∃ c,b.drop n=c :: b.drop (n + 1):=⟨_,List.drop_eq_getElem_cons h⟩
theorem zsB (s:Str) (i:Int) (h0:0 ≤ i) (h1:i ≤ s.b.length) (hl:s.b.length ≤ 1000000):zfF s i=some ((s.b.length:Int) - ((wh .out (s.b.drop i.toNat)).length:Int)):=by
  refine tx ?_
  unfold zfF
  refine T.lp (fun k=>i ≤ k∧k ≤ s.b.length∧wh .out (s.b.drop k.toNat)=wh .out (s.b.drop i.toNat)) (fun k=>(s.b.length - k).toNat) ⟨Int.le_refl _,h1,rfl⟩ (by omega) fun L k ⟨k1,k2,k3⟩ hL=>?_
  rw [← k3] at hL ⊢
  refine T.br (fun hb=>?_) (fun hb=>T.some ?_)
  rotate_left
  · have hb:=zOF hb
    rw [List.drop_eq_nil_of_le (by omega)]
    simp only [wh,List.length_nil];omega
  have hb:=zOT hb
  refine T.get (by omega) hb fun y hy=>?_
  have e:=dropc hy
  have e1:(k + 1).toNat=k.toNat + 1:=by omega
  refine T.jp (fun q=>q=(decide (y=32) || decide (y=9))) (fun J h=>T.br (fun h2=>h _ (by rw [h2];rfl)) fun h2=>T.get (by omega) hb fun y' hy'=>h _ (by rw [hy] at hy';cases hy';rw [h2];rfl)) fun q hq=>?_
  refine T.jp (fun q'=>q'=(q || decide (y=10))) (fun J h=>T.br (fun h2=>h _ (by rw [h2];rfl)) fun h2=>T.get (by omega) hb fun y' hy'=>h _ (by rw [hy] at hy';cases hy';rw [h2];rfl)) fun q' hq'=>?_
  refine T.jp (fun q2=>q2=(q' || decide (y=13))) (fun J h=>T.br (fun h2=>h _ (by rw [h2];rfl)) fun h2=>T.get (by omega) hb fun y' hy'=>h _ (by rw [hy] at hy';cases hy';rw [h2];rfl)) fun q2 hq2=>?_
  have hw:q2=isWh y:=by rw [hq2,hq',hq];rfl
  refine T.br (fun h2=>T.ck (by omega) ?_) fun h2=>?_
  · refine hL _ ⟨by omega,by omega,?_⟩ (by omega)
    rw [e1,e];simp only [wh,← hw,h2,cond_true]
  refine T.get (by omega) hb fun y' hy'=>?_
  rw [hy] at hy';cases hy'
  refine T.jp (fun q=>q=(decide (y=45) && decide (hd (s.b.drop (k.toNat + 1))=45))) (fun J h=>T.br (fun h3=>T.ck (by omega) (T.eq (zl0 s _ (by omega)) (h _ (by rw [h3,e1];rfl)))) fun h3=>h _ (by rw [h3];rfl)) fun q3 hq3=>?_
  refine T.br (fun h3=>T.ck (by omega) ?_) (fun h3=>T.some ?_)
  rotate_left
  · rw [e];simp only [wh,← hw,h2,cond_false,← hq3,h3,List.length_cons,List.length_drop];omega
  have h45:hd (s.b.drop (k.toNat + 1))=45:=by rw [hq3] at h3;simpa using (Bool.and_eq_true_iff.1 h3).2
  have hlt:=zuu h45
  obtain ⟨c,ec⟩:=skip1 hlt
  have e2:(k + 2).toNat=k.toNat + 1 + 1:=by omega
  have hins:wh .out (s.b.drop k.toNat)=wh .ins (s.b.drop (k + 2).toNat):=by
    rw [e,e2];simp only [wh,← hw,h2,cond_false,← hq3,h3,cond_true];rw [ec];simp only [wh]
  refine T.lp (fun j=>k + 2 ≤ j∧j ≤ s.b.length∧wh .out (s.b.drop k.toNat)=wh .ins (s.b.drop j.toNat)) (fun j=>(s.b.length - j).toNat) ⟨Int.le_refl _,by omega,hins⟩ (by omega) fun L2 j ⟨j1,j2,j3⟩ hL2=>?_
  refine T.jp (fun q=>(q=true→j < s.b.length∧∀ y,s.b[j.toNat]?=some y→y ≠ 10)∧(q=false→wh .out (s.b.drop j.toNat)=wh .ins (s.b.drop j.toNat))) (fun J h=>T.br (fun h4=>?_) fun h4=>h _ ⟨(fun h=>by cases h),fun _=>?_⟩) fun q hq=>?_
  · have h4:=zOT h4
    refine T.get (by omega) h4 fun y2 hy2=>h _ ⟨fun h5=>⟨h4,fun y3 hy3=>?_⟩,fun h5=>?_⟩
    · rw [hy2] at hy3;cases hy3;simpa using h5
    · have h6:y2=10:=by simpa using h5
      subst h6
      rw [dropc hy2]
      simp [wh,isWh]
  · have h4:=zOF h4
    rw [List.drop_eq_nil_of_le (by omega)];simp only [wh]
  refine T.br (fun h4=>?_) (fun h4=>hL _ ⟨by omega,j2,by rw [hq.2 h4,j3]⟩ (by omega))
  obtain ⟨hj,hne⟩:=hq.1 h4
  refine T.get (by omega) hj fun y2 hy2=>?_
  have hy10:=hne y2 hy2
  have f:=dropc hy2
  have f1:(j + 1).toNat=j.toNat + 1:=by omega
  refine T.jp (fun q=>q=(decide (y2=45) && decide (hd (s.b.drop (j.toNat + 1))=45))) (fun J h=>T.br (fun h3=>T.ck (by omega) (T.eq (zl0 s _ (by omega)) (h _ (by rw [h3,f1];rfl)))) fun h3=>h _ (by rw [h3];rfl)) fun q4 hq4=>?_
  refine T.br (fun h5=>T.ck (by omega) ?_) (fun h5=>T.ck (by omega) (hL2 _ ⟨by omega,by omega,?_⟩ (by omega)))
  · have h46:hd (s.b.drop (j.toNat + 1))=45:=by rw [hq4] at h5;simpa using (Bool.and_eq_true_iff.1 h5).2
    have hlt2:=zuu h46
    obtain ⟨c2,ec2⟩:=skip1 hlt2
    have f2:(j + 2).toNat=j.toNat + 1 + 1:=by omega
    refine hL _ ⟨by omega,by omega,?_⟩ (by omega)
    rw [j3,f,f2];simp only [wh,zDF hy10,cond_false,← hq4,h5,cond_true];rw [ec2];simp only [wh]
  · rw [j3,f,f1];simp only [wh,zDF hy10,cond_false,← hq4,h5]

/-! ### Names -/
def inName (c:UInt8) (r:List UInt8):Bool:=zcg c || isDigit c || (decide (c=45) && !decide (hd r=45))
def nm:List UInt8→Nat
  | []=>0
  | c :: r=>bif inName c r then nm r + 1 else 0
theorem zqX (c:UInt8) (r:List UInt8):nm (c :: r)=bif inName c r then nm r + 1 else 0:=rfl
theorem zpl:∀ b:List UInt8,nm b ≤ b.length
  | []=>Nat.le_refl _
  | c :: r=>by
    have:=zpl r
    unfold nm
    cases inName c r <;> simp <;> omega
def nmBad (b:List UInt8):Bool:=decide ((b.take (nm b)).getLast?=some 45) || decide (60 < nm b)
theorem zr6 {b:List UInt8} {n:Nat} {y:UInt8} (hn:0 < n) (hy:b[n - 1]?=some y):(b.take n).getLast?=some y:=by
  have hlt:=(List.getElem?_eq_some_iff.1 hy).1
  rw [List.getLast?_eq_getElem?,List.length_take,List.getElem?_take,Nat.min_eq_left (by omega),if_pos (by omega),hy]
theorem ztG (s:Str) (i:Int) (h0:0 ≤ i) (h1:i < s.b.length) (hl:s.b.length ≤ 1000000) (hc:zcg (hd (s.b.drop i.toNat))=true) :
    zg2 s i=some (bif nmBad (s.b.drop i.toNat) then -1 else i + nm (s.b.drop i.toNat)):=by
  refine tx ?_
  unfold zg2
  have hi0:0 < nm (s.b.drop i.toNat):=by
    obtain ⟨c,ec⟩:=skip1 (b:=s.b) (n:=i.toNat) (by omega)
    rw [ec] at hc ⊢
    unfold nm inName
    simp only [hd] at hc
    rw [hc];simp
  refine T.lp (fun k=>i ≤ k∧k ≤ s.b.length∧(nm (s.b.drop i.toNat):Int)=k - i + nm (s.b.drop k.toNat)) (fun k=>(s.b.length - k).toNat) ⟨Int.le_refl _,by omega,by omega⟩ (by omega) fun L k ⟨k1,k2,k3⟩ hL=>?_
  refine T.jp (fun q=>(q=true→k < s.b.length∧(nm (s.b.drop i.toNat):Int)=k + 1 - i + nm (s.b.drop (k + 1).toNat))∧(q=false→(nm (s.b.drop i.toNat):Int)=k - i)) (fun J h=>?_) fun q hq=>?_
  · refine T.br (fun hb=>?_) (fun hb=>h _ ⟨(fun h=>by cases h),fun _=>by
      have:=zOF hb
      rw [List.drop_eq_nil_of_le (as:=s.b) (i:=k.toNat) (by omega)] at k3
      simpa [nm] using k3⟩)
    have hb:=zOT hb
    refine T.get (by omega) hb fun y hy=>?_
    have e:=dropc hy
    have e1:(k + 1).toNat=k.toNat + 1:=by omega
    refine T.eq (zgv y) ?_
    refine T.jp (fun q=>q=(zcg y || isDigit y)) (fun J2 h2=>T.br (fun h3=>h2 _ (by rw [h3];rfl)) fun h3=>T.get (by omega) hb fun y2 hy2=>T.eq (zeu y2) (h2 _ (by rw [hy] at hy2;cases hy2;rw [h3];rfl))) fun q hq=>?_
    refine T.jp (fun q2=>q2=inName y (s.b.drop (k.toNat + 1))) (fun J2 h2=>T.br (fun h3=>h2 _ (by unfold inName;rw [← hq,h3];rfl)) fun h3=>T.get (by omega) hb fun y2 hy2=>?_) fun q2 hq2=>?_
    · rw [hy] at hy2;cases hy2
      refine T.jp (fun q3=>q3=(decide (y=45) && !decide (hd (s.b.drop (k.toNat + 1))=45))) (fun J3 h4=>T.br (fun h5=>T.ck (by omega) (T.eq (zl0 s _ (by omega)) (h4 _ (by rw [h5,e1];rfl)))) fun h5=>h4 _ (by rw [h5];rfl)) fun q3 hq3=>h2 _ ?_
      unfold inName;rw [← hq,h3,hq3];rfl
    · rw [e,zqX] at k3
      refine h _ ⟨fun h3=>⟨hb,?_⟩,fun h3=>?_⟩
      · rw [← hq2,h3,cond_true] at k3
        rw [e1];omega
      · rw [← hq2,h3,cond_false] at k3
        omega
  refine T.br (fun hb=>T.ck (by have:=hq.1 hb;omega) (hL _ ⟨by omega,by have:=hq.1 hb;omega,(hq.1 hb).2⟩ (by have:=hq.1 hb;omega))) fun hb=>?_
  have hn:=hq.2 hb
  refine T.ck (by omega) (T.get (by omega) (by omega) fun y hy=>?_)
  have hlast:((s.b.drop i.toNat).take (nm (s.b.drop i.toNat))).getLast?=some y:=by
    refine zr6 hi0 ?_
    rw [List.getElem?_drop]
    have:i.toNat + (nm (s.b.drop i.toNat) - 1)=(k - 1).toNat:=by omega
    rw [this,hy]
  refine T.jp (fun q=>q=nmBad (s.b.drop i.toNat)) (fun J h=>T.br (fun h3=>h _ ?_) fun h3=>T.ck (by omega) (h _ ?_)) fun q hq=>?_
  · unfold nmBad
    rw [hlast]
    have:=zOT h3
    subst this;rfl
  · unfold nmBad
    rw [hlast]
    have:=zOF h3
    have e:decide (some y=some (45:UInt8))=false:=by simpa using this
    rw [e,Bool.false_or,decide_eq_decide]
    omega
  · rw [← hq]
    exact T.br (fun h3=>T.some (by rw [h3];rfl)) fun h3=>T.some (by rw [h3,cond_false];omega)
end Go.Proofs.Q


namespace Go.Proofs.Q
open Go.Sy
set_option linter.unusedVariables false

theorem seg {b:List UInt8} {i k:Nat}:(b.take k).drop i=(b.drop i).take (k - i):=by rw [List.drop_take]
theorem zs2 {b:List UInt8} {i n:Nat} {y:UInt8} (h:b[i + n]?=some y):(b.drop i)[n]?=some y:=by rw [List.getElem?_drop,h]
theorem zq9 {b:List UInt8} {n:Nat} {y:UInt8} (h:b[n]?=some y):b.take (n + 1)=b.take n ++ [y]:=by rw [List.take_add_one,h];rfl

/-! ### Numbers -/
def dg:List UInt8→Nat
  | []=>0
  | c :: r=>bif isDigit c then dg r + 1 else 0
theorem zqW (c:UInt8) (r:List UInt8):dg (c :: r)=bif isDigit c then dg r + 1 else 0:=rfl
theorem ztm:∀ b:List UInt8,dg b ≤ b.length
  | []=>Nat.le_refl _
  | c :: r=>by
    have:=ztm r
    rw [zqW]
    cases isDigit c <;> simp <;> omega
def numBad (m:Bool) (d:List UInt8):Bool :=
  decide (dg d < 1) || decide (19 < dg d) || (decide (1 < dg d) && decide (hd d=48)) || (m && decide (hd d=48)) || zcg (hd (d.drop (dg d))) ||
    decide (9223372036854775808 < uval (d.take (dg d))) || (!m && decide (uval (d.take (dg d))=9223372036854775808))
def numLen (b:List UInt8):Option Nat :=
  bif decide (hd b=45) then bif numBad true (b.drop 1) then none else some (dg (b.drop 1) + 1)
  else bif numBad false b then none else some (dg b)
theorem zq8 (s:Str) (i:Int) (h0:0 ≤ i) (h1:i < s.b.length) (hl:s.b.length ≤ 1000000) :
    zeQ s i=some (match numLen (s.b.drop i.toNat) with
      | none=>-1
      | some n=>i + (n:Int)):=by
  refine tx ?_
  unfold zeQ
  refine T.get h0 h1 fun y1 hy1=>?_
  have hd1:hd (s.b.drop i.toNat)=y1:=by rw [dropc hy1];rfl
  refine T.jp (fun f=>i ≤ f∧f ≤ i + 1∧numLen (s.b.drop i.toNat)=(bif numBad (decide (y1=45)) (s.b.drop f.toNat) then none else some (dg (s.b.drop f.toNat) + (f - i).toNat))) (fun J h=>T.br (fun hb=>T.ck (by omega) (h _ ⟨by omega,by omega,?_⟩)) fun hb=>h _ ⟨by omega,by omega,?_⟩) fun f ⟨f1,f2,f3⟩=>?_
  · have e1:(i + 1).toNat=i.toNat + 1:=by omega
    have e2:(i + 1 - i).toNat=1:=by omega
    unfold numLen
    rw [hd1,hb,cond_true,e1,e2,List.drop_drop]
  · have e2:(i - i).toNat=0:=by omega
    unfold numLen
    rw [hd1,hb,cond_false,e2,Nat.add_zero]
  have hfl:f ≤ s.b.length:=by omega
  have hgoal:∀ k:Int,(dg (s.b.drop f.toNat):Int)=k - f→(match numLen (s.b.drop i.toNat) with
      | none=>-1
      | some n=>i + (n:Int))=bif numBad (decide (y1=45)) (s.b.drop f.toNat) then -1 else k:=by
    intro k hk
    rw [f3]
    cases numBad (decide (y1=45)) (s.b.drop f.toNat) with
    | true=>rfl
    | false =>
      show i + ((dg (s.b.drop f.toNat) + (f - i).toNat:Nat):Int)=k
      omega
  refine T.lp (ι:=Int × UInt64) (fun q=>f ≤ q.1∧q.1 ≤ s.b.length∧(dg (s.b.drop f.toNat):Int)=q.1 - f + dg (s.b.drop q.1.toNat)∧(q.1 - f ≤ 19→q.2=uval ((s.b.drop f.toNat).take (q.1.toNat - f.toNat)))) (fun q=>(s.b.length - q.1).toNat)
    ⟨Int.le_refl _,hfl,by dsimp only;omega,fun _=>by rw [Nat.sub_self];rfl⟩ (by simp only;omega) fun L q hq hL=>?_
  obtain ⟨k,v⟩:=q
  obtain ⟨hq1,hq2,hq3,hq4⟩:=hq
  simp only at hq1 hq2 hq3 hq4 ⊢
  refine T.jp (fun b=>(b=true→k < s.b.length∧(dg (s.b.drop f.toNat):Int)=k + 1 - f + dg (s.b.drop (k + 1).toNat))∧(b=false→(dg (s.b.drop f.toNat):Int)=k - f)) (fun J h=>?_) fun b hb=>?_
  · refine T.br (fun h2=>?_) fun h2=>h _ ⟨(fun h=>by cases h),fun _=>?_⟩
    · have h2:=zOT h2
      have ek:(k + 1).toNat=k.toNat + 1:=by omega
      refine T.get (by omega) h2 fun y hy=>T.eq (zeu y) (h _ ?_)
      rw [dropc hy,zqW] at hq3
      rw [ek]
      refine ⟨fun hd=>⟨h2,?_⟩,fun hd=>?_⟩
      · rw [hd,cond_true] at hq3;omega
      · rw [hd,cond_false] at hq3;omega
    · have h2:=zOF h2
      rw [List.drop_eq_nil_of_le (as:=s.b) (i:=k.toNat) (by omega)] at hq3
      simpa [dg] using hq3
  refine T.br (fun h2=>?_) fun h2=>?_
  · obtain ⟨hk,hd⟩:=hb.1 h2
    obtain ⟨y,hy⟩:∃ y,s.b[k.toNat]?=some y:=⟨_,List.getElem?_eq_getElem (by omega)⟩
    have hsn:=zq9 (b:=s.b.drop f.toNat) (n:=k.toNat - f.toNat) (y:=y) (zs2 (by rw [show f.toNat + (k.toNat - f.toNat)=k.toNat by omega,hy]))
    have hk1:(k + 1).toNat - f.toNat=k.toNat - f.toNat + 1:=by omega
    refine T.ck (by omega) (T.jp (fun u=>k - f < 19→u=10 * v + (y - 48).toUInt64) (fun J h=>T.br (fun _=>?_) fun h3=>h _ fun h4=>by have:=zOF h3;omega) fun u hu=>T.ck (by omega) (hL _ ?_ (by simp only;omega)))
    · exact T.get (by omega) hk fun y' hy'=>h _ fun _=>by rw [hy] at hy';cases hy';rfl
    · refine ⟨by simp only;omega,by simp only;omega,hd,fun h19=>?_⟩
      simp only at h19 ⊢
      rw [hk1,hsn,zjP,hu (by omega),hq4 (by omega)]
  have hn:=hb.2 h2
  rw [hgoal k hn]
  refine T.ck (by omega) ?_
  have hdn:dg (s.b.drop f.toNat)=k.toNat - f.toNat:=by omega
  have hyf:1 ≤ k - f→∀ y,s.b[f.toNat]?=some y→hd (s.b.drop f.toNat)=y:=fun _ y hy=>by rw [dropc hy];rfl
  refine T.jp (fun b=>b=(decide (dg (s.b.drop f.toNat) < 1) || decide (19 < dg (s.b.drop f.toNat)))) (fun J h=>T.br (fun h3=>h _ ?_) fun h3=>h _ ?_) fun b1 hb1=>?_
  · have:=zOT h3;rw [zDT (by omega)];rfl
  · have:=zOF h3;rw [zDF (show ¬ dg (s.b.drop f.toNat) < 1 by omega),Bool.false_or,decide_eq_decide];omega
  refine T.jp (fun b=>b=(b1 || (decide (1 < dg (s.b.drop f.toNat)) && decide (hd (s.b.drop f.toNat)=48)))) (fun J h=>T.br (fun h3=>h _ (by rw [h3];rfl)) fun h3=>?_) fun b2 hb2=>?_
  · refine T.jp (fun b=>b=(decide (1 < dg (s.b.drop f.toNat)) && decide (hd (s.b.drop f.toNat)=48))) (fun J3 h4=>T.br (fun h5=>?_) fun h5=>h4 _ ?_) fun b hb=>h _ (by rw [h3,hb];rfl)
    · have h5:=zOT h5
      exact T.get (by omega) (by omega) fun y hy=>h4 _ (by rw [zDT (show 1 < dg (s.b.drop f.toNat) by omega),hyf (by omega) y hy];rfl)
    · have h5:=zOF h5
      rw [zDF (show ¬ 1 < dg (s.b.drop f.toNat) by omega)];rfl
  refine T.jp (fun b=>b=(b2 || (decide (y1=45) && decide (hd (s.b.drop f.toNat)=48)))) (fun J h=>T.br (fun h3=>h _ (by rw [h3];rfl)) fun h3=>?_) fun b3 hb3=>?_
  · have hge:1 ≤ k - f:=by
      have e1:=(Bool.or_eq_false_iff.1 (hb2.symm.trans h3)).1
      have:=zOF (Bool.or_eq_false_iff.1 (hb1.symm.trans e1)).1
      omega
    refine T.jp (fun b=>b=(decide (y1=45) && decide (hd (s.b.drop f.toNat)=48))) (fun J3 h4=>T.br (fun h5=>?_) fun h5=>h4 _ (by rw [h5];rfl)) fun b hb=>h _ (by rw [h3,hb];rfl)
    exact T.get (by omega) (by omega) fun y hy=>h4 _ (by rw [h5,hyf hge y hy];rfl)
  have hat:zfu s k=some (hd ((s.b.drop f.toNat).drop (dg (s.b.drop f.toNat)))):=by
    rw [zl0 s k (by omega),List.drop_drop,hdn]
    congr 3;omega
  refine T.jp (fun b=>b=(b3 || zcg (hd ((s.b.drop f.toNat).drop (dg (s.b.drop f.toNat)))))) (fun J h=>T.br (fun h3=>h _ (by rw [h3];rfl)) fun h3=>T.eq hat (T.eq (zgv _) (h _ (by rw [h3];rfl)))) fun b4 hb4=>?_
  have hv:b4=false→v=uval ((s.b.drop f.toNat).take (dg (s.b.drop f.toNat))):=fun h=>by
    have e3:=(Bool.or_eq_false_iff.1 (hb4.symm.trans h)).1
    have e2:=(Bool.or_eq_false_iff.1 (hb3.symm.trans e3)).1
    have e1:=(Bool.or_eq_false_iff.1 (hb2.symm.trans e2)).1
    have:=zOF (Bool.or_eq_false_iff.1 (hb1.symm.trans e1)).2
    rw [hdn];exact hq4 (by omega)
  refine T.jp (fun b=>b=(b4 || decide (9223372036854775808 < uval ((s.b.drop f.toNat).take (dg (s.b.drop f.toNat)))))) (fun J h=>T.br (fun h3=>h _ (by rw [h3];rfl)) fun h3=>h _ (by rw [h3,hv h3];rfl)) fun b5 hb5=>?_
  refine T.jp (fun b=>b=(b5 || (!decide (y1=45) && decide (uval ((s.b.drop f.toNat).take (dg (s.b.drop f.toNat)))=9223372036854775808)))) (fun J h=>T.br (fun h3=>h _ (by rw [h3];rfl)) fun h3=>?_) fun b6 hb6=>?_
  · have e4:=(Bool.or_eq_false_iff.1 (hb5.symm.trans h3)).1
    refine T.jp (fun b=>b=(!decide (y1=45) && decide (uval ((s.b.drop f.toNat).take (dg (s.b.drop f.toNat)))=9223372036854775808))) (fun J3 h4=>T.br (fun h5=>h4 _ (by rw [h5,hv e4];rfl)) fun h5=>h4 _ (by rw [h5];rfl)) fun b hb=>h _ (by rw [h3,hb];rfl)
  have hall:b6=numBad (decide (y1=45)) (s.b.drop f.toNat):=by
    rw [hb6,hb5,hb4,hb3,hb2,hb1];rfl
  rw [← hall]
  exact T.br (fun h3=>T.some (by rw [h3];rfl)) fun h3=>T.some (by rw [h3];rfl)

/-! ### Hexes -/
def isHex (c:UInt8):Bool:=isDigit c || (decide (65 ≤ c) && decide (c ≤ 70))
def hx:List UInt8→Nat
  | []=>0
  | c :: r=>bif isHex c then hx r + 1 else 0
theorem ztY (c:UInt8) (r:List UInt8):hx (c :: r)=bif isHex c then hx r + 1 else 0:=rfl
def hexBad (r:List UInt8):Bool:=!decide (hx r % 2=0) || !decide (hd (r.drop (hx r))=39) || !decide (hd (r.drop (hx r + 1))=72)
theorem ztk {b:List UInt8} {n:Nat} (h:hd (b.drop n) ≠ 0):n < b.length:=by
  rcases Nat.lt_or_ge n b.length with h2 | h2
  · exact h2
  · rw [List.drop_eq_nil_of_le h2] at h;exact absurd rfl h
theorem zuF (s:Str) (i:Int) (h0:0 ≤ i) (h1:i < s.b.length) (hl:s.b.length ≤ 1000000) :
    zh8 s i=some (bif hexBad (s.b.drop (i.toNat + 1)) then (-1,⟨[]⟩) else (i + 1 + (hx (s.b.drop (i.toNat + 1)):Int) + 2,⟨(s.b.drop (i.toNat + 1)).take (hx (s.b.drop (i.toNat + 1)))⟩)):=by
  refine tx ?_
  unfold zh8
  have e0:(i + 1).toNat=i.toNat + 1:=by omega
  refine T.ck (by omega) (T.lp (fun (k:Int)=>i + 1 ≤ k∧k ≤ (s.b.length:Int)∧(hx (s.b.drop (i.toNat + 1)):Int)=k - (i + 1) + hx (s.b.drop k.toNat)) (fun (k:Int)=>((s.b.length:Int) - k).toNat) ⟨Int.le_refl _,by omega,by rw [e0];omega⟩ (by omega) fun L k ⟨k1,k2,k3⟩ hL=>?_)
  refine T.jp (fun b=>(b=true→k < s.b.length∧(hx (s.b.drop (i.toNat + 1)):Int)=k + 1 - (i + 1) + hx (s.b.drop (k + 1).toNat))∧(b=false→(hx (s.b.drop (i.toNat + 1)):Int)=k - (i + 1))) (fun J h=>T.br (fun h2=>?_) fun h2=>h _ ⟨(fun h=>by cases h),fun _=>?_⟩) fun b hb=>?_
  · have h2:=zOT h2
    refine T.get (by omega) h2 fun y hy=>T.eq (zeu y) ?_
    have ek:(k + 1).toNat=k.toNat + 1:=by omega
    refine T.jp (fun q=>q=isHex y) (fun J2 h3=>T.br (fun h4=>h3 _ (by unfold isHex;rw [h4];rfl)) fun h4=>T.get (by omega) h2 fun y' hy'=>?_) fun q hq=>h _ ?_
    · rw [hy] at hy';cases hy'
      refine T.jp (fun q=>q=(decide (65 ≤ y) && decide (y ≤ 70))) (fun J4 h5=>T.br (fun h6=>T.get (by omega) h2 fun y' hy'=>h5 _ (by rw [hy] at hy';cases hy';rw [h6];rfl)) fun h6=>h5 _ (by rw [h6];rfl)) fun q hq=>h3 _ (by unfold isHex;rw [h4,hq];rfl)
    · subst hq
      rw [dropc hy,ztY] at k3
      rw [ek]
      refine ⟨fun hd=>⟨h2,?_⟩,fun hd=>?_⟩
      · rw [hd,cond_true] at k3;omega
      · rw [hd,cond_false] at k3;omega
  · have h2:=zOF h2
    rw [List.drop_eq_nil_of_le (as:=s.b) (i:=k.toNat) (by omega)] at k3
    simpa [hx] using k3
  refine T.br (fun h2=>T.ck (by have:=hb.1 h2;omega) (hL _ ⟨by have:=hb.1 h2;omega,by have:=hb.1 h2;omega,(hb.1 h2).2⟩ (by have:=hb.1 h2;omega))) fun h2=>?_
  have hn:=hb.2 h2
  have hdk:(s.b.drop (i.toNat + 1)).drop (hx (s.b.drop (i.toNat + 1)))=s.b.drop k.toNat:=by rw [List.drop_drop];congr 1;omega
  have hdk1:(s.b.drop (i.toNat + 1)).drop (hx (s.b.drop (i.toNat + 1)) + 1)=s.b.drop (k + 1).toNat:=by rw [List.drop_drop];congr 1;omega
  refine T.ck (by omega) (T.asr rfl ?_)
  have hmod:decide ((k - (i + 1)).tmod 2=0)=decide (hx (s.b.drop (i.toNat + 1)) % 2=0):=by
    rw [decide_eq_decide,Int.tmod_eq_emod_of_nonneg (by omega)]
    omega
  refine T.jp (fun b=>b=(!decide (hx (s.b.drop (i.toNat + 1)) % 2=0) || !decide (hd (s.b.drop k.toNat)=39))) (fun J h=>T.br (fun h3=>h _ (by rw [← hmod,h3];rfl)) fun h3=>T.eq (zl0 s k (by omega)) (h _ (by rw [← hmod,h3];rfl))) fun b1 hb1=>?_
  refine T.jp (fun b=>b=hexBad (s.b.drop (i.toNat + 1))) (fun J h=>T.br (fun h3=>h _ ?_) fun h3=>T.ck (by omega) (T.eq (zl0 s (k + 1) (by omega)) (h _ ?_))) fun b2 hb2=>?_
  · unfold hexBad;rw [hdk,← hb1,h3];rfl
  · unfold hexBad;rw [hdk,hdk1,← hb1,h3];rfl
  rw [← hb2]
  refine T.br (fun h3=>T.some (by rw [h3];rfl)) fun h3=>?_
  have hlt:k + 1 < s.b.length:=by
    rw [h3] at hb2
    unfold hexBad at hb2
    have:=(Bool.or_eq_false_iff.1 hb2.symm).2
    have h72:hd (s.b.drop (k + 1).toNat)=72:=by rw [hdk1] at this;simpa using this
    have:=ztk (b:=s.b) (n:=(k + 1).toNat) (by rw [h72];decide)
    omega
  refine T.ck (by omega) (T.asd (by omega) (T.some ?_))
  rw [h3,cond_false,seg,e0]
  have e5:k.toNat - (i.toNat + 1)=hx (s.b.drop (i.toNat + 1)):=by omega
  rw [e5,hn]
  have e6:i + 1 + (k - (i + 1)) + 2=k + 2:=by omega
  rw [e6]

/-! ### Strings -/
def qd:Bool→List UInt8→List UInt8→Option (List UInt8 × List UInt8)
  | _,[],_=>none
  | true,_ :: r,acc=>qd false r (acc ++ [34])
  | false,c :: r,acc=>bif decide (c=34) then bif decide (hd r=34) then qd true r acc else bif Lib.validD acc then some (acc,r) else none else qd false r (acc ++ [c])
theorem zrh (s:Str) (i:Int) (h0:0 ≤ i) (h1:i < s.b.length) (hl:s.b.length ≤ 1000000) :
    zeE s i=some (match qd false (s.b.drop (i.toNat + 1)) [] with
      | none=>(-1,⟨[]⟩)
      | some (t,r)=>((s.b.length:Int) - (r.length:Int),⟨t⟩)):=by
  refine tx ?_
  unfold zeE
  have e0:(i + 1).toNat=i.toNat + 1:=by omega
  refine T.ck (by omega) (T.lp (ι:=Int × Str) (fun q=>i + 1 ≤ q.1∧q.1 ≤ s.b.length + 1∧(q.2.b.length:Int) < q.1∧qd false (s.b.drop (i.toNat + 1)) []=qd false (s.b.drop q.1.toNat) q.2.b) (fun q=>(s.b.length + 1 - q.1).toNat) ⟨Int.le_refl _,by dsimp only;omega,by dsimp only;simp only [List.length_nil];omega,by dsimp only;rw [e0]⟩ (by dsimp only;omega) fun L q hq hL=>?_)
  obtain ⟨k,o⟩:=q
  obtain ⟨hq1,hq2,hq3,hq4⟩:=hq
  simp only at hq1 hq2 hq3 hq4 ⊢
  rw [hq4] at hL ⊢
  refine T.br (fun h2=>?_) fun h2=>T.some ?_
  rotate_left
  · have h2:=zOF h2
    rw [List.drop_eq_nil_of_le (by omega)];simp only [qd]
  have h2:=zOT h2
  have ek:(k + 1).toNat=k.toNat + 1:=by omega
  refine T.jp (fun (q:Int × Str)=>k ≤ q.1∧q.1 < (s.b.length:Int)∧(q.2.b.length:Int) < q.1 + 1∧qd false (s.b.drop k.toNat) o.b=qd false (s.b.drop (q.1 + 1).toNat) q.2.b) (fun J h=>?_) fun q hq=>?_
  · refine T.get (by omega) h2 fun y hy=>T.br (fun h3=>?_) fun h3=>?_
    · have h34:decide (y=34)=false:=by simpa using h3
      have ey:(s.b.take (k + 1).toNat).drop k.toNat=[y]:=by
        rw [seg,ek,dropc hy,show k.toNat + 1 - k.toNat=1 by omega];rfl
      refine T.ck (by omega) (T.asd (by omega) (T.abl ?_ (h _ ⟨Int.le_refl _,h2,?_,?_⟩)))
      · simp only [List.length_drop,List.length_take];omega
      · simp only [List.length_append,List.length_drop,List.length_take];omega
      · dsimp only
        rw [ey,ek]
        conv=>lhs;rw [dropc hy]
        simp only [qd,h34,cond_false]
    · have h34:decide (y=34)=true:=by simpa using h3
      refine T.ck (by omega) (T.eq (zl0 s (k + 1) (by omega)) (T.br (fun h4=>?_) fun h4=>?_))
      · have hn:decide (hd (s.b.drop (k.toNat + 1))=34)=false:=by rw [ek] at h4;simpa using h4
        refine T.eq rfl (T.br (fun h5=>T.some ?_) fun h5=>T.ck (by omega) (T.some ?_))
        · have h5:Lib.validD o.b=false:=by simpa using h5
          conv=>rhs;rw [dropc hy]
          simp only [qd,h34,cond_true,hn,cond_false,h5]
        · have h5:Lib.validD o.b=true:=by simpa using h5
          conv=>rhs;rw [dropc hy]
          simp only [qd,h34,cond_true,hn,cond_false,h5,List.length_drop]
          congr 1;omega
      · have hn:hd (s.b.drop (k.toNat + 1))=34:=by rw [ek] at h4;simpa using h4
        have hlt:=ztk (b:=s.b) (n:=k.toNat + 1) (by rw [hn];decide)
        obtain ⟨c,ec⟩:=skip1 hlt
        refine T.abl ?_ (T.ck (by omega) (h _ ⟨by dsimp only;omega,by dsimp only;omega,?_,?_⟩))
        · simp only [List.length_cons,List.length_nil];omega
        · simp only [List.length_append,List.length_cons,List.length_nil];omega
        · dsimp only
          rw [show (k + 1 + 1).toNat=k.toNat + 1 + 1 by omega]
          conv=>lhs;rw [dropc hy]
          simp only [qd,h34,cond_true,zDT hn]
          rw [ec];simp only [qd]
  · exact T.ck (by omega) (hL _ ⟨by dsimp only;omega,by dsimp only;omega,hq.2.2.1,hq.2.2.2⟩ (by dsimp only;omega))
end Go.Proofs.Q


namespace Go.Proofs.Q
open Go.Sy
set_option linter.unusedVariables false

/-! ### Signs -/
def isPre:List UInt8→List UInt8→Bool
  | [],_=>true
  | _ :: _,[]=>false
  | p :: ps,c :: r=>bif decide (p=c) then isPre ps r else false
def sgF:List (List UInt8)→List UInt8→Nat
  | [],_=>0
  | p :: ps,b=>bif isPre p b then p.length else sgF ps b
def sgs:List (List UInt8):=[[58,58,61],[46,46,46],[46,46],[91,91],[93,93],[123],[125],[91],[93],[40],[41],[44],[58]]
def sg (b:List UInt8):Nat:=sgF sgs b
theorem zjB:∀ (p b:List UInt8),isPre p b=true ↔ p.length ≤ b.length∧b.take p.length=p
  | [],b=>by simp [isPre]
  | _ :: _,[]=>by simp [isPre]
  | p :: ps,c :: r=>by
    have ih:=zjB ps r
    unfold isPre
    by_cases h:p=c
    · subst h;simp [ih]
    · simp only [zDF h,cond_false,List.length_cons,List.take_succ_cons,List.cons.injEq]
      exact ⟨(fun h=>by cases h),fun h2=>absurd h2.2.1.symm h⟩
theorem zuh {k:Nat} {y:Str} (h:([(Str.mk [58,58,61]),(Str.mk [46,46,46]),(Str.mk [46,46]),(Str.mk [91,91]),(Str.mk [93,93]),(Str.mk [123]),(Str.mk [125]),(Str.mk [91]),(Str.mk [93]),(Str.mk [40]),(Str.mk [41]),(Str.mk [44]),(Str.mk [58])]:List Str)[k]?=some y):sgs.drop k=y.b :: sgs.drop (k + 1):=by
  have e:([(Str.mk [58,58,61]),(Str.mk [46,46,46]),(Str.mk [46,46]),(Str.mk [91,91]),(Str.mk [93,93]),(Str.mk [123]),(Str.mk [125]),(Str.mk [91]),(Str.mk [93]),(Str.mk [40]),(Str.mk [41]),(Str.mk [44]),(Str.mk [58])]:List Str)=sgs.map Str.mk:=rfl
  rw [e,List.getElem?_map] at h
  obtain ⟨z,h1,h2⟩:=Option.map_eq_some_iff.1 h
  subst h2
  obtain ⟨h3,h4⟩:=List.getElem?_eq_some_iff.1 h1
  rw [List.drop_eq_getElem_cons h3,h4]
theorem ztP (s:Str) (i:Int) (h0:0 ≤ i) (h1:i < s.b.length) (hl:s.b.length ≤ 1000000):zg6 s i=some ((sg (s.b.drop i.toNat):Nat):Int):=by
  refine tx ?_
  unfold zg6
  refine T.asd (by omega) (T.lp (fun (k:Int)=>0 ≤ k∧k ≤ 13∧sgF (sgs.drop k.toNat) (s.b.drop i.toNat)=sg (s.b.drop i.toNat)) (fun (k:Int)=>(13 - k).toNat) ⟨Int.le_refl _,by omega,rfl⟩ (by omega) fun L k ⟨k1,k2,k3⟩ hL=>?_)
  have er:(s.b.take ((s.b.length:Int)).toNat).drop i.toNat=s.b.drop i.toNat:=by rw [List.take_of_length_le (by omega)]
  refine T.br (fun h2=>?_) fun h2=>T.some ?_
  rotate_left
  · have h2:¬ k < 13:=zOF h2
    have:k=13:=by omega
    subst this
    rw [← k3];rfl
  have h2:=zOT h2
  refine T.get k1 h2 fun y hy=>?_
  have hs:=zuh hy
  rw [hs] at k3
  unfold sgF at k3
  rw [er]
  refine T.jp (fun b=>b=isPre y.b (s.b.drop i.toNat)) (fun J h=>T.br (fun h3=>?_) fun h3=>h _ ?_) fun b hb=>?_
  · have h3:=zOT h3
    refine T.asd ⟨Int.le_refl _,by omega,h3⟩ (T.get k1 h2 fun y2 hy2=>h _ ?_)
    rw [hy] at hy2;cases hy2
    have h4:y.b.length ≤ (s.b.drop i.toNat).length:=by simp only [List.length_drop] at h3 ⊢;omega
    rw [Bool.eq_iff_iff,decide_eq_true_eq,zjB]
    constructor
    · intro h5
      refine ⟨h4,?_⟩
      have:=congrArg Str.b h5
      simpa using this
    · intro h5
      obtain ⟨yb⟩:=y
      simp only [Str.mk.injEq]
      simpa using h5.2
  · have h3:=zOF h3
    symm
    rw [Bool.eq_false_iff]
    intro h5
    have:=(zjB _ _).1 h5
    simp only [List.length_drop] at h3 this
    omega
  · rw [hb]
    refine T.br (fun h3=>T.some ?_) fun h3=>T.ck (by have h2:k < 13:=h2;omega) (hL _ ⟨by omega,by have h2:k < 13:=h2;omega,?_⟩ (by have h2:k < 13:=h2;omega))
    · rw [h3,cond_true] at k3;rw [← k3]
    · rw [h3,cond_false] at k3
      have e:(k + 1).toNat=k.toNat + 1:=by omega
      rw [e,k3]

/-! ### Words -/
def wordsL:List Str:=[(Str.mk [68,69,70,73,78,73,84,73,79,78,83]),(Str.mk [69,88,80,76,73,67,73,84]),(Str.mk [73,77,80,76,73,67,73,84]),(Str.mk [65,85,84,79,77,65,84,73,67]),(Str.mk [84,65,71,83]),(Str.mk [66,69,71,73,78]),(Str.mk [69,78,68]),(Str.mk [66,79,79,76,69,65,78]),(Str.mk [73,78,84,69,71,69,82]),(Str.mk [69,78,85,77,69,82,65,84,69,68]),(Str.mk [78,85,76,76]),(Str.mk [79,67,84,69,84]),(Str.mk [83,84,82,73,78,71]),(Str.mk [85,84,70,56,83,116,114,105,110,103]),(Str.mk [83,69,81,85,69,78,67,69]),(Str.mk [83,69,84]),(Str.mk [67,72,79,73,67,69]),(Str.mk [79,70]),(Str.mk [79,80,84,73,79,78,65,76]),(Str.mk [68,69,70,65,85,76,84]),(Str.mk [83,73,90,69]),(Str.mk [77,73,78]),(Str.mk [77,65,88]),(Str.mk [84,82,85,69]),(Str.mk [70,65,76,83,69])]
def sameB:List UInt8→List UInt8→Bool
  | [],[]=>true
  | a :: r,b :: t=>bif decide (a=b) then sameB r t else false
  | _,_=>false
theorem zlK:∀ a b:List UInt8,sameB a b=true ↔ a=b
  | [],[]=>by simp [sameB]
  | [],_ :: _=>by simp [sameB]
  | _ :: _,[]=>by simp [sameB]
  | a :: r,b :: t=>by
    have ih:=zlK r t
    unfold sameB
    by_cases h:a=b
    · subst h;simp [ih]
    · simp [h]
def isWord (t:List UInt8):Bool:=wordsL.any fun w=>sameB w.b t
theorem ztH (s:Str):zgO s=some (isWord s.b):=by
  refine tx ?_
  unfold zgO
  refine T.eq (y:=wordsL) rfl (T.cal (zhp wordsL s (by decide)) fun y _ hy=>T.some ?_)
  rw [hy,Bool.eq_iff_iff,decide_eq_true_eq]
  unfold isWord
  rw [List.any_eq_true]
  constructor
  · intro h;exact ⟨s,h,(zlK _ _).2 rfl⟩
  · rintro ⟨w,h1,h2⟩
    have:=(zlK _ _).1 h2
    obtain ⟨wb⟩:=w;obtain ⟨sb⟩:=s
    simp only at this;subst this;exact h1

/-! ### One sign, all signs -/
/-- The kind and the text of what comes first, and what is left behind it. -/
def oneS (b:List UInt8):Option (Int × List UInt8 × List UInt8) :=
  let c:=hd b
  bif zcg c then bif nmBad b then none else some (bif isWord (b.take (nm b)) then 5 else bif decide (c ≤ 90) then 1 else 2,b.take (nm b),b.drop (nm b))
  else bif isDigit c || (decide (c=45) && isDigit (hd (b.drop 1))) then match numLen b with
    | none=>none
    | some n=>some (3,b.take n,b.drop n)
  else bif decide (c=39) then bif hexBad (b.drop 1) then none else some (4,(b.drop 1).take (hx (b.drop 1)),(b.drop 1).drop (hx (b.drop 1) + 2))
  else bif decide (c=34) then match qd false (b.drop 1) [] with
    | none=>none
    | some (t,r)=>some (7,t,r)
  else bif decide (0 < sg b) then some (6,b.take (sg b),b.drop (sg b)) else none
theorem znW:∀ (b:List UInt8) (f:Bool) (acc t r:List UInt8),qd f b acc=some (t,r)→r.length < b.length
  | [],f,acc,t,r,h=>by cases f <;> simp [qd] at h
  | c :: b,true,acc,t,r,h=>by
    simp only [qd] at h
    have:=znW b _ _ _ _ h
    simp;omega
  | c :: b,false,acc,t,r,h=>by
    simp only [qd] at h
    by_cases h1:c=34
    · simp only [zDT h1,cond_true] at h
      by_cases h2:hd b=34
      · simp only [zDT h2,cond_true] at h
        have:=znW b _ _ _ _ h
        simp;omega
      · simp only [zDF h2,cond_false] at h
        cases hv:Lib.validD acc with
        | true=>rw [hv] at h;simp at h;rw [← h.2];simp
        | false=>rw [hv] at h;cases h
    · simp only [zDF h1,cond_false] at h
      have:=znW b _ _ _ _ h
      simp;omega
theorem znJ {b:List UInt8} {n:Nat} (h:numLen b=some n):0 < n∧n ≤ b.length:=by
  unfold numLen at h
  by_cases h1:hd b=45
  · simp only [zDT h1,cond_true] at h
    cases hb:numBad true (b.drop 1) with
    | true=>rw [hb] at h;cases h
    | false =>
      rw [hb] at h;simp only [cond_false,Option.some.injEq] at h
      have:=ztm (b.drop 1)
      rw [List.length_drop] at this
      have:b ≠ []:=fun e=>by rw [e] at h1;cases h1
      have:=List.length_pos_iff.2 this
      omega
  · simp only [zDF h1,cond_false] at h
    cases hb:numBad false b with
    | true=>rw [hb] at h;cases h
    | false =>
      rw [hb] at h;simp at h
      have:=ztm b
      have:decide (dg b < 1)=false:=by
        unfold numBad at hb
        simp only [Bool.or_eq_false_iff] at hb
        exact hb.1.1.1.1.1.1
      have:=zOF this
      omega
theorem zuL {b:List UInt8} (h:zcg (hd b)=true):0 < nm b:=by
  cases b with
  | nil=>simp [hd,zcg] at h
  | cons c r =>
    rw [zqX]
    simp only [hd] at h
    unfold inName
    rw [h];simp
theorem ztr:∀ (l:List (List UInt8)) (b:List UInt8),sgF l b ≤ b.length
  | [],b=>Nat.zero_le _
  | p :: ps,b=>by
    unfold sgF
    cases h:isPre p b with
    | true=>exact ((zjB _ _).1 h).1
    | false=>exact ztr ps b
theorem zsY {b t r:List UInt8} {k:Int} (h:oneS b=some (k,t,r)):r.length < b.length:=by
  unfold oneS at h
  simp only at h
  cases h1:zcg (hd b) with
  | true =>
    rw [h1,cond_true] at h
    cases h2:nmBad b with
    | true=>rw [h2] at h;cases h
    | false =>
      rw [h2] at h
      simp only [cond_false,Option.some.injEq,Prod.mk.injEq] at h
      rw [← h.2.2,List.length_drop]
      have:=zuL h1
      have:=zpl b
      omega
  | false =>
    rw [h1,cond_false] at h
    cases h2:isDigit (hd b) || (decide (hd b=45) && isDigit (hd (b.drop 1))) with
    | true =>
      rw [h2,cond_true] at h
      cases h3:numLen b with
      | none=>rw [h3] at h;cases h
      | some n =>
        rw [h3] at h
        simp only [Option.some.injEq,Prod.mk.injEq] at h
        have:=znJ h3
        rw [← h.2.2,List.length_drop];omega
    | false =>
      rw [h2,cond_false] at h
      by_cases h3:hd b=39
      · rw [zDT h3,cond_true] at h
        cases h4:hexBad (b.drop 1) with
        | true=>rw [h4] at h;cases h
        | false =>
          rw [h4] at h
          simp only [cond_false,Option.some.injEq,Prod.mk.injEq] at h
          have:b ≠ []:=fun e=>by rw [e] at h3;cases h3
          have:=List.length_pos_iff.2 this
          rw [← h.2.2,List.length_drop,List.length_drop];omega
      · rw [zDF h3,cond_false] at h
        by_cases h4:hd b=34
        · rw [zDT h4,cond_true] at h
          cases h5:qd false (b.drop 1) [] with
          | none=>rw [h5] at h;cases h
          | some q =>
            rw [h5] at h
            obtain ⟨t',r'⟩:=q
            simp only [Option.some.injEq,Prod.mk.injEq] at h
            have:=znW _ _ _ _ _ h5
            rw [List.length_drop] at this
            rw [← h.2.2];omega
        · rw [zDF h4,cond_false] at h
          by_cases h5:0 < sg b
          · rw [zDT h5,cond_true] at h
            simp only [Option.some.injEq,Prod.mk.injEq] at h
            have:=ztr sgs b
            have e:sgF sgs b=sg b:=rfl
            rw [← h.2.2,List.length_drop];omega
          · rw [zDF h5] at h;cases h
theorem zuB (s:Str) (i:Int) (h0:0 ≤ i) (h1:i < s.b.length) (hl:s.b.length ≤ 1000000) :
    T (fun (q:GTok × Int)=>match oneS (s.b.drop i.toNat) with
      | none=>q.2 < 0
      | some (k,t,r)=>q=(⟨k,⟨t⟩,i⟩,(s.b.length:Int) - (r.length:Int))) (zh9 s i):=by
  unfold zh9
  refine T.get h0 h1 fun y hy=>?_
  have ed:=dropc hy
  have hy0:hd (s.b.drop i.toNat)=y:=by rw [ed];rfl
  have ed1:(s.b.drop i.toNat).drop 1=s.b.drop (i.toNat + 1):=by rw [List.drop_drop]
  have elen:(s.b.drop i.toNat).length=s.b.length - i.toNat:=List.length_drop
  have etake:∀ (n:Nat),(s.b.take (i + (n:Int)).toNat).drop i.toNat=(s.b.drop i.toNat).take n:=fun n=>by
    rw [seg];congr 1;omega
  have erest:∀ (n:Nat),n ≤ (s.b.drop i.toNat).length→i + (n:Int)=(s.b.length:Int) - (((s.b.drop i.toNat).drop n).length:Int):=fun n hn=>by
    rw [List.length_drop,elen];rw [elen] at hn;omega
  refine T.jp (ι:=Int × GTok) (fun (q:Int × GTok)=>match oneS (s.b.drop i.toNat) with
      | none=>q.1 < 0
      | some (k,t,r)=>(q.2,q.1)=(⟨k,⟨t⟩,i⟩,(s.b.length:Int) - (r.length:Int))) (fun J h=>?_) fun q hq=>T.some hq
  unfold oneS at h ⊢
  simp only [hy0] at h ⊢
  refine T.eq (zgv y) (T.br (fun hle=>?_) fun hle=>T.eq (zeu y) ?_)
  · rw [hle,cond_true] at h ⊢
    have hcl:zcg (hd (s.b.drop i.toNat))=true:=by rw [hy0];exact hle
    refine T.eq (ztG s i h0 h1 hl hcl) ?_
    cases hb:nmBad (s.b.drop i.toNat) with
    | true =>
      rw [hb,cond_true] at h
      simp only [cond_true] at h ⊢
      exact T.br (fun _=>T.some (by dsimp only;omega)) fun hn=>by have:=zOF hn;omega
    | false =>
      rw [hb,cond_false] at h
      simp only [cond_false] at h ⊢
      have hnl:=zpl (s.b.drop i.toNat)
      rw [elen] at hnl
      refine T.br (fun hn=>by have:=zOT hn;omega) fun _=>T.asd (by omega) ?_
      rw [etake]
      refine T.jp (ι:=GTok) (fun t=>t=⟨bif decide (y ≤ 90) then 1 else 2,⟨(s.b.drop i.toNat).take (nm (s.b.drop i.toNat))⟩,i⟩) (fun J2 h2=>T.br (fun h3=>h2 _ (by rw [h3];rfl)) fun h3=>h2 _ (by rw [h3];rfl)) fun t ht=>?_
      subst ht
      refine T.eq (ztH _) (T.br (fun h3=>h _ ?_) fun h3=>h _ ?_)
      · dsimp only at h3 ⊢;rw [h3,← erest _ (zpl _)];rfl
      · dsimp only at h3 ⊢;rw [h3,← erest _ (zpl _)];rfl
  · rw [hle, cond_false] at h ⊢
    refine T.jp (fun b=>b=(isDigit y || (decide (y=45) && isDigit (hd ((s.b.drop i.toNat).drop 1))))) (fun J2 h2=>T.br (fun h3=>h2 _ (by rw [h3];rfl)) fun h3=>?_) fun b hb=>?_
    · refine T.jp (fun b=>b=(decide (y=45) && isDigit (hd ((s.b.drop i.toNat).drop 1)))) (fun J3 h4=>T.br (fun h5=>T.ck (by omega) (T.eq (zl0 s (i + 1) (by omega)) (T.eq (zeu _) (h4 _ ?_)))) fun h5=>h4 _ (by rw [h5];rfl)) fun b hb=>h2 _ (by rw [h3,hb];rfl)
      rw [h5,ed1,show (i + 1).toNat=i.toNat + 1 by omega];rfl
    rw [← hb] at h ⊢
    refine T.br (fun h3=>T.eq (zq8 s i h0 h1 hl) ?_) fun h3=>?_
    · rw [h3,cond_true] at h ⊢
      cases hn:numLen (s.b.drop i.toNat) with
      | none =>
        simp only [hn] at h ⊢
        exact T.br (fun _=>T.some (by dsimp only;omega)) fun hn=>by have:=zOF hn;omega
      | some n =>
        simp only [hn] at h ⊢
        have hbd:=znJ hn
        have hbd2:=hbd.2
        rw [elen] at hbd2
        refine T.br (fun hn=>by have:=zOT hn;omega) fun _=>T.asd (by omega) (h _ ?_)
        rw [etake,← erest n hbd.2]
    · rw [h3,cond_false] at h ⊢
      refine T.br (fun h4=>T.eq (zuF s i h0 h1 hl) (h _ ?_)) fun h4=>?_
      · rw [h4,cond_true,ed1]
        cases hb:hexBad (s.b.drop (i.toNat + 1)) with
        | true=>simp only [cond_true];omega
        | false =>
          simp only [cond_false]
          have h5:hx (s.b.drop (i.toNat + 1)) + 1 < (s.b.drop (i.toNat + 1)).length:=by
            unfold hexBad at hb
            have:=(Bool.or_eq_false_iff.1 hb).2
            have h72:hd ((s.b.drop (i.toNat + 1)).drop (hx (s.b.drop (i.toNat + 1)) + 1))=72:=by simpa using this
            exact ztk (by rw [h72];decide)
          rw [List.length_drop] at h5
          rw [List.length_drop,List.length_drop]
          have e:i + 1 + (hx (s.b.drop (i.toNat + 1)):Int) + 2=(s.b.length:Int) - ((s.b.length - (i.toNat + 1) - (hx (s.b.drop (i.toNat + 1)) + 2):Nat):Int):=by omega
          rw [e]
      · rw [h4,cond_false] at h ⊢
        refine T.br (fun h5=>T.eq (zrh s i h0 h1 hl) (h _ ?_)) fun h5=>?_
        · rw [h5,cond_true,ed1]
          cases hq:qd false (s.b.drop (i.toNat + 1)) [] with
          | none=>simp only;omega
          | some q=>rfl
        · rw [h5,cond_false] at h ⊢
          refine T.eq (ztP s i h0 h1 hl) (T.br (fun h6=>?_) fun h6=>h _ ?_)
          · have h6:=zOT h6
            have hsl:=ztr sgs (s.b.drop i.toNat)
            have esg:sgF sgs (s.b.drop i.toNat)=sg (s.b.drop i.toNat):=rfl
            have hpos:0 < sg (s.b.drop i.toNat):=by omega
            have hsl2:=hsl
            rw [elen] at hsl2
            refine T.ck (by omega) (T.asd (by omega) (T.ck (by omega) (h _ ?_)))
            rw [zDT hpos,cond_true]
            dsimp only
            rw [etake,← erest (sg (s.b.drop i.toNat)) hsl]
          · have h6:=zOF h6
            rw [zDF (show ¬ 0 < sg (s.b.drop i.toNat) by omega)]
            simp only [cond_false];omega

def toksF (n:Nat):Nat→List UInt8→List GTok→List GTok × Int × Int
  | 0,_,_=>([],0,0)
  | f + 1,b,acc=>match wh .out b with
    | []=>(acc ++ [⟨0,⟨[]⟩,(n:Int)⟩],0,0)
    | c :: r=>match oneS (c :: r) with
      | none=>([],(n:Int) - ((c :: r).length:Int),6)
      | some (k,t,r')=>toksF n f r' (acc ++ [⟨k,⟨t⟩,(n:Int) - ((c :: r).length:Int)⟩])
theorem zp6 (n f:Nat) (b:List UInt8) (acc:List GTok):toksF n (f + 1) b acc=match wh .out b with
    | []=>(acc ++ [⟨0,⟨[]⟩,(n:Int)⟩],0,0)
    | c :: r=>match oneS (c :: r) with
      | none=>([],(n:Int) - ((c :: r).length:Int),6)
      | some (k,t,r')=>toksF n f r' (acc ++ [⟨k,⟨t⟩,(n:Int) - ((c :: r).length:Int)⟩]):=rfl
def toks (b:List UInt8):List GTok × Int × Int:=bif decide (8000 < b.length) then ([],0,5) else toksF b.length (b.length + 1) b []
theorem zi5:∀ (b:List UInt8) (st:Wst),(wh st b).length ≤ b.length
  | [],st=>by cases st <;> simp [wh]
  | c :: r,.out=>by
    have h1:=zi5 r .out
    have h2:=zi5 r .start
    simp only [wh]
    cases isWh c <;> simp only [cond_true,cond_false]
    · cases decide (c=45) && decide (hd r=45) <;> simp only [cond_true,cond_false,List.length_cons] <;> omega
    · simp only [List.length_cons];omega
  | c :: r,.start=>by have:=zi5 r .ins;simp only [wh,List.length_cons];omega
  | c :: r,.ins=>by
    have h1:=zi5 r .out
    have h2:=zi5 r .fin
    have h3:=zi5 r .ins
    simp only [wh,List.length_cons]
    cases decide (c=10) <;> simp only [cond_true,cond_false]
    · cases decide (c=45) && decide (hd r=45) <;> simp only [cond_true,cond_false] <;> omega
    · omega
  | c :: r,.fin=>by have:=zi5 r .out;simp only [wh,List.length_cons];omega
theorem zjs:∀ (b:List UInt8) (st:Wst),∃ n,wh st b=b.drop n
  | [],st=>⟨0,by cases st <;> simp [wh]⟩
  | c :: r,.out=>by
    obtain ⟨n1,h1⟩:=zjs r .out
    obtain ⟨n2,h2⟩:=zjs r .start
    simp only [wh]
    cases isWh c <;> simp only [cond_true,cond_false]
    · cases decide (c=45) && decide (hd r=45) <;> simp only [cond_true,cond_false]
      · exact ⟨0,rfl⟩
      · exact ⟨n2 + 1,h2⟩
    · exact ⟨n1 + 1,h1⟩
  | c :: r,.start=>by obtain ⟨n,h⟩:=zjs r .ins;exact ⟨n + 1,h⟩
  | c :: r,.ins=>by
    obtain ⟨n1,h1⟩:=zjs r .out
    obtain ⟨n2,h2⟩:=zjs r .fin
    obtain ⟨n3,h3⟩:=zjs r .ins
    simp only [wh]
    cases decide (c=10) <;> simp only [cond_true,cond_false]
    · cases decide (c=45) && decide (hd r=45) <;> simp only [cond_true,cond_false]
      · exact ⟨n3 + 1,h3⟩
      · exact ⟨n2 + 1,h2⟩
    · exact ⟨n1 + 1,h1⟩
  | c :: r,.fin=>by obtain ⟨n,h⟩:=zjs r .out;exact ⟨n + 1,h⟩
theorem zn3:∀ (b:List UInt8) (f:Bool) (acc t r:List UInt8),qd f b acc=some (t,r)→∃ n,r=b.drop n
  | [],f,acc,t,r,h=>by cases f <;> simp [qd] at h
  | c :: b,true,acc,t,r,h=>by
    simp only [qd] at h
    obtain ⟨n,e⟩:=zn3 b _ _ _ _ h
    exact ⟨n + 1,e⟩
  | c :: b,false,acc,t,r,h=>by
    simp only [qd] at h
    by_cases h1:c=34
    · simp only [zDT h1,cond_true] at h
      by_cases h2:hd b=34
      · simp only [zDT h2,cond_true] at h
        obtain ⟨n,e⟩:=zn3 b _ _ _ _ h
        exact ⟨n + 1,e⟩
      · simp only [zDF h2,cond_false] at h
        cases hv:Lib.validD acc with
        | true=>rw [hv] at h;simp at h;exact ⟨1,h.2.symm⟩
        | false=>rw [hv] at h;cases h
    · simp only [zDF h1,cond_false] at h
      obtain ⟨n,e⟩:=zn3 b _ _ _ _ h
      exact ⟨n + 1,e⟩
theorem zst {b t r:List UInt8} {k:Int} (h:oneS b=some (k,t,r)):∃ n,r=b.drop n:=by
  unfold oneS at h
  simp only at h
  cases h1:zcg (hd b) with
  | true =>
    rw [h1,cond_true] at h
    cases h2:nmBad b with
    | true=>rw [h2] at h;cases h
    | false =>
      rw [h2] at h
      simp only [cond_false,Option.some.injEq,Prod.mk.injEq] at h
      exact ⟨_,h.2.2.symm⟩
  | false =>
    rw [h1,cond_false] at h
    cases h2:isDigit (hd b) || (decide (hd b=45) && isDigit (hd (b.drop 1))) with
    | true =>
      rw [h2,cond_true] at h
      cases h3:numLen b with
      | none=>rw [h3] at h;cases h
      | some n =>
        rw [h3] at h
        simp only [Option.some.injEq,Prod.mk.injEq] at h
        exact ⟨_,h.2.2.symm⟩
    | false =>
      rw [h2,cond_false] at h
      by_cases h3:hd b=39
      · rw [zDT h3,cond_true] at h
        cases h4:hexBad (b.drop 1) with
        | true=>rw [h4] at h;cases h
        | false =>
          rw [h4] at h
          simp only [cond_false,Option.some.injEq,Prod.mk.injEq,List.drop_drop] at h
          exact ⟨_,h.2.2.symm⟩
      · rw [zDF h3,cond_false] at h
        by_cases h4:hd b=34
        · rw [zDT h4,cond_true] at h
          cases h5:qd false (b.drop 1) [] with
          | none=>rw [h5] at h;cases h
          | some q =>
            rw [h5] at h
            obtain ⟨t',r'⟩:=q
            simp only [Option.some.injEq,Prod.mk.injEq] at h
            obtain ⟨n,e⟩:=zn3 _ _ _ _ _ h5
            rw [List.drop_drop] at e
            exact ⟨_,h.2.2.symm.trans e⟩
        · rw [zDF h4,cond_false] at h
          by_cases h5:0 < sg b
          · rw [zDT h5,cond_true] at h
            simp only [Option.some.injEq,Prod.mk.injEq] at h
            exact ⟨_,h.2.2.symm⟩
          · rw [zDF h5] at h;cases h
theorem zoZ {b r:List UInt8} {n:Nat} (h:r=b.drop n):b.drop (b.length - r.length)=r:=by
  subst h
  rw [List.length_drop]
  rcases Nat.lt_or_ge b.length n with h2 | h2
  · rw [List.drop_eq_nil_of_le (show b.length ≤ n by omega),List.drop_eq_nil_of_le (by omega)]
  · congr 1;omega

theorem zrL (s:Str):zd2 s=some (toks s.b):=by
  refine tx ?_
  unfold zd2 toks
  refine T.br (fun h=>T.some ?_) fun h=>?_
  · have h:=zOT h
    rw [zDT (show 8000 < s.b.length by omega)];rfl
  have hl:=zOF h
  rw [zDF (show ¬ 8000 < s.b.length by omega),cond_false]
  refine T.lp (ι:=List GTok × Int) (fun (q:List GTok × Int)=>0 ≤ q.2∧q.2 ≤ (s.b.length:Int)∧(q.1.length:Int) ≤ q.2∧∃ f,(s.b.drop q.2.toNat).length < f∧toksF s.b.length (s.b.length + 1) s.b []=toksF s.b.length f (s.b.drop q.2.toNat) q.1) (fun (q:List GTok × Int)=>((s.b.length:Int) - q.2).toNat) ⟨Int.le_refl _,by dsimp only;omega,by simp,s.b.length + 1,by simp,rfl⟩ (by dsimp only;omega) fun L q hq hL=>?_
  obtain ⟨l,k⟩:=q
  obtain ⟨h1,h2,h3,f,h4,h5⟩:=hq
  simp only at h1 h2 h3 h4 h5 ⊢
  rw [h5] at hL ⊢
  cases f with
  | zero=>omega
  | succ f =>
    have hwl:=zi5 (s.b.drop k.toNat) .out
    rw [List.length_drop] at hwl h4
    obtain ⟨nw,hw⟩:=zjs (s.b.drop k.toNat) .out
    rw [List.drop_drop] at hw
    have hsw:=zoZ hw
    refine T.eq (zsB s k h1 h2 (by omega)) ?_
    rw [zp6] at hL ⊢
    cases hwh:wh .out (s.b.drop k.toNat) with
    | nil =>
      simp only [hwh] at hL ⊢
      refine T.br (fun _=>T.abl (by simp only [List.length_cons,List.length_nil];omega) (T.some rfl)) fun h6=>?_
      have:=zOF h6
      simp at this
    | cons c r =>
      simp only [hwh] at hL ⊢ 
      rw [hwh] at hwl hsw
      have hcl:0 < (c :: r).length:=by simp
      refine T.br (fun h6=>by have:=zOT h6;omega) fun _=>?_
      have hi:((s.b.length:Int) - ((c :: r).length:Int)).toNat=s.b.length - (c :: r).length:=by omega
      refine T.cal (zuB s ((s.b.length:Int) - ((c :: r).length:Int)) (by omega) (by omega) (by omega)) fun q _ hq=>?_
      rw [hi,hsw] at hq
      cases ho:oneS (c :: r) with
      | none =>
        rw [ho] at hq
        simp only [ho] at hL ⊢
        simp only at hq
        exact T.br (fun _=>T.some rfl) fun h7=>by have:=zOF h7;omega
      | some p =>
        obtain ⟨kd,t,r'⟩:=p
        rw [ho] at hq
        simp only [ho] at hL ⊢
        simp only at hq
        subst hq
        have hol:=zsY ho
        obtain ⟨no,hso⟩:=zst ho
        have hso2:r'=s.b.drop (s.b.length - (c :: r).length + no):=by rw [hso,← List.drop_drop,hsw]
        have hsd:=zoZ hso2
        refine T.br (fun h7=>by have:=zOT h7;dsimp only at this;omega) fun _=>T.abl (by simp only [List.length_cons,List.length_nil];omega) (hL _ ⟨by dsimp only;omega,by dsimp only;omega,?_,f,?_,?_⟩ (by dsimp only;omega))
        · dsimp only;rw [List.length_append,List.length_singleton];omega
        · dsimp only
          rw [show ((s.b.length:Int) - (r'.length:Int)).toNat=s.b.length - r'.length by omega,hsd]
          omega
        · dsimp only
          rw [show ((s.b.length:Int) - (r'.length:Int)).toNat=s.b.length - r'.length by omega,hsd]
end Go.Proofs.Q


namespace Go.Proofs.Q
open Go.Sy
set_option maxRecDepth 4000
def tokF (s:Str):Option (List GTok × Int × Int):=some (toks s.b)
theorem ztE:zd2=tokF:=funext zrL
def zkd (zbM:Str):Option (GMod × Int × Int) :=
  cal (tokF zbM) fun y2=>br (!decide (y2.2.2=(0:Int))) (some ((GMod.mk (Str.mk []) (0:Int) ([]:(List Str)) ([]:(List Int)) ([]:(List GNode))),y2.2.1,y2.2.2)) (cal (za9 (GPar.mk y2.1 (0:Int) (GMod.mk (Str.mk []) (0:Int) ([]:(List Str)) ([]:(List Int)) ([]:(List GNode))) (0:Int) (0:Int)) (1:Int)) fun y7=>cal (zU (GPar.mk y7.2.l y7.2.at_ (GMod.mk y7.1 y7.2.m.tagging y7.2.m.names y7.2.m.types y7.2.m.nodes) y7.2.e y7.2.p) (Str.mk [68,69,70,73,78,73,84,73,79,78,83])) fun y10=>jp (ι:=GPar) (fun J14=>cal (zO y10 (Str.mk [69,88,80,76,73,67,73,84])) fun y15=>br y15.1 (cal (zU y15.2 (Str.mk [84,65,71,83])) fun y18=>J14 (y18)) (cal (zO y15.2 (Str.mk [73,77,80,76,73,67,73,84])) fun y21=>br y21.1 (cal (zU (GPar.mk y21.2.l y21.2.at_ (GMod.mk y21.2.m.name (1:Int) y21.2.m.names y21.2.m.types y21.2.m.nodes) y21.2.e y21.2.p) (Str.mk [84,65,71,83])) fun y24=>J14 (y24)) (cal (zO y21.2 (Str.mk [65,85,84,79,77,65,84,73,67])) fun y27=>br y27.1 (cal (zU (GPar.mk y27.2.l y27.2.at_ (GMod.mk y27.2.m.name (2:Int) y27.2.m.names y27.2.m.types y27.2.m.nodes) y27.2.e y27.2.p) (Str.mk [84,65,71,83])) fun y30=>J14 (y30)) (J14 (y27.2))))) (fun q13=>cal (zU q13 (Str.mk [58,58,61])) fun y33=>cal (zU y33 (Str.mk [66,69,71,73,78])) fun y36=>lp (ι:=GPar) (fun L40 q39=>jp (ι:=Bool × GPar) (fun J92=>br (decide (q39.e=(0:Int))) (cal (zO q39 (Str.mk [69,78,68])) fun y94=>J92 ((!y94.1),y94.2)) (J92 (false,q39))) (fun q91=>br q91.1 (cal (zax q91.2) fun y97=>cal (za9 y97.2 (1:Int)) fun y101=>jp (ι:=Bool) (fun J105=>br (decide (y101.2.e=(0:Int))) (J105 ((decide ((40:Int) ≤ (y101.2.m.names.length:Int))))) (J105 (false))) (fun q104=>jp (ι:=GPar) (fun J108=>br q104 (cal (zaI y101.2 (5:Int) y97.1) fun y109=>J108 (y109)) (J108 (y101.2))) (fun q107=>cal (zU q107 (Str.mk [58,58,61])) fun y112=>cal (zbC fuel y112 (0:Int)) fun y115=>asr (Nat.ble (y115.2.m.names.length + ([y101.1]:(List Str)).length) 68719476736) <| asr (Nat.ble (y115.2.m.types.length + ([y115.1]:(List Int)).length) 68719476736) <| L40 ((GPar.mk y115.2.l y115.2.at_ (GMod.mk y115.2.m.name y115.2.m.tagging (y115.2.m.names ++ ([y101.1]:(List Str))) (y115.2.m.types ++ ([y115.1]:(List Int))) y115.2.m.nodes) y115.2.e y115.2.p))))) (jp (ι:=Bool × GPar) (fun J126=>br (decide (q91.2.e=(0:Int))) (cal (zax q91.2) fun y128=>J126 ((!decide (y128.1.kind=(0:Int))),y128.2)) (J126 (false,q91.2))) (fun q125=>jp (ι:=GPar) (fun J132=>br q125.1 (cal (zax q125.2) fun y133=>cal (zaI y133.2 (7:Int) y133.1) fun y136=>J132 (y136)) (J132 (q125.2))) (fun q131=>br (!decide (q131.e=(0:Int))) (some ((GMod.mk (Str.mk []) (0:Int) ([]:(List Str)) ([]:(List Int)) ([]:(List GNode))),q131.p,q131.e)) (some (q131.m,(0:Int),(0:Int)))))))) ((y36))))
theorem znk:zfH=zkd:=by
  funext zbM
  unfold zfH zkd
  rw [ztE]
def zfJ (zbM:Str):Option (GTab × Bool) :=
  br (decide ((3000:Int) < (zbM.b.length:Int))) (some ((GTab.mk (Str.mk []) ([]:(List Str)) ([]:(List Int)) ([]:(List GTyp))),false)) (cal (zkd zbM) fun y2=>br (!decide (y2.2.2=(0:Int))) (some ((GTab.mk (Str.mk []) ([]:(List Str)) ([]:(List Int)) ([]:(List GTyp))),false)) (cal (zhH y2.1) fun y4=>jp (ι:=Bool) (fun J7=>br (decide (y4.2.2=(0:Int))) (J7 ((decide ((y4.1.types.length:Int) ≤ (120:Int))))) (J7 (false))) (fun q6=>some (y4.1,q6))))
theorem zjT:zbE=zfJ:=by
  funext zbM
  unfold zbE zfJ
  rw [znk]
def zk5:Option (Bool) :=
  cal (zfJ (Str.mk [77,32,68,69,70,73,78,73,84,73,79,78,83,32,58,58,61,32,66,69,71,73,78,32,65,32,58,58,61,32,73,78,84,69,71,69,82,32,69,78,68])) fun y1=>cal (zb7 y1.1 (0:Int) y1.1 (0:Int) (Val.mk (2:Int) (5:Int) ([]:(List UInt8)) ([]:(List Val)) (0:Int) ([]:(List Raw)))) fun y3=>jp (ι:=Bool) (fun J6=>br y1.2 (J6 ((decide (y3.2=(0:Int))))) (J6 (false))) (fun q5=>jp (ι:=Bool) (fun J9=>br q5 (J9 ((decide (y3.1.n=(5:Int))))) (J9 (false))) (fun q8=>some (q8)))
theorem zl6:zd4=zk5:=by
  unfold zd4 zk5
  rw [zjT]
end Go.Proofs.Q


namespace Go.Proofs.Q
open Go.Sy
set_option linter.unusedVariables false
set_option maxRecDepth 4000

theorem awake14:zd4=some true:=by
  rw [zl6];kernel_rfl
theorem zpA {t:GTab} (ht:TabOk t) (i:Int) {v:Val} (hf:Fine v) (h1:FitB t.types 17 i v) (h2:cnt v ≤ 5000):zdU t i v=some true:=by
  refine T.eqs ?_
  unfold zdU
  have hs:=zkn h1
  have h3:=zsD ht (b:=true) rfl (h:=17) (n:=fuel) (d:=1) (by decide) (by decide) (by unfold fuel;decide) hf (by omega) h1
  rw [hs] at h3
  exact T.eq h3 (T.jp (fun b=>b=true) (fun J kk=>T.br (fun _=>T.eq (zrI (by unfold fuel;omega) (by omega) hf) (kk _ (zDT (by omega)))) fun h=>by cases h) fun b hb=>T.some hb)
theorem zlx {p q:GTab} (hp:TabOk p) {i k:Int} {v:Val} (hs:Sim 17 p.types q.types i k) (h1:FitB p.types 17 i v) (hf:Fine v) (h2:cnt v ≤ 5000):zb7 p i q k v=some (prj 17 p.types q.types i k v,0):=by
  refine T.eqs ?_
  unfold zb7
  refine T.eq (zpA hp i hf h1 h2) ?_
  refine T.jp (fun b=>b=false) (fun J kk=>T.br (fun h=>by cases h) fun _=>T.eq (zrZ (by unfold fuel;omega) hf) ?_) fun b hb=>?_
  · rw [zkn h1]
    refine T.cal (znK (k:=5000) (n:=fuel) h2 (by unfold fuel;omega) hf _) fun r _ hr=>kk _ ?_
    rw [hr.2 rfl];rfl
  subst hb
  refine T.br (fun h=>by cases h) fun _=>T.eq (ztM (p:=p) (q:=q) (h:=17) (by unfold fuel;omega) hs h1 hf (by omega)) (T.br (fun h=>by cases h) fun _=>T.some rfl)
theorem zt3 {t:GTab} (ht:TabOk t) (w:Int):T (fun r=>r.2=true→t.roots.length ≠ 0∧t.roots[((UInt64.ofNat (w % 18446744073709551616).toNat) % (UInt64.ofNat ((t.roots.length:Int) % 18446744073709551616).toNat)).toNat]?=some r.1) (zd5 t w):=by
  unfold zd5
  have h1:=ht.names
  have h2:=ht.roots
  refine T.br (fun _=>T.some fun h=>by cases h) fun h=>?_
  have h:=zOF h
  have hn:(UInt64.ofNat ((t.roots.length:Int) % 18446744073709551616).toNat).toNat=t.roots.length:=by rw [UInt64.toNat_ofNat'];omega
  have hz:¬ (UInt64.ofNat ((t.roots.length:Int) % 18446744073709551616).toNat)=0:=fun e=>by
    have:=congrArg UInt64.toNat e
    rw [hn] at this
    exact h (by rw [this];rfl)
  have hlt:((UInt64.ofNat (w % 18446744073709551616).toNat) % (UInt64.ofNat ((t.roots.length:Int) % 18446744073709551616).toNat)).toNat < t.roots.length:=by
    rw [UInt64.toNat_mod,hn];exact Nat.mod_lt _ (by omega)
  refine T.asr (by rw [zDF hz];rfl) (T.ck (by omega) (T.get (by omega) (by omega) fun y hy=>T.some fun _=>⟨by omega,?_⟩))
  rw [Int.toNat_natCast] at hy
  exact hy
theorem ztt (s t:Str) (w:Int):T (fun r=>r.2.2.2.2=true→TabOk r.1∧TabOk r.2.2.1∧ext 17 r.1.types r.2.2.1.types r.2.1 r.2.2.2.1=true) (zdV s t w):=by
  unfold zdV
  refine T.cal (znI s) fun a _ ha=>T.cal (znI t) fun b _ hb=>T.cal (zt3 ha w) fun r _ hr=>T.or' (T.or' (T.br (fun _=>T.some fun h=>by cases h) fun h=>?_))
  rw [Bool.or_eq_false_iff] at h
  obtain ⟨z1,z2⟩:=hr (by simpa using h.2)
  have h1:=ha.names
  have h2:=ha.roots
  have hn:(UInt64.ofNat ((a.1.roots.length:Int) % 18446744073709551616).toNat).toNat=a.1.roots.length:=by rw [UInt64.toNat_ofNat'];omega
  have hz:¬ (UInt64.ofNat ((a.1.roots.length:Int) % 18446744073709551616).toNat)=0:=fun e=>by
    have:=congrArg UInt64.toNat e
    rw [hn] at this
    exact z1 this
  have hlt:=(List.getElem?_eq_some_iff.1 z2).1
  refine T.eq (zsv ha hb) (T.asr (by rw [zDF hz];rfl) (T.ck (by omega) (T.get (by omega) (by omega) fun n hn'=>T.eq (zpj n hb) (T.and' (T.some fun h3=>?_)))))
  rw [Int.toNat_natCast] at hn'
  have h3:=Bool.and_eq_true_iff.1 h3
  have h4:(may a.1 b.1).2=0:=zOT h3.1
  obtain ⟨c,d,s',u1,u2,u3,u4,u5,_⟩:=zua ha hb h4 (p:=((UInt64.ofNat (w % 18446744073709551616).toNat) % (UInt64.ofNat ((a.1.roots.length:Int) % 18446744073709551616).toNat)).toNat) (by omega)
  rw [z2] at u1
  rw [hn'] at u2
  cases u2
  have u1:=Option.some.inj u1
  refine ⟨ha,hb,?_⟩
  show ext 17 a.1.types b.1.types r.1 (tfind b.1 n)=true
  rw [u1];exact u5
theorem zre (s t:Str) (w:Int) (v:Val) (hm:FineM v):zdJ s t w v=some true:=by
  refine T.eqs ?_
  unfold zdJ
  refine T.cal (ztt s t w) fun r _ hr=>?_
  obtain ⟨a,i,b,k,ok⟩:=r
  dsimp only at hr ⊢
  refine T.jp (fun q=>q=false→ok=true∧cnt v ≤ 2000∧Fine v) (fun J kk=>T.br (fun _=>kk _ fun h=>by cases h) fun ho=>T.cal (zru hm) fun y _ hy=>kk _ fun h=>⟨by simpa using ho,hy (by simpa using h)⟩) fun q4 h4=>?_
  refine T.jp (fun q=>q=false→q4=false∧Fit b 17 k v) (fun J kk=>T.br (fun _=>kk _ fun h=>by cases h) fun hq=>?_) fun q8 h8=>?_
  · obtain ⟨g1,g2,g3⟩:=h4 hq
    exact T.cal (zrC (hr g1).2.1 k g3 (by omega)) fun y _ hy=>kk _ fun h=>⟨hq,(hy (by simpa using h)).1⟩
  refine T.jp (fun q=>q=false→q8=false∧bare v=true) (fun J kk=>T.br (fun _=>kk _ fun h=>by cases h) fun hq=>?_) fun q12 h12=>?_
  · obtain ⟨g1,g2,g3⟩:=h4 (h8 hq).1
    exact T.eq (zr2 (by unfold fuel;omega) g3) (kk _ fun h=>⟨hq,by simpa using h⟩)
  refine T.br (fun _=>T.eq awake14 (T.some rfl)) fun hq=>?_
  obtain ⟨e8,hbare⟩:=h12 hq
  obtain ⟨e4,hfit⟩:=h8 e8
  obtain ⟨g1,hc,hf⟩:=h4 e4
  obtain ⟨ha,hb,he⟩:=hr g1
  obtain ⟨s1,s2⟩:=zoj ha hb he
  have f1:=zuf hfit hbare
  have f2:=ztD ha hb he f1
  have f3:=zu3 ha hb he f2
  have n2:=zph s2 f1 hf
  have n3:=zph s1 f2 n2
  have c2:=zsQ ha hb he f1
  have c3:=zs5 ha hb he f1
  have e1:=zlx hb s2 f1 hf (by omega)
  have e2:=zlx ha s1 f2 n2 (by omega)
  have e3:=zlx hb s2 f3 n3 (by omega)
  rw [zt9 ha hb he f2] at e3
  refine T.eq e1 (T.eq awake14 (T.or' (T.br (fun h=>by simp at h) fun _=>T.eq e2 (T.eq e3 (T.and' ?_)))))
  refine T.jp (fun b=>b=true) (fun J kk=>T.br (fun _=>T.cal (zkv (k:=5000) (by omega) (by unfold fuel;omega) n2 _) fun r _ hr=>kk _ (hr.2 rfl)) fun h=>by simp at h) fun b hb=>T.some hb
end Go.Proofs.Q


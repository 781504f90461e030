/-
  A small separation logic over the model's worlds: lists of assertions that hold of pairwise disjoint parts of the heap ('sat'), with rules for reading, storing, new blocks, choosing and opening. No program in sight.
-/
import Derived.WalkKit
import Derived.KernelRfl
namespace Go.Proofs.YtcgkoffnknpgjaaGreatDoor
set_option linter.unusedVariables false
set_option linter.unusedSimpArgs false
open Go.RowKit
theorem om{P:Prop}(h:P:=by omega):P:=h
theorem kr{P:Prop}(h:P:=by kernel_rfl):P:=h
theorem dc{P:Prop}(h:P:=by decide):P:=h
abbrev Ot(n:Nat):Operand:= .tmp n
abbrev Hp:=Nat→Option Obj
abbrev AB:=Hp→Prop
def kD(h:Hp)(w:World):Prop:= ∀b o,h b=some o→w.heap[b]? =some o
def Dis(h k:Hp):Prop:= ∀b,h b=none∨k b=none
theorem Dis.symm{h k:Hp}(d:Dis h k):Dis k h:=fun b=>(d b).symm
theorem IQ{α:Type}: ∀(q:Ask α) (w:World),w.drawn≤(w.ask q).2.drawn
 | .done _,_=>Nat.le_refl _
 | .ask what range k,w=>by
  unfold World.ask
  simp only
  split
  · exact IQ _ w
  · exact Nat.le_trans (Nat.le_succ _) (IQ (k _) {w with drawn:=w.drawn+1})
theorem VA(w:World)(c:Sys):w.drawn≤(w.sys c).2.drawn:=by
 have h:=IQ (Kernel.perform c w.os) w
 unfold World.sys
 split
 · exact Nat.le_refl _
 · rename_i r os w2 e
   rw[e] at h
   exact h
theorem JR{P:Program}{w:World}{at_:Addr}{u:TypeId}{a:Addr}{v:Value}{b:Bool}{r:World×List Addr}(h:w.viewStore P at_ u a v b= .ok r):w.drawn≤r.1.drawn:=by
 unfold World.viewStore at h
 simp only[bind,Except.bind,pure,Except.pure] at h
 repeat' split at h
 all_goals first|(cases h;exact Nat.le_refl _)|cases h
theorem W4{α:Type}{P:Program}(s:Sem α): ∀ {x:α} {w w':World},s.run P w= .ok x w'→w.drawn≤w'.drawn:=by
 induction s with
 |pure a=>intro x w w' h;simp only[Sem.run,Result.ok.injEq] at h;rw[h.2];exact Nat.le_refl _
 |load m a k ih=>
  intro x w w' h
  simp only[Sem.run] at h
  split at h
  · exact ih _ h
  · split at h
    · exact ih _ h
    · cases h
 |store m a v k ih=>
  intro x w w' h
  have key: ∀ {w2:World},(match w.cell? a with
   |some _=>if w.frozen? a then Result.halt (.unsupported (.unsafePointer "a write to bytes that a string shares")) w else k.run P (w.setCell a v)
   |none=>match w.farStore P a v (m==Mode.atomic) with
    | .ok (w,_)=>k.run P w
    | .error h=> .halt h w)= .ok x w2→w.drawn≤w2.drawn:=by
   intro w2 h
   split at h
   · split at h
     · cases h
     · exact Nat.le_trans (Nat.le_of_eq (show w.drawn=(w.setCell a v).drawn from rfl)) (ih h)
   · split at h
     · rename_i w3 ls e
       refine Nat.le_trans ?_ (ih h)
       unfold World.farStore at e
       split at e
       · split at e
         · rename_i r er
           have:r=(w3,ls):=by cases e;rfl
           subst this
           exact JR er
         · cases e
       · cases e
     · cases h
  cases v<;>first|exact key h|(simp only[Sem.run] at h;cases h)
 |new o k ih=>intro x w w' h;exact ih (w:= {w with heap:=w.heap.push o}) _ h
 |shape r k ih=>intro x w w' h;exact ih _ h
 |freeze a n k ih=>
  intro x w w' h
  refine Nat.le_trans ?_ (ih h)
  unfold World.freeze
  split<;>exact Nat.le_refl _
 |frozen a k ih=>intro x w w' h;exact ih _ h
 |getObj r k ih=>
  intro x w w' h
  simp only[Sem.run] at h
  split at h
  · cases h
  · exact ih _ h
  · cases h
 |setObj r o k ih=>
  intro x w w' h
  simp only[Sem.run] at h
  split at h
  · cases h
  · exact ih (w:= {w with heap:=w.heap.setIfInBounds r o}) h
  · cases h
 |choose q k ih=>
  intro x w w' h
  simp only[Sem.run] at h
  split at h
  · exact ih _ h
  · exact Nat.le_trans (Nat.le_succ _) (ih _ h)
 |sys c k ih=>
  intro x w w' h
  exact Nat.le_trans (VA w c) (ih _ h)
 |program k ih=>intro x w w' h;exact ih _ h
 |mark m k ih=>intro x w w' h;exact ih h
 |halt h=>intro x w w' h;cases h
structure Same (g w:World):Prop where
 os:w.os=g.os
 tape:w.tape=g.tape
 output:w.output=g.output
 drawn:g.drawn≤w.drawn
theorem Same.refl(g:World):Same g g:=⟨rfl,rfl,rfl,Nat.le_refl _⟩
abbrev W5:=List (AB×Hp)
def TO(S:Hp→Prop)(Z:W5):Prop:=(∀z∈Z,z.1 z.2∧S z.2)∧Z.Pairwise (fun x y=>Dis x.2 y.2)
def sat(g w:World)(L:List AB):Prop:=Same g w∧ ∃Z:W5,Z.map (·.1)=L∧TO (fun h=>kD h w) Z
def Aj(K:List AB):AB:=fun h=> ∃Z:W5,Z.map (·.1)=K∧TO (fun k=> ∀b o,k b=some o→h b=some o) Z
def Emp:AB:=fun _=>True
def pt(b:Nat)(o:Obj):AB:=fun h=>h b=some o
def Cl(b:Nat)(cs:List Value)(t:TypeId):AB:=pt b (.cells cs.toArray t (0,0))
def I5(w0:World):AB:=fun h=> ∀b o,w0.heap[b]? =some o→h b=some o
section
variable {g w : World} {L : List AB}
theorem W6{w':World}(h:sat g w L)(hh:w'.heap=w.heap)(hs:Same w w'):sat g w' L:=by
 obtain⟨s,Z,hZ,ok,pw⟩:=h
 refine⟨⟨hs.os.trans s.os,hs.tape.trans s.tape,hs.output.trans s.output,Nat.le_trans s.drawn hs.drawn⟩,Z,hZ,fun z hz=>⟨(ok z hz).1,fun b o e=> ?_⟩,pw⟩
 rw[hh]
 exact(ok z hz).2 b o e
theorem L8(h:sat g w L):sat g {w with drawn:=w.drawn+1} L:=W6 h rfl ⟨rfl,rfl,rfl,Nat.le_succ _⟩
theorem L9(w:World):sat w w [I5 w]:=
 ⟨Same.refl w,[(I5 w,fun b=>w.heap[b]?)],rfl,by simp[I5,kD],by simp⟩
theorem Ax{i b:Nat}{o:Obj}(h:sat g w L)(hi:L[i]? =some (pt b o)):w.heap[b]? =some o:=by
 obtain⟨_,Z,hZ,ok,_⟩:=h
 subst hZ
 rw[List.getElem?_map,Option.map_eq_some_iff] at hi
 obtain⟨z,hz,he⟩:=hi
 have:=ok z (List.mem_of_getElem? hz)
 rw[he] at this
 exact this.2 b o this.1
theorem TP{i b:Nat}{o:Obj}{w0:World}(h:sat g w L)(hi:L[i]? =some (I5 w0))(hb:w0.heap[b]? =some o):w.heap[b]? =some o:=by
 obtain⟨_,Z,hZ,ok,_⟩:=h
 subst hZ
 rw[List.getElem?_map,Option.map_eq_some_iff] at hi
 obtain⟨z,hz,he⟩:=hi
 have:=ok z (List.mem_of_getElem? hz)
 rw[he] at this
 exact this.2 b o (this.1 b o hb)
theorem FO{w:World}{b k:Nat}{cs:List Value}{t:TypeId}{f:Nat×Nat}{v:Value}(h:w.heap[b]? =some (.cells cs.toArray t f))(hk:cs[k]? =some v):
  w.cell? ⟨b,k,none⟩=some v:=by
 simp[World.cell?,h,hk]
theorem AL{b k:Nat}{cs:List Value}{t:TypeId}{v:Value}(h:sat g w L)(i:Nat)(hi:L[i]? =some (Cl b cs t))(hk:cs[k]? =some v):w.cell? ⟨b,k,none⟩=some v:=
 FO (Ax h hi) hk
theorem CY{a:Addr}{v:Value}{w0:World}(h:sat g w L)(i:Nat)(hi:L[i]? =some (I5 w0))(hk:w0.cell? a=some v):w.cell? a=some v:=by
 unfold World.cell? at hk
 cases hb:w0.heap[a.block]? with
 |none=>simp[hb] at hk
 |some o=>
  have:=TP h hi hb
  rw[hb] at hk
  simp[World.cell?,this]
  exact hk
theorem CN(h:sat g w L)(o:Obj):sat g (w.alloc o) (pt w.heap.size o::L):=by
 obtain⟨s,Z,hZ,ok,pw⟩:=h
 refine⟨⟨s.os,s.tape,s.output,s.drawn⟩,(pt w.heap.size o,fun b=>if b=w.heap.size then some o else none)::Z,by simp[hZ],?_,?_⟩
 · intro z hz
   rcases List.mem_cons.1 hz with rfl |hz
   · refine⟨by simp[pt],fun b o' e=> ?_⟩
     dsimp only at e
     split at e
     · rename_i hb
       subst hb
       rw[←e]
       exact heap_alloc_new w o
     · cases e
   · refine⟨(ok z hz).1,fun b o' e=> ?_⟩
     have h1:=(ok z hz).2 b o' e
     have hlt:b<w.heap.size:=(Array.getElem?_eq_some_iff.1 h1).1
     rw[Below.heap_alloc w o b hlt]
     exact h1
 · rw[List.pairwise_cons]
   refine⟨fun z hz b=> ?_,pw⟩
   dsimp only
   by_cases hb:b=w.heap.size
   · refine .inr ?_
     cases e:z.2 b with
     |none=>rfl
     |some o'=>
      have h1:=(ok z hz).2 b o' e
      have hlt:b<w.heap.size:=(Array.getElem?_eq_some_iff.1 h1).1
      omega
   · exact .inl (by simp[hb])
theorem B0{b:Nat}{o o':Obj}{w':World}(h:sat g w (pt b o::L))(hw:Same w w')(hb:w'.heap[b]? =some o')(ho: ∀k,k≠b→w'.heap[k]? =w.heap[k]?):sat g w' (pt b o'::L):=by
 obtain⟨s,Z,hZ,ok,pw⟩:=h
 match Z,hZ with
 |z::Z,hZ=>
  simp only[List.map_cons,List.cons.injEq] at hZ
  obtain⟨hz1,hZ⟩:=hZ
  have hz:=ok z (by simp)
  rw[hz1] at hz
  rw[List.pairwise_cons] at pw
  refine⟨⟨hw.os.trans s.os,hw.tape.trans s.tape,hw.output.trans s.output,Nat.le_trans s.drawn hw.drawn⟩,(pt b o',fun k=>if k=b then some o' else none)::Z,by simp[hZ],?_,?_⟩
  · intro y hy0
    rcases List.mem_cons.1 hy0 with rfl |hy
    · refine⟨by simp[pt],fun k x e=> ?_⟩
      dsimp only at e
      split at e
      · rename_i hk
        subst hk
        rw[hb,←e]
      · cases e
    · refine⟨(ok y (by simp[hy])).1,fun k x e=> ?_⟩
      have h1:=(ok y (by simp[hy])).2 k x e
      by_cases hk:k=b
      · subst hk
        rcases pw.1 y hy k with h2|h2
        · have h3:z.2 k=some o:=hz.1
          rw[h2] at h3
          cases h3
        · rw[h2] at e
          cases e
      · rw[ho k hk]
        exact h1
  · rw[List.pairwise_cons]
    refine⟨fun y hy k=> ?_,pw.2⟩
    dsimp only
    by_cases hk:k=b
    · subst hk
      rcases pw.1 y hy k with h2|h2
      · have h3:z.2 k=some o:=hz.1
        rw[h2] at h3
        cases h3
      · exact .inr h2
    · exact .inl (by simp[hk])
theorem PA{b k:Nat}{cs:List Value}{t:TypeId}{v:Value}(h:sat g w (Cl b cs t::L)):sat g (w.setCell ⟨b,k,none⟩ v) (Cl b (cs.set k v) t::L):=by
 have hb:w.heap[b]? =some (.cells cs.toArray t (0,0)):=Ax (i:=0) h rfl
 refine B0 h ⟨rfl,rfl,rfl,Nat.le_refl _⟩ ?_ (fun j hj=> ?_)
 · have:=heap_setCell_same w b k cs.toArray t v hb
   rw[this]
   simp
 · exact heap_setCell_other w _ j v hj
theorem Af{X:Type}{A:AB}{p:X→Prop}{B:X→AB}(h:sat g w (A::L))(hA: ∀h,A h→ ∃x,p x∧B x h): ∃x,p x∧sat g w (B x::L):=by
 obtain⟨s,Z,hZ,ok,pw⟩:=h
 match Z,hZ with
 |z::Z,hZ=>
  simp only[List.map_cons,List.cons.injEq] at hZ
  obtain⟨hz1,hZ⟩:=hZ
  have hz:=ok z (by simp)
  rw[hz1] at hz
  obtain⟨x,px,bx⟩:=hA z.2 hz.1
  rw[List.pairwise_cons] at pw
  refine⟨x,px,s,(B x,z.2)::Z,by simp[hZ],?_,?_⟩
  · intro y hy
    rcases List.mem_cons.1 hy with rfl |hy
    · exact⟨bx,hz.2⟩
    · exact ok y (by simp[hy])
  · rw[List.pairwise_cons]
    exact⟨pw.1,pw.2⟩
theorem AI{A B:AB}(h:sat g w (A::L))(hA: ∀h,A h→B h):sat g w (B::L):=by
 obtain⟨_,_,r⟩:=Af (X:=Unit) (p:=fun _=>True) (B:=fun _=>B) h (fun k hk=>⟨(),trivial,hA k hk⟩)
 exact r
theorem sI{A B:AB}(h:sat g w (A::L))(e: ∀x,A x→B x:=by intro _ hh;exact hh):sat g w (B::L):=AI h e
theorem Js{A:AB}{p:Prop}(h:sat g w (A::L))(hA: ∀h,A h→p):p:=by
 obtain⟨_,hp,_⟩:=Af (X:=Unit) (p:=fun _=>p) (B:=fun _=>Emp) h (fun k hk=>⟨(),hA k hk,trivial⟩)
 exact hp
theorem AK{K:List AB}(h:sat g w (Aj K::L)):sat g w (K++L):=by
 obtain⟨s,Z,hZ,ok,pw⟩:=h
 match Z,hZ with
 |z::Z,hZ=>
  simp only[List.map_cons,List.cons.injEq] at hZ
  obtain⟨hz1,hZ⟩:=hZ
  have hz:=ok z (by simp)
  rw[hz1] at hz
  obtain⟨Y,hY,oky,pwy⟩:=hz.1
  rw[List.pairwise_cons] at pw
  refine⟨s,Y++Z,by simp[hY,hZ],?_,?_⟩
  · intro y hy
    rcases List.mem_append.1 hy with hy|hy
    · exact⟨(oky y hy).1,fun b o e=>hz.2 b o ((oky y hy).2 b o e)⟩
    · exact ok y (by simp[hy])
  · rw[List.pairwise_append]
    refine⟨pwy,pw.2,fun a ha b hb k=> ?_⟩
    rcases pw.1 b hb k with h1|h1
    · refine .inl ?_
      cases e:a.2 k with
      |none=>rfl
      |some o=>
       have:=(oky a ha).2 k o e
       rw[h1] at this
       cases this
    · exact .inr h1
theorem AO{K:List AB}(h:sat g w (K++L)):sat g w (Aj K::L):=by
 obtain⟨s,Z,hZ,ok,pw⟩:=h
 have hsplit:(Z.take K.length).map (·.1)=K∧(Z.drop K.length).map (·.1)=L:=by
  rw[List.map_take,List.map_drop,hZ]
  simp
 have hZ2:Z=Z.take K.length++Z.drop K.length:=(List.take_append_drop _ _).symm
 rw[hZ2] at pw
 rw[List.pairwise_append] at pw
 classical
 let U:Hp:=fun b=>if hx: ∃z∈Z.take K.length,∃o,z.2 b=some o then (Classical.choose hx).2 b else none
 have hU: ∀z∈Z.take K.length,∀b o,z.2 b=some o→U b=some o:=by
  intro z hz b o e
  have hx: ∃z∈Z.take K.length,∃o,z.2 b=some o:=⟨z,hz,o,e⟩
  have hc:=Classical.choose_spec hx
  have h1:w.heap[b]? =some o:=(ok z (List.mem_of_mem_take hz)).2 b o e
  obtain⟨o2,e2⟩:=hc.2
  have h2:w.heap[b]? =some o2:=(ok _ (List.mem_of_mem_take hc.1)).2 b o2 e2
  rw[h1] at h2
  cases h2
  show dite _ _ _=_
  rw[dif_pos hx]
  exact e2
 have hU2: ∀b o,U b=some o→ ∃z∈Z.take K.length,z.2 b=some o:=by
  intro b o e
  by_cases hx: ∃z∈Z.take K.length,∃o,z.2 b=some o
  · have e':(Classical.choose hx).2 b=some o:=by
     have:U b=(Classical.choose hx).2 b:=dif_pos hx
     rw[←this];exact e
    exact⟨_,(Classical.choose_spec hx).1,e'⟩
  · have:U b=none:=dif_neg hx
    rw[this] at e
    cases e
 refine⟨s,(Aj K,U)::Z.drop K.length,by simp[hsplit.2],?_,?_⟩
 · intro y hy
   rcases List.mem_cons.1 hy with rfl |hy
   · refine⟨⟨Z.take K.length,hsplit.1,fun z hz=>⟨(ok z (List.mem_of_mem_take hz)).1,hU z hz⟩,pw.1⟩,fun b o e=> ?_⟩
     obtain⟨z,hz,e'⟩:=hU2 b o e
     exact(ok z (List.mem_of_mem_take hz)).2 b o e'
   · exact ok y (List.mem_of_mem_drop hy)
 · rw[List.pairwise_cons]
   refine⟨fun y hy b=> ?_,pw.2.1⟩
   dsimp only
   cases e:U b with
   |none=>exact .inl rfl
   |some o=>
    obtain⟨z,hz,e'⟩:=hU2 b o e
    rcases pw.2.2 z hz y hy b with h1|h1
    · rw[h1] at e'
      cases e'
    · exact .inr h1
theorem AN{A B:List AB}(h:sat g w (A++B)):sat g w (B++A):=by
 obtain⟨s,Z,hZ,ok,pw⟩:=h
 have h1:(Z.take A.length).map (·.1)=A∧(Z.drop A.length).map (·.1)=B:=by
  rw[List.map_take,List.map_drop,hZ]
  simp
 refine⟨s,Z.drop A.length++Z.take A.length,by simp[h1.1,h1.2],fun z hz=>ok z ?_,?_⟩
 · rcases List.mem_append.1 hz with hz|hz
   · exact List.mem_of_mem_drop hz
   · exact List.mem_of_mem_take hz
 · rw[←List.take_append_drop A.length Z,List.pairwise_append] at pw
   rw[List.pairwise_append]
   exact⟨pw.2.1,pw.1,fun a ha b hb=>(pw.2.2 b hb a ha).symm⟩
theorem MA{w0:World}{i:Nat}(h:sat w0 w L)(hi:L[i]? =some (I5 w0)):Below w0.heap.size w0 w:=by
 have hb: ∀b o,w0.heap[b]? =some o→w.heap[b]? =some o:=fun b o e=>TP h hi e
 refine⟨h.1.os,h.1.tape,h.1.output,?_,fun k hk=> ?_⟩
 · rcases Nat.eq_zero_or_pos w0.heap.size with h0|h0
   · omega
   · have:=hb (w0.heap.size-1) _ (Array.getElem?_eq_getElem om)
     have:=(Array.getElem?_eq_some_iff.1 this).1
     omega
 · rw[hb k _ (Array.getElem?_eq_getElem hk),Array.getElem?_eq_getElem hk]
end
def HT(P:Program)(f:FuncId)(args:List Value)(Pre:List AB)(Post:Value→List AB→Prop):Prop:=
 ∀(g w:World) (F:List AB),sat g w (Pre++F)→Calls P f args.toArray w fun e w'=> ∃v K,e= .returned v∧Post v K∧sat g w' (K++F)
theorem HT.mono{P:Program}{f:FuncId}{args:List Value}{Pre:List AB}{Post Post':Value→List AB→Prop}(h:HT P f args Pre Post)(hp: ∀v K,Post v K→Post' v K):HT P f args Pre Post':=
 fun g w F hs=>(h g w F hs).mono fun _ _ ⟨v,K,he,hP,hs'⟩=>⟨v,K,he,hp v K hP,hs'⟩
end Go.Proofs.YtcgkoffnknpgjaaGreatDoor

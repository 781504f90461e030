/-
  The rules for code, in a function or in a round of a range over a function. No program in sight.
-/
import Derived.Test.YtcgkoffnknpgjaaGreatDoorInx
import Derived.RangeFuncFrom
import Derived.RangeFuncLeaves
namespace Go.Proofs.YtcgkoffnknpgjaaGreatDoor
set_option linter.unusedVariables false
set_option linter.unusedSimpArgs false
def WP(r:Option Nat)(P:Program)(c:Code)(Q:Exit→Act→World→Prop)(a:Act)(w:World):Prop:= ¬LetsOut Q→ ∀m,c.wpIn (FW r) m P Q a w
section
variable {r : Option Nat} {P : Program} {Q : Exit → Act → World → Prop} {a : Act} {w : World} {c : Code} {ds : List Deferred}
theorem ME{K:Act→World→Prop}(h: ¬LetsOut Q): ¬LetsOut (Exit.then K Q):=fun⟨a,w,h1⟩=>h ⟨a,w,h1⟩
theorem Rl{id:Nat}(h: ¬LetsOut Q): ¬LetsOut (Exit.inBlock id Q):=fun⟨a,w,h1⟩=>h ⟨a,w,h1⟩
theorem WP.mono{Q':Exit→Act→World→Prop}(h:WP r P c Q a w)(hq: ∀e a w,Q e a w→Q' e a w):WP r P c Q' a w:=
 fun hL m=>wpIn_mono (h (fun⟨a,w,h1⟩=>hL ⟨a,w,hq _ _ _ h1⟩) m) hq
theorem Rm{x y:Code}(e:c= .seq x y)(h:WP r P x (Exit.then (WP r P y Q) Q) a w):WP r P c Q a w:=fun hL m=>by
 subst e
 refine wpIn_seq (wpIn_mono (h (ME hL) m) fun e a w hq=> ?_)
 cases e with
 |normal=>exact hq hL m
 |_=>exact hq
theorem cH{x y:Code}(J:Act→World→Prop)(e:c= .seq x y)(hx:WP r P x (Exit.then J Q) a w)(hy: ∀a w,J a w→WP r P y Q a w):WP r P c Q a w:=by
 refine Rm e (hx.mono fun e a w h=> ?_)
 cases e with
 |normal=>exact hy a w h
 |_=>exact h
theorem XF{id:Nat}{x:Code}(e:c= .block id x)(h:WP r P x (Exit.inBlock id Q) a w):WP r P c Q a w:=fun hL m=>e▸wpIn_block (h (Rl hL) m)
theorem XG(e:c= .skip)(h:Q .normal a w):WP r P c Q a w:=fun _ _=>e▸wpIn_skip h
theorem kE(e:c= .ret)(h:Q .ret a w):WP r P c Q a w:=fun _ _=>e▸wpIn_ret h
theorem XH{id:Nat}(e:c= .exit id)(h:Q (.exit id) a w):WP r P c Q a w:=fun _ _=>e▸wpIn_exit h
theorem NH{n:Nat}{l:Fr}{x:Operand}{s t:Code}(b:Bool)(e:c= .cond x s t)(hb:fe n l x= .bool b)(h:WP r P (match b with |true=>s|false=>t) Q (Ad ds n l) w):WP r P c Q (Ad ds n l) w:=fun hL m=>by
 subst e
 cases b
 · exact wpIn_cond_false (by rw[An];exact hb) (h hL m)
 · exact wpIn_cond_true (by rw[An];exact hb) (h hL m)
theorem XI{id:Nat}{ops:Array Oper}{n:Nat}{l:Fr}(is:List Nat)(e:c= .region id ops false)(hd:Bi ops=true)(hi:List.range ops.size=is)(h:PO P ops Q is (Ad ds n l) w):WP r P c Q (Ad ds n l) w:=fun hL m=>by
 subst e
 subst hi
 exact wpIn_region (J1 hd hL _ _ _ h.out)
theorem XJ{id:Nat}{ops:Array Oper}{n:Nat}{l:Fr}{g:World}{L:List AB}(t:Tr)(e:c= .region id ops true)(hd:Bi ops=true)(hm:P.follows .mixedOrders=true)(hsel:Region.noSelect ops=true)
 (hc:Be ops ops.size (Array.replicate ops.size false) t=true)(hQ: ∀c a d v w,Q (.panic c) (a.put d v) w→Q (.panic c) a w)(hs:sat g w L)(h: ∀w',sat g w' L→RW P ops Q t [] (Ad ds n l) w'):WP r P c Q (Ad ds n l) w:=fun hL m=>by
 subst e
 exact wpIn_region_any hm (XE hd hL _ _ _ _ (Re t hsel hc hQ (h _ (L8 hs))))
theorem kF{p:Nat→Prop}(h: ∃n,p n): ∃n,p n∧ ∀k,p k→n≤k:=by
 obtain⟨n,hn⟩:=h
 induction n using Nat.strongRecOn with
 |_ n ih=>
  by_cases hk: ∃k,k<n∧p k
  · obtain⟨k,h1,h2⟩:=hk
    exact ih k h1 h2
  · exact⟨n,hn,fun k h1=>Nat.le_of_not_lt fun h2=>hk ⟨k,h2,h1⟩⟩
open Classical in
noncomputable def mu(p:Nat→Prop):Nat:=if h: ∃n,p n then Classical.choose (kF h) else 0
theorem TU{p:Nat→Prop}(h: ∃n,p n):p (mu p)∧ ∀k,p k→mu p≤k:=by
 unfold mu
 rw[dif_pos h]
 exact Classical.choose_spec (kF h)
theorem XK{x:Code}(e:c= .loop x)(I:Nat→Act→World→Prop)(n₀:Nat)(h₀:I n₀ a w)
 (round: ∀n a w,I n a w→WP r P x (Exit.then (fun a' w'=> ∃n',n'<n∧I n' a' w') Q) a w):WP r P c Q a w:=fun hL m=>by
 subst e
 refine wpIn_loop (fun a w=> ∃n,I n a w) (fun a w=>mu fun n=>I n a w) ⟨n₀,h₀⟩ fun a w hI=> ?_
 refine wpIn_mono (round _ a w (TU hI).1 (ME hL) m) fun e a' w' h=> ?_
 cases e with
 |normal=>
  obtain⟨n',h1,h2⟩:=h
  exact⟨⟨n',h2⟩,Nat.lt_of_le_of_lt ((TU ⟨n',h2⟩).2 _ h2) h1⟩
 |_=>exact h
end
section
variable {P : Program} {f : FuncId} {fn : Func} {args : List Value} {Pre : List AB} {Post : Value → List AB → Prop}
def D6(m:Nat)(P:Program)(fn:Func)(R:Ending→World→Prop):Exit→Act→World→Prop
 | .normal,a,w| .ret,a,w=>LeavesInM (FW none) m P fn a.tmps R a.defers .returning w
 |_,_,_=>False
theorem FT{m:Nat}{R:Ending→World→Prop}{c:Code}{a:Act}{w:World}(h:WP none P c (D6 m P fn R) a w)(k:Nat):c.wpIn (FW none) k P (bodyPostM (FW none) m P fn R) a w:=
 wpIn_mono (h (fun⟨_,_,h⟩=>h) k) fun e a w h=>by cases e<;>first|exact h|exact h.elim
theorem sZ(n:Nat)(l:Fr)(hf:P.funcs[f]? =some fn)(hb:fn.body=some (CA fn []))(hn:fn.ntmps=n)(ha:Nat.ble args.length n=true)(hl:Cg args 0=l)
 (h: ∀(g w:World) (R:AB),sat g w (Pre++ [R])→WP none P (CA fn []) (D6 0 P fn fun e w'=> ∃v K,e= .returned v∧Post v K∧sat g w' (K++ [R])) (mk n l) w):HT P f args Pre Post:=by
 intro g w F hs
 have hs':sat g w (Pre++ [Aj F]):=AN (A:= [Aj F]) (AO (AN hs))
 refine Calls.mono (R:=fun e w'=> ∃v K,e= .returned v∧Post v K∧sat g w' (K++ [Aj F])) ?_ ?_
 · refine HR (m:=0) (callsIn_of_wp_marks hf hb trivial ?_)
   rw[hn,Jd args n (Nat.le_of_ble_eq_true ha),hl]
   exact FT (h g w (Aj F) hs') 0
 · rintro e w' ⟨v,K,he,hP,hk⟩
   exact⟨v,K,he,hP,AN (AK (AN (B:= [Aj F]) hk))⟩
theorem NI{m n:Nat}{l:Fr}{w:World}{R:Ending→World→Prop}(vs:List Value)(v:Value)(ls:List (Addr×Value))(h:EU P (VE fn n l) vs=some (v,ls))(hc: ∀q∈ls,w.cell? q.1=some q.2)
 (hR:R (.returned v) w):D6 m P fn R .ret (mk n l) w:=by
 refine⟨v,?_,hR⟩
 rw[Jy,An]
 exact HL _ h hc
theorem HS{m n:Nat}{l:Fr}{w:World}{R:Ending→World→Prop}(vs:List Value)(v:Value)(ls:List (Addr×Value))(h:EU P (VE fn n l) vs=some (v,ls))(hc: ∀q∈ls,w.cell? q.1=some q.2)
(hR:R (.returned v) w):D6 m P fn R .normal (mk n l) w:=NI vs v ls h hc hR
def RV(D:Nat):Deferred:= {target:= .collected D,args:= #[]}
theorem cI{m n:Nat}{l:Fr}{g w:World}{L:List AB}{D:Nat}{R:Ending→World→Prop}(hs:sat g w (pt D (.deferred (some []))::L))(vs:List Value)(v:Value)(ls:List (Addr×Value))
 (h:EU P (VE fn n l) vs=some (v,ls))(hw: ∀w',sat g w' (pt D (.deferred none)::L)→(∀q∈ls,w'.cell? q.1=some q.2)∧R (.returned v) w'):D6 m P fn R .ret (Ad [RV D] n l) w:=by
 have hD:w.heap[D]? =some (.deferred (some [])):=Ax (i:=0) hs rfl
 have hs':sat g (w.putObj D (.deferred none)) (pt D (.deferred none)::L):=
  B0 hs ⟨rfl,rfl,rfl,Nat.le_refl _⟩ (World.putObj_heap_same (Array.getElem?_eq_some_iff.1 hD).1) (fun j hj=>World.putObj_heap_other hj)
 obtain⟨h1,h2⟩:=hw _ hs'
 refine⟨by simp,.inl ⟨D,_,rfl,run_takeDeferred hD,v,?_,h2⟩⟩
 rw[Jy,An]
 exact HL _ h h1
end
section
variable {r : Option Nat} {m n : Nat} {P : Program} {Q : Exit → Act → World → Prop} {l : Fr} {w : World} {o : Oper} {N : Act → World → Prop} {ds : List Deferred}
def Rn(o:Oper)(n:Nat)(l:Fr):Option (Option Nat×Nat×List Value):=
 match o.op with
 | .call {callee:= .value x,args,.. }=>match fe n l x with
  | .func (.yield k) first _=>some (o.dst,k,first.toList++args.toList.map (fe n l))
  |_=>none
 |_=>none
theorem PN{d:Option Nat}{k:Nat}{args:List Value}(h:Rn o n l=some (d,k,args))
 (hY:YieldAt (FW r) (m-1) P k args.toArray w fun e w'=> ∃v,e= .returned v∧ ∃l',EJ n l d v=some l'∧N (Ad ds n l') w'):o.wpIn (FW r) m P (Ad ds n l) w N Q:=by
 refine⟨fun _ _=>trivial,?_⟩
 obtain⟨fn,tmps,as,bd,hy,hR⟩:=hY
 obtain⟨dst,op,ty,pos,aft,gd⟩:=o
 unfold Rn at h
 dsimp only at h
 split at h
 · rename_i x xs tys
   split at h
   · rename_i k' first captured hx
     simp only[Option.some.injEq,Prod.mk.injEq] at h
     obtain⟨rfl,rfl,rfl⟩:=h
     rw[Oper.semAt_eq _ _ _ (fun c e=>by cases e)]
     rw[An]
     have e1:(execOp (fe n l) {dst:=dst,op:= .call {callee:= .value x,args:=xs,argTypes:=tys},type:=ty,pos:=pos,after:=aft,guard:=gd})=Instr.yield k' (first++xs.map (fe n l)):=by
      simp only[execOp,resolve,hx,Deferred.ofValue]
      rfl
     have e2:first++xs.map (fe n l)=(first.toList++xs.toList.map (fe n l)).toArray:=by
      apply Array.ext'
      simp
     have this:(execOp (fe n l) {dst:=dst,op:= .call {callee:= .value x,args:=xs,argTypes:=tys},type:=ty,pos:=pos,after:=aft,guard:=gd}).run P w= .ok (.round k' fn tmps as bd) w:=by
      rw[e1,e2];exact hy
     rw[this]
     refine⟨fun hh=>by simp[Fence.wide] at hh,hR.mono ?_⟩
     rintro e w' ⟨v,rfl,l',hl,hN⟩
     show N ((Ad ds n l).put dst v) w'
     rw[D7 hl]
     exact hN
   · cases h
 · cases h
end
end Go.Proofs.YtcgkoffnknpgjaaGreatDoor

/-
  Ranges over functions: what an iterator promises, and the rule for the statement. No program in sight.
-/
import Derived.Test.YtcgkoffnknpgjaaGreatDoorGox
namespace Go.Proofs.YtcgkoffnknpgjaaGreatDoor
set_option linter.unusedVariables false
set_option linter.unusedSimpArgs false
def IT(P:Program)(f:FuncId)(cap:List Value)(N:Nat)(xs:Nat→List Value)(At:List AB):Prop:=
 ∀(g w:World) (F:List AB) (k:Nat) (J E:Nat→AB),
  (∀i,i<N→ ∀(w1:World) (G:List AB),sat g w1 (J i::At++G)→ ∀m,YieldAt (FW none) m P k (xs i).toArray w1 fun e w'=>(e= .returned (.bool true)∧sat g w' (J (i+1)::At++G))∨(e= .returned (.bool false)∧sat g w' (E i::G)))→
  sat g w (J 0::At++F)→Calls P f (Value.func (.yield k) #[] #[]::cap).toArray w fun e w'=>(∃v,e= .returned v)∧(sat g w' (J N::At++F)∨ ∃i,i<N∧sat g w' (E i::F))
def RB(g:World)(Inv:Nat→List AB→Prop)(Ex:Code→Nat→List AB→Prop)(At:List AB)(i:Nat)(G:AB):Exit→Act→World→Prop
 | .normal,_,w=> ∃K,Inv (i+1) K∧sat g w (K++(At++ [G]))
 | .ret,_,w=> ∃K,Ex .ret i K∧sat g w (K++ [G])
 | .exit id,_,w=> ∃K,Ex (.exit id) i K∧sat g w (K++ [G])
 |_,_,_=>False
def cJ(P:Program)(f:FuncId)(cap:List Value)(N:Nat)(xs:Nat→List Value)(A:Nat→AB):Prop:=
 ∀(g w:World) (F:List AB) (k:Nat) (J E:Nat→AB),
  (∀i,i<N→ ∀(w1:World) (G:List AB),sat g w1 (J i::A (i+1)::G)→ ∀m,YieldAt (FW none) m P k (xs i).toArray w1 fun e w'=>(e= .returned (.bool true)∧sat g w' (J (i+1)::A (i+1)::G))∨(e= .returned (.bool false)∧sat g w' (E i::G)))→
  sat g w (J 0::A 0::F)→Calls P f (Value.func (.yield k) #[] #[]::cap).toArray w fun e w'=>(∃v,e= .returned v)∧(sat g w' (J N::A N::F)∨ ∃i,i<N∧sat g w' (E i::F))
section
variable {P : Program} {Q : Exit → Act → World → Prop} {g w : World} {L : List AB} {c : Code} {ds : List Deferred}
theorem YieldAt.mono{F:Fence}{m:Nat}{k:Nat}{args:Array Value}{W:World}{R R':Ending→World→Prop}(h:YieldAt F m P k args W R)(hr: ∀e w,R e w→R' e w):YieldAt F m P k args W R':=by
 obtain⟨fn,tmps,as,bd,h1,h2⟩:=h
 exact⟨fn,tmps,as,bd,h1,h2.mono hr⟩
theorem Ar{A:AB}(h:sat g w (A::L)):sat g w L:=by
 obtain⟨s,Z,hZ,ok,pw⟩:=h
 match Z,hZ with
 |z::Z,hZ=>
  simp only[List.map_cons,List.cons.injEq] at hZ
  rw[List.pairwise_cons] at pw
  exact⟨s,Z,hZ.2,fun y hy=>ok y (by simp[hy]),pw.2⟩
theorem TV{n:Nat}{l:Fr}{x:Operand}{ps:Array Tmp}{asg bd:Code}{gf:Nat}{cap:List Value}{N:Nat}{xs:Nat→List Value}{A:Nat→AB}{K0:List AB}(ln:Nat→Fr)(lb:Nat→Nat→Fr)(Mid:Nat→Nat→List AB→Prop)(Inv:Nat→List AB→Prop)(Ex:Code→Nat→List AB→Prop)
 (e:c= .rangeFunc x ps asg bd)(hx:fe n l x= .func (.func gf) #[] cap.toArray)(eg: ∀a w,(callFunc gf a).run P w= .ok (.enter gf a) w)
 (hit:cJ P gf cap N xs A)(h0:Inv 0 K0)(hs:sat g w (K0++([A 0]++L)))(hps: ∀i,i<N→(xs i).length=ps.size)
 (hfr: ∀i,i<N→({tmps:=(ps.zip (xs i).toArray).foldl (fun t (p,v)=>t.setIfInBounds p v) (Ad ds n l).tmps,defers:= []}:Act)=mk n (ln i))
 (has: ∀i,i<N→ ∀(lp:Nat) (w1:World) (K:List AB) (G:AB),Inv i K→sat g w1 (K++([A (i+1)]++ [G]))→WP (some lp) P asg (Exit.then (fun a w2=> ∃r K2,a=mk n (lb i r)∧Mid i r K2∧sat g w2 (K2++([A (i+1)]++ [G]))) (fun _ _ _=>False)) (mk n (ln i)) w1)
 (hbody: ∀i,i<N→ ∀(lp:Nat) (w1:World) (r:Nat) (K:List AB) (G:AB),Mid i r K→sat g w1 (K++([A (i+1)]++ [G]))→WP (some lp) P bd (RB g Inv Ex [A (i+1)] i G) (mk n (lb i r)) w1)
 (hdone: ∀(D:Nat) (w1:World) (K:List AB),Inv N K→sat g w1 (pt D (.deferred (some []))::(K++([A N]++L)))→Q .normal (Ad (RV D::ds) n l) w1)
 (hstop: ∀(D:Nat) (w1:World) (ex:Code) (i:Nat) (K:List AB),i<N→Ex ex i K→sat g w1 (pt D (.deferred (some []))::(K++L))→WP none P ex Q (Ad (RV D::ds) n l) w1):WP none P c Q (Ad ds n l) w:=fun hL m=>by
 subst e
 refine wpIn_rangeFunc ?_
 intro fn hfn
 obtain⟨rec,hrec⟩: ∃rec:LoopState→Option Code→Loop,rec=fun st pe=> {state:=st,pending:=pe,fn,tmps:=(Ad ds n l).tmps,params:=ps,assign:=asg,body:=bd,defers:=w.heap.size}:=⟨_,rfl⟩
 obtain⟨W1,hW1⟩: ∃W1,(w.alloc (.deferred (some []))).alloc (.loop (rec .ready none))=W1:=⟨_,rfl⟩
 have hs1:sat g W1 (pt (w.heap.size+1) (.loop (rec .ready none))::pt w.heap.size (.deferred (some []))::(K0++([A 0]++L))):=by
  have h1:=CN (CN hs (.deferred (some []))) (.loop (rec .ready none))
  rw[World.size_alloc] at h1
  rw[←hW1]
  exact h1
 let D:=w.heap.size
 let J:Nat→AB:=fun i h=> ∃K,Inv i K∧Aj (pt (D+1) (.loop (rec .ready none))::pt D (.deferred (some []))::K) h
 let E:Nat→AB:=fun i h=> ∃x:Code×List AB,Ex x.1 i x.2∧Aj (pt (D+1) (.loop (rec .done (some x.1)))::pt D (.deferred (some []))::x.2) h
 have openJ: ∀ {i:Nat} {w1:World} {G:List AB},sat g w1 (J i::G)→ ∃K,Inv i K∧sat g w1 (pt (D+1) (.loop (rec .ready none))::pt D (.deferred (some []))::(K++G)):=fun {i w1 G} h=>by
  obtain⟨K,hK,h1⟩:=Af (X:=List AB) (p:=fun K=>Inv i K) (B:=fun K=>Aj (pt (D+1) (.loop (rec .ready none))::pt D (.deferred (some []))::K)) h (fun k hk=>hk)
  exact⟨K,hK,AK h1⟩
 have closeJ: ∀ {i:Nat} {w1:World} {K G:List AB},Inv i K→sat g w1 (pt (D+1) (.loop (rec .ready none))::pt D (.deferred (some []))::(K++G))→sat g w1 (J i::G):=fun {i w1 K G} hK h=>
  AI (AO (K:=pt (D+1) (.loop (rec .ready none))::pt D (.deferred (some []))::K) h) fun k hk=>⟨K,hK,hk⟩
 have openE: ∀ {i:Nat} {w1:World} {G:List AB},sat g w1 (E i::G)→ ∃x:Code×List AB,Ex x.1 i x.2∧sat g w1 (pt (D+1) (.loop (rec .done (some x.1)))::pt D (.deferred (some []))::(x.2++G)):=fun {i w1 G} h=>by
  obtain⟨x,hK,h1⟩:=Af (X:=Code×List AB) (p:=fun x=>Ex x.1 i x.2) (B:=fun x=>Aj (pt (D+1) (.loop (rec .done (some x.1)))::pt D (.deferred (some []))::x.2)) h (fun k hk=>hk)
  exact⟨x,hK,AK h1⟩
 have closeE: ∀ {i:Nat} {w1:World} {ex:Code} {K G:List AB},Ex ex i K→sat g w1 (pt (D+1) (.loop (rec .done (some ex)))::pt D (.deferred (some []))::(K++G))→sat g w1 (E i::G):=fun {i w1 ex K G} hK h=>
  AI (AO (K:=pt (D+1) (.loop (rec .done (some ex)))::pt D (.deferred (some []))::K) h) fun k hk=>⟨(ex,K),hK,hk⟩
 have turn: ∀ {st st2:LoopState} {pe pe2:Option Code} {w1:World} {G:List AB},sat g w1 (pt (D+1) (.loop (rec st pe))::G)→sat g (w1.putObj (D+1) (.loop (rec st2 pe2))) (pt (D+1) (.loop (rec st2 pe2))::G):=fun {st st2 pe pe2 w1 G} h=>
  B0 h ⟨rfl,rfl,rfl,Nat.le_refl _⟩ (World.putObj_heap_same (Array.getElem?_eq_some_iff.1 (Ax (i:=0) h rfl)).1) (fun j hj=>World.putObj_heap_other hj)
 have endL: ∀ {st:LoopState} {pe:Option Code} {w2:World} {G:List AB},st≠ .busy→sat g w2 (pt (D+1) (.loop (rec st pe))::G)→ ∃w3,(Instr.endLoop (D+1)).run P w2= .ok pe w3∧sat g w3 G:=fun {st pe w2 G} hb h=>by
  have hl:=Ax (i:=0) h rfl
  have h1:=run_endLoop (P:=P) hl (by rw[hrec];exact hb)
  have h2:(rec st pe).pending=pe:=by rw[hrec]
  rw[h2] at h1
  exact⟨_,h1,Ar (B0 h ⟨rfl,rfl,rfl,Nat.le_refl _⟩ (World.putObj_heap_same (Array.getElem?_eq_some_iff.1 hl).1) (fun j hj=>World.putObj_heap_other hj))⟩
 refine⟨D+1,[{target:= .collected D,args:= #[]}],W1,{target:= .fn (.func gf) cap.toArray,args:= #[.func (.yield (D+1)) #[] #[]]},W1,gf,
  #[.func (.yield (D+1)) #[] #[]]++cap.toArray,W1,?_,?_,fun _ _=>trivial,?_,fun hh=>by simp[Fence.wide] at hh,?_⟩
 · rw[←hW1,hrec];exact run_enterLoop_outer _ _ _ _ _
 · rw[An]
   simp only[resolve,hx]
   simp[go_sem]
   rfl
 · simp[invoke,go_sem,eg]
 · have hargs: #[Value.func (.yield (D+1)) #[] #[]]++cap.toArray=(Value.func (.yield (D+1)) #[] #[]::cap).toArray:=by simp
   rw[hargs]
   refine Jz ((hit g W1 L (D+1) J E ?_ (closeJ h0 hs1)).mono ?_)
   · intro i hi w1 G hw1 m
     obtain⟨K,hK,h1⟩:=openJ hw1
     have hl1:w1.heap[D+1]? =some (.loop (rec .ready none)):=Ax (i:=0) h1 rfl
     have hy:=run_yield (P:=P) (args:=(xs i).toArray) hl1 (by rw[hrec];simpa using hps i hi)
     rw[hrec] at hy
     refine⟨fn,_,asg,bd,hy,roundIn_of_wpIn hfn ?_⟩
     rw[hfr i hi]
     have hG:sat g w1 (K++([A (i+1)]++ [Aj (G++ [pt (D+1) (.loop (rec .ready none)),pt D (.deferred (some []))])])):=by
      have h3:sat g w1 ((K++ [A (i+1)])++(G++ [pt (D+1) (.loop (rec .ready none)),pt D (.deferred (some []))])):=by
       have:=AN (A:= [pt (D+1) (.loop (rec .ready none)),pt D (.deferred (some []))]) (B:=K++([A (i+1)]++G)) h1
       simpa only[List.append_assoc] using this
      have h5:=AN (A:=K++ [A (i+1)]) h3
      have h6:=AN (A:= [_]) (B:=K++ [A (i+1)]) (AO h5)
      simpa only[List.append_assoc] using h6
     refine wpIn_mono (has i hi (D+1) w1 K _ hK hG (fun⟨a,w,h⟩=>h) m) ?_
     intro e a2 w2 hp
     cases e with
     |normal=> ?_
     |ret=>exact hp
     |exit id=>exact hp
     |goto t=>exact hp
     |panic ch=>exact hp
     |outgrown=>exact hp
     obtain⟨r,K2,rfl,hM,hw2⟩:=hp
     have h1:sat g w2 (pt (D+1) (.loop (rec .ready none))::pt D (.deferred (some []))::(K2++([A (i+1)]++G))):=by
      have h5:=AK (L:=K2++ [A (i+1)]) (AN (A:=K2++ [A (i+1)]) (B:= [_]) (by simpa only[List.append_assoc] using hw2))
      have h6:sat g w2 (G++([pt (D+1) (.loop (rec .ready none)),pt D (.deferred (some []))]++(K2++ [A (i+1)]))):=by simpa only[List.append_assoc] using h5
      have h7:=AN h6
      simpa only[List.append_assoc,List.cons_append,List.nil_append] using h7
     have hl1:w2.heap[D+1]? =some (.loop (rec .ready none)):=Ax (i:=0) h1 rfl
     refine⟨_,run_beginRound hl1 (by rw[hrec]),?_⟩
     have h2:sat g (w2.putObj (D+1) (.loop (rec .busy none))) (pt (D+1) (.loop (rec .busy none))::pt D (.deferred (some []))::(K2++([A (i+1)]++G))):=turn h1
     have e2:({rec .ready none with state:= .busy}:Loop)=rec .busy none:=by rw[hrec]
     rw[e2]
     have h3:sat g (w2.putObj (D+1) (.loop (rec .busy none))) ((K2++ [A (i+1)])++(G++ [pt (D+1) (.loop (rec .busy none)),pt D (.deferred (some []))])):=by
      have:=AN (A:= [pt (D+1) (.loop (rec .busy none)),pt D (.deferred (some []))]) (B:=K2++([A (i+1)]++G)) h2
      simpa only[List.append_assoc] using this
     have h4:sat g (w2.putObj (D+1) (.loop (rec .busy none))) (K2++([A (i+1)]++ [Aj (G++ [pt (D+1) (.loop (rec .busy none)),pt D (.deferred (some []))])])):=by
      have h5:=AN (A:=K2++ [A (i+1)]) h3
      have h6:=AN (A:= [_]) (B:=K2++ [A (i+1)]) (AO h5)
      simpa only[List.append_assoc] using h6
     have back: ∀ {w2:World} {M:List AB},sat g w2 (M++ [Aj (G++ [pt (D+1) (.loop (rec .busy none)),pt D (.deferred (some []))])])→sat g w2 (pt (D+1) (.loop (rec .busy none))::pt D (.deferred (some []))::(M++G)):=fun {w2 M} h=>by
      have h5:=AK (L:=M) (AN (A:=M) (B:= [_]) h)
      have h6:sat g w2 (G++([pt (D+1) (.loop (rec .busy none)),pt D (.deferred (some []))]++M)):=by simpa only[List.append_assoc] using h5
      have h7:=AN h6
      simpa only[List.append_assoc,List.cons_append,List.nil_append] using h7
     have fin: ∀(jump:Option Code) (w2:World),w2.heap[D+1]? =some (.loop (rec .busy none))→
       (Instr.endRound (D+1) jump).run P w2= .ok (.bool jump.isNone) (w2.putObj (D+1) (.loop (rec (if jump.isNone then .ready else .done) jump))):=fun jump w2 h=>by
      have:=run_endRound (P:=P) jump h
      rw[hrec] at this ⊢
      exact this
     refine wpIn_mono (hbody i hi (D+1) _ r K2 _ hM h4 (fun⟨a,w,h⟩=>h) m) ?_
     intro e a3 w3 hp
     cases e with
     |normal=>
      obtain⟨K2,hK2,h5⟩:=hp
      have h6:=back (M:=K2++ [A (i+1)]) (by simpa only[List.append_assoc] using h5)
      refine⟨_,_,fin none w3 (Ax (i:=0) h6 rfl),.inl ⟨rfl,?_⟩⟩
      have h7:=turn (st2:= .ready) (pe2:=none) h6
      rw[List.append_assoc] at h7
      exact closeJ hK2 h7
     |ret=>
      obtain⟨K2,hK2,h5⟩:=hp
      have h6:=back (M:=K2) h5
      exact⟨_,_,fin (some .ret) w3 (Ax (i:=0) h6 rfl),.inr ⟨rfl,closeE hK2 (turn (st2:= .done) (pe2:=some .ret) h6)⟩⟩
     |exit id=>
      obtain⟨K2,hK2,h5⟩:=hp
      have h6:=back (M:=K2) h5
      exact⟨_,_,fin (some (.exit id)) w3 (Ax (i:=0) h6 rfl),.inr ⟨rfl,closeE hK2 (turn (st2:= .done) (pe2:=some (.exit id)) h6)⟩⟩
     |goto t=>exact hp.elim
     |panic ch=>exact hp.elim
     |outgrown=>exact hp.elim
   · rintro e w2 ⟨⟨v,rfl⟩,h|⟨i,hi,h⟩⟩
     · obtain⟨K,hK,h1⟩:=openJ h
       obtain⟨w3,hw3,hs3⟩:=endL (st:= .ready) (pe:=none) (by simp) h1
       exact⟨none,w3,hw3,hdone D _ K hK hs3⟩
     · obtain⟨⟨ex,K⟩,hK,h1⟩:=openE h
       obtain⟨w3,hw3,hs3⟩:=endL (st:= .done) (pe:=some ex) (by simp) h1
       exact⟨some ex,w3,hw3,hstop D _ ex i K hi hK hs3 hL _⟩
theorem sat_midA{A M K:List AB}{w:World}:sat g w (K++(A++M))↔sat g w (K++([Aj A]++M)):=by
 constructor
 · intro h
   have h1:=AN (A:=K) (B:=A++M) h
   rw[List.append_assoc] at h1
   exact AN (A:= [Aj A]++M) (B:=K) (AO h1)
 · intro h
   have h1:sat g w (A++(M++K)):=AK (AN (A:=K) (B:= [Aj A]++M) h)
   rw[←List.append_assoc] at h1
   exact AN h1
theorem XL{f:FuncId}{cap:List Value}{N:Nat}{xs:Nat→List Value}{At:List AB}(h:IT P f cap N xs At):cJ P f cap N xs fun _=>Aj At:=by
 intro g w F k J E hY hs
 have h0:sat g w (J 0::At++F):=(sat_midA (K:= [J 0])).2 hs
 refine(h g w F k J E (fun i hi w1 G hw m=>YieldAt.mono (hY i hi w1 G ((sat_midA (K:= [J i])).1 hw) m) ?_) h0).mono ?_
 · rintro e w' (⟨h1,h2⟩|h1)
   · exact .inl ⟨h1,(sat_midA (K:= [J (i+1)])).2 h2⟩
   · exact .inr h1
 · rintro e w' ⟨h1,h2|h2⟩
   · exact⟨h1,.inl ((sat_midA (K:= [J N])).1 h2)⟩
   · exact⟨h1,.inr h2⟩
theorem XM{Inv:Nat→List AB→Prop}{Ex:Code→Nat→List AB→Prop}{At:List AB}{i:Nat}{G:AB}: ∀e a w,RB g Inv Ex At i G e a w→RB g Inv Ex [Aj At] i G e a w
 | .normal,_,_,⟨K,h1,h2⟩=>⟨K,h1,sat_midA.1 h2⟩
 | .ret,_,_,h=>h
 | .exit _,_,_,h=>h
 | .goto _,_,_,h=>h.elim
 | .panic _,_,_,h=>h.elim
 | .outgrown,_,_,h=>h.elim
end
section
variable {P : Program} {Q : Exit → Act → World → Prop} {w : World} {c : Code} {ds : List Deferred} {f : FuncId} {fn : Func} {cap : List Value} {N : Nat} {xs : Nat → List Value} {At : List AB} {ops : Array Oper} {n : Nat} {l : Fr}
theorem PP(n:Nat)(l:Nat→Fr)(hf:P.funcs[f]? =some fn)(hb:fn.body=some (CA fn []))(hn:fn.ntmps=n)(ha:Nat.ble (cap.length+1) n=true)(hl: ∀k,Cg (Value.func (.yield k) #[] #[]::cap) 0=l k)
 (h: ∀(g w:World) (R:AB) (k:Nat) (J E:Nat→AB),
   (∀i,i<N→ ∀(w1:World) (G:List AB),sat g w1 (J i::At++G)→ ∀m,YieldAt (FW none) m P k (xs i).toArray w1 fun e w'=>(e= .returned (.bool true)∧sat g w' (J (i+1)::At++G))∨(e= .returned (.bool false)∧sat g w' (E i::G)))→
   sat g w (J 0::At++ [R])→WP none P (CA fn []) (D6 0 P fn fun e w'=>(∃v,e= .returned v)∧(sat g w' (J N::At++ [R])∨ ∃i,i<N∧sat g w' [E i,R])) (mk n (l k)) w):IT P f cap N xs At:=by
 intro g w F k J E hY hs
 have fold: ∀ {w:World} {M:List AB},sat g w (M++F)→sat g w (M++ [Aj F]):=fun {w M} h=>AN (A:= [Aj F]) (AO (AN h))
 have unfold': ∀ {w:World} {M:List AB},sat g w (M++ [Aj F])→sat g w (M++F):=fun {w M} h=>AN (AK (AN (B:= [Aj F]) h))
 refine Calls.mono (R:=fun e w'=>(∃v,e= .returned v)∧(sat g w' ((J N::At)++ [Aj F])∨ ∃i,i<N∧sat g w' [E i,Aj F])) ?_ ?_
 · refine HR (m:=0) (callsIn_of_wp_marks hf hb trivial ?_)
   rw[hn,Jd (Value.func (.yield k) #[] #[]::cap) n (by simpa using Nat.le_of_ble_eq_true ha),hl]
   exact FT (h g w (Aj F) k J E hY (fold hs)) 0
 · rintro e w' ⟨he,h1|⟨i,hi,h1⟩⟩
   · exact⟨he,.inl (unfold' h1)⟩
   · exact⟨he,.inr ⟨i,hi,unfold' (M:= [E i]) h1⟩⟩
def YP(P:Program)(ops:Array Oper)(Q:Exit→Act→World→Prop)(rest:List Nat)(a:Act)(w:World):Prop:= ¬LetsOut Q→ ∀m,wpOpsIn (FW none) m P ops Q rest a w
theorem mA{id:Nat}(pre rest:List Nat)(e:c= .region id ops false)(hd:Bi ops=true)(hi:List.range ops.size=pre++rest)(h:PO P ops (Exit.then (YP P ops Q rest) Q) pre (Ad ds n l) w):WP none P c Q (Ad ds n l) w:=fun hL m=>by
 subst e
 have h3:=J2 hd hL rest (fun a w hk=>hk hL m) pre _ _ h.out
 rw[←hi] at h3
 exact wpIn_region h3
theorem cK{rest:List Nat}{a:Act}(hd:Bi ops=true)(h:PO P ops Q rest a w):YP P ops Q rest a w:=fun hL _=>J1 hd hL _ _ _ h.out
theorem XN{j k:Nat}{rest:List Nat}{d:Option Nat}{args xa:List Value}(h:Gr ops n l j=true)(hy:Rn (EV ops j) n l=some (d,k,args))(hd:Bi ops=true){S1 S2:World→Prop}(hx:xa=args)
 (hY: ∀m,YieldAt (FW none) m P k xa.toArray w fun e w'=>(e= .returned (.bool true)∧S1 w')∨(e= .returned (.bool false)∧S2 w'))
 (h1: ∀w',S1 w'→ ∃l',EJ n l d (.bool true)=some l'∧PO P ops Q rest (Ad ds n l') w')
 (h2: ∀w',S2 w'→ ∃l',EJ n l d (.bool false)=some l'∧PO P ops Q rest (Ad ds n l') w'):YP P ops Q (j::rest) (Ad ds n l) w:=fun hL m=>by
 subst hx
 unfold Gr at h
 rw[wpOpsIn_cons]
 unfold wpOpIn
 cases ho:ops[j]? with
 |none=>simp[ho] at h
 |some o=>
  simp only[ho] at h
  have e:EV ops j=o:=by simp[EV,ho]
  rw[e] at hy
  simp only[CF,h,if_true]
  refine PN hy (YieldAt.mono (hY (m-1)) ?_)
  rintro e w' (⟨rfl,hs⟩|⟨rfl,hs⟩)
  · obtain⟨l',hl,hr⟩:=h1 w' hs
    exact⟨_,rfl,l',hl,J1 hd hL _ _ _ hr.out⟩
  · obtain⟨l',hl,hr⟩:=h2 w' hs
    exact⟨_,rfl,l',hl,J1 hd hL _ _ _ hr.out⟩
end
end Go.Proofs.YtcgkoffnknpgjaaGreatDoor

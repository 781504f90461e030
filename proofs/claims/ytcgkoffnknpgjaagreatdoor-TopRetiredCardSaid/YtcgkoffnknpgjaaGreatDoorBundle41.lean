/-
  The pieces of the graph of which at most one object is there: a heap's cells, roots, arrays of one value. No program in sight.
-/
import Derived.Test.YtcgkoffnknpgjaaGreatDoorBundle31
import Derived.Test.YtcgkoffnknpgjaaGreatDoorHq
import Derived.Test.YtcgkoffnknpgjaaGreatDoorBs
import Derived.DeepKeys
import Derived.Test.YtcgkoffnknpgjaaGreatDoorBundle39
namespace Go.Proofs.YtcgkoffnknpgjaaGreatDoor
set_option linter.unusedVariables false
set_option linter.unusedSimpArgs false
open Tryz
set_option maxHeartbeats 4000000
section
def rdK{g w:World}{A:List Assn}{b:Nat}{cs:List Value}{t:TypeId}(id i j off k:Nat)(hs:sat g w A)(hj:A[j]? =some (Cl b cs t):=by rfl)(hk:Nat.ble (off+k) cs.length=true:=by kernel_rfl):Iq w:=rd id i j off k hs hj hk
abbrev F256:List Bool:=List.replicate 256 false
def eHo(x:Bool):List Value:= [iV 0,iV 0,uV 0,iV 0,uV 0,iV 0,uV 0,iV 0,uV 0,.bool x]
theorem eHo_ok:Enc 10 eHo:=⟨fun _=>rfl,fun x v hv=>by
 simp only[eHo,List.mem_cons,List.not_mem_nil,or_false] at hv
 rcases hv with rfl |rfl |rfl |rfl |rfl |rfl |rfl |rfl |rfl |rfl<;>rfl⟩
section
variable {a b : Value} {L : List Bool} {q k : Nat} {x y : Bool}
theorem hp_len(hL:L.length=256):(a::b::fl eHo L).length=2562:=by
 rw[List.length_cons,List.length_cons,fl_len eHo_ok,hL]
theorem hp_one(ha:a.oneCell'=true)(hb:b.oneCell'=true): ∀v∈(a::b::fl eHo L),v.oneCell'=true:=fun v hv=>by
 rcases List.mem_cons.1 hv with rfl |hv
 · exact ha
 · rcases List.mem_cons.1 hv with rfl |hv
   · exact hb
   · exact fl_one eHo_ok _ v hv
theorem hp_at{j:Nat}{v:Value}(h:L[q]? =some x)(hv:(eHo x)[j]? =some v)(hk:k=2+q*10+j):(a::b::fl eHo L)[k]? =some v:=by
 subst hk
 rw[show 2+q*10+j=(q*10+j)+1+1 from by omega,List.getElem?_cons_succ,List.getElem?_cons_succ]
 exact fl_get eHo_ok h hv
theorem setL_two(a b:Value): ∀(ks:List (Nat×Value)) (cs:List Value),setL (a::b::cs) (ks.map fun q=>(2+q.1,q.2))=a::b::setL cs ks
 | [],_=>rfl
 |(k,v)::ks,cs=>by
  simp only[List.map_cons,setL]
  rw[show 2+k=k+1+1 from by omega,List.set_cons_succ,List.set_cons_succ]
  exact setL_two a b ks _
def hks(q:Nat)(y:Bool):List (Nat×Value):= [(2+q*10,iV 0),(2+q*10+1,iV 0),(2+q*10+2,uV 0),(2+q*10+3,iV 0),(2+q*10+4,uV 0),(2+q*10+5,iV 0),(2+q*10+6,uV 0),(2+q*10+7,iV 0),(2+q*10+8,uV 0),(2+q*10+9,.bool y)]
theorem hp_put(h:L[q]? =some x):setL (a::b::fl eHo L) (hks q y)=a::b::fl eHo (L.set q y):=by
 have h1:=fl_upd eHo_ok h (y:=y) [(0,iV 0),(1,iV 0),(2,uV 0),(3,iV 0),(4,uV 0),(5,iV 0),(6,uV 0),(7,iV 0),(8,uV 0),(9,.bool y)] rfl rfl rfl
 rw[←h1]
 have h2:=setL_two a b ([(0,Value.int .i64 0),(1,iV 0),(2,uV 0),(3,iV 0),(4,uV 0),(5,iV 0),(6,uV 0),(7,iV 0),(8,uV 0),(9,.bool y)].map fun p=>(q*10+p.1,p.2)) (fl eHo L)
 rw[←h2]
 unfold hks
 simp only[List.map_cons,List.map_nil,Nat.add_assoc,Nat.add_zero]
theorem hp_putk(h:L[q]? =some x)(hk:k=2+q*10):setL (a::b::fl eHo L) [(k,iV 0),(k+1,iV 0),(k+2,uV 0),(k+3,iV 0),(k+4,uV 0),(k+5,iV 0),(k+6,uV 0),(k+7,iV 0),(k+8,uV 0),(k+9,.bool y)]=a::b::fl eHo (L.set q y):=by
 subst hk
 exact hp_put h
theorem hks_ok(hL:L.length=256)(hq:q<256)(hk:k=2+q*10): ∀p∈ [(k,Value.int .i64 0),(k+1,iV 0),(k+2,uV 0),(k+3,iV 0),(k+4,uV 0),(k+5,iV 0),(k+6,uV 0),(k+7,iV 0),(k+8,uV 0),(k+9,.bool y)],p.1<(a::b::fl eHo L).length∧p.2.oneCell'=true:=fun p hp=>by
 rw[hp_len hL]
 subst hk
 simp only[List.mem_cons,List.not_mem_nil,or_false] at hp
 rcases hp with rfl |rfl |rfl |rfl |rfl |rfl |rfl |rfl |rfl |rfl<;>exact⟨by dsimp only;omega,rfl⟩
end
theorem rep_backn: ∀n q:Nat,((List.replicate n false).set q true).set q false=List.replicate n false
 |0,_=>rfl
 |n+1,0=>rfl
 |n+1,q+1=>by rw[List.replicate_succ,List.set_cons_succ,List.set_cons_succ,rep_backn n q]
theorem rep_back{q:Nat}:((List.replicate 256 false).set q true).set q false=List.replicate 256 false:=rep_backn 256 q
theorem rep_fget{q:Nat}(h:q<256):(List.replicate 256 false)[q]? =some false:=by rw[List.getElem?_replicate,if_pos h]
theorem rep_tget{q:Nat}(h:q<256):((List.replicate 256 false).set q true)[q]? =some true:=List.getElem?_set_self (by rw[List.length_replicate];exact h)
theorem rep_slen{q:Nat}{y:Bool}:((List.replicate 256 false).set q y).length=256:=by rw[List.length_set,List.length_replicate]
theorem run_at{v:Value}{m k:Nat}{H:List Value}(h0:H.length≤k)(h1:k<H.length+m):(H++List.replicate m v)[k]? =some v:=by
 rw[List.getElem?_append_right h0,List.getElem?_replicate,if_pos om]
theorem run_put{v:Value}{m k:Nat}{H:List Value}(h0:H.length≤k)(h1:k<H.length+m):setL (H++List.replicate m v) [(k,v)]=H++List.replicate m v:=by
 simp only[setL]
 rw[List.set_append_right _ _ h0]
 congr 1
 apply List.ext_getElem?
 intro i
 rw[List.getElem?_set]
 split
 · rename_i e
   subst e
   rw[List.length_replicate,if_pos om,List.getElem?_replicate,if_pos om]
 · rfl
def ePB(b:Nat):List Value:= [pV b]
theorem ePB_ok:Enc 1 ePB:=⟨fun _=>rfl,fun x v hv=>by
 obtain rfl:=List.mem_singleton.1 hv
 rfl⟩
def sp(ps:List Nat)(j:Nat):Value:= .pointer ((ps[j]?).map fun b=>⟨b,0,none⟩)
theorem sp_some{ps:List Nat}{j b:Nat}(h:ps[j]? =some b):sp ps j= .pointer (some ⟨b,0,none⟩):=by unfold sp;rw[h];rfl
theorem sp_cell{a0 a1 a2 a3 a4:Value}{ps:List Nat}{j k b:Nat}(h:ps[j]? =some b)(hj:j≤2)(hk:k=4+j): [a0,a1,a2,a3,sp ps 0,sp ps 1,sp ps 2,a4][k]? =some (.pointer (some ⟨b,0,none⟩)):=by
 subst hk
 have:j=0∨j=1∨j=2:=by omega
 rcases this with rfl |rfl |rfl<;>exact congrArg some (sp_some h)
theorem eq_self{P:Program}{t:TypeId}{v:Value}(hk:P.keyTypeAt 8 t=true)(hw:(match P.underlying t with |some (.array _ _)|some (.struct _)=>true|_=>false)=true)(hs:(keyOf P t v).isSome=true)(w:World):(Op.equal t v v).run P w= .ok true w:=by
 obtain⟨lx,hx⟩:=Option.isSome_iff_exists.1 hs
 obtain⟨r,hr,hi⟩:=run_equal_deep w (m:=8) om hk hw hx hx
 rw[hi.2 rfl] at hr
 exact hr
theorem law_eqS{P:Program}{n:Nat}{l:Fr}{o:Oper}{x y:Operand}{t:TypeId}{xs:Array Value}(ho:o.op= .binOp .eql t x y t)(hx:fe n l x= .agg xs)(hy:fe n l y= .agg xs)(hk:P.keyTypeAt 8 t=true)(hw:(match P.underlying t with |some (.array _ _)|some (.struct _)=>true|_=>false)=true)(hs:(keyOf P t (.agg xs)).isSome=true)(hg:P.eqGuardType P.depth t=false)(w:World):
  (execOp (fe n l) o).run P w= .ok (.value (.bool true)) w:=by
 have h:=eq_self hk hw hs w
 simp[execOp,ho,hx,hy,go_sem,eqGuard,hg,binOp,h]
theorem law_neS{P:Program}{n:Nat}{l:Fr}{o:Oper}{x y:Operand}{t:TypeId}{xs:Array Value}(ho:o.op= .binOp .neq t x y t)(hx:fe n l x= .agg xs)(hy:fe n l y= .agg xs)(hk:P.keyTypeAt 8 t=true)(hw:(match P.underlying t with |some (.array _ _)|some (.struct _)=>true|_=>false)=true)(hs:(keyOf P t (.agg xs)).isSome=true)(hg:P.eqGuardType P.depth t=false)(w:World):
  (execOp (fe n l) o).run P w= .ok (.value (.bool false)) w:=by
 have h:=eq_self hk hw hs w
 simp[execOp,ho,hx,hy,go_sem,eqGuard,hg,binOp,h]
theorem law_eqD{P:Program}{n:Nat}{l:Fr}{o:Oper}{x y:Operand}{t:TypeId}{xs ys:Array Value}(ho:o.op= .binOp .eql t x y t)(hx:fe n l x= .agg xs)(hy:fe n l y= .agg ys)(hk:P.keyTypeAt 8 t=true)(hg:P.eqGuardType P.depth t=false)(fx:(Value.agg xs).formed P t=true)(fy:(Value.agg ys).formed P t=true)(L1 L2:List Lit)(h1:P.keyLits 8 t (Value.agg xs).cells.toList=some L1)(h2:P.keyLits 8 t (Value.agg ys).cells.toList=some L2)(hne:L1≠L2)(w:World):
  (execOp (fe n l) o).run P w= .ok (.value (.bool false)) w:=by
 obtain⟨r,hr,hi⟩:=run_equalIn_deep 9992 8 t hk w 8 8 (.agg xs) (.agg ys) L1 L2 fx fy h1 h2
 have hb:r=false:=by
  cases r with
  |false=>rfl
  |true=>exact absurd (hi.1 rfl) hne
 have h:(Op.equal t (.agg xs) (.agg ys)).run P w= .ok r w:=hr
 rw[hb] at h
 simp[execOp,ho,hx,hy,go_sem,eqGuard,hg,binOp,h]
theorem ck_at{a b c d0 d1 d2 d3:Value}{j k:Nat}{s:Int}(hs:s=(j:Int))(hj:j≤3)(hk:k=3+j): [a,b,c,.bool (decide (0<s)),.bool (decide (1<s)),.bool (decide (2<s)),.bool (decide (3<s)),d0,d1,d2,d3][k]? =some (.bool false):=by
 subst hk
 have h:decide ((j:Int)<s)=false:=decide_eq_false om
 have:j=0∨j=1∨j=2∨j=3:=by omega
 rcases this with rfl |rfl |rfl |rfl<;>exact congrArg (fun q=>some (Value.bool q)) h
theorem ck_put{a b c d0 d1 d2 d3:Value}{j k:Nat}{s:Int}(hs:s=(j:Int))(hj:j≤3)(hk:k=3+j):setL [a,b,c,.bool (decide (0<s)),.bool (decide (1<s)),.bool (decide (2<s)),.bool (decide (3<s)),d0,d1,d2,d3] [(k,.bool true)]= [a,b,c,.bool (decide (0<s+1)),.bool (decide (1<s+1)),.bool (decide (2<s+1)),.bool (decide (3<s+1)),d0,d1,d2,d3]:=by
 subst hk
 subst hs
 have:j=0∨j=1∨j=2∨j=3:=by omega
 rcases this with rfl |rfl |rfl |rfl<;>rfl
theorem ck_putA{a b c d0 d1 d2 d3:Value}{j k:Nat}{s:Int}(hs:s=(j:Int))(hj:j≤3)(hk:k=7+j):setL [a,b,c,d0,d1,d2,d3,.bool (decide (0<s)),.bool (decide (1<s)),.bool (decide (2<s)),.bool (decide (3<s))] [(k,.bool true)]= [a,b,c,d0,d1,d2,d3,.bool (decide (0<s+1)),.bool (decide (1<s+1)),.bool (decide (2<s+1)),.bool (decide (3<s+1))]:=by
 subst hk
 subst hs
 have:j=0∨j=1∨j=2∨j=3:=by omega
 rcases this with rfl |rfl |rfl |rfl<;>rfl
theorem ck_okA{a b c d0 d1 d2 d3 e0 e1 e2 e3:Value}{j k:Nat}(hj:j≤3)(hk:k=7+j): ∀p∈ [(k,Value.bool true)],p.1< [a,b,c,e0,e1,e2,e3,d0,d1,d2,d3].length∧p.2.oneCell'=true:=fun p hp=>by
 obtain rfl:=List.mem_singleton.1 hp
 exact⟨by show k<11;omega,rfl⟩
theorem ck_ok{a b c d0 d1 d2 d3 e0 e1 e2 e3:Value}{j k:Nat}(hj:j≤3)(hk:k=3+j): ∀p∈ [(k,Value.bool true)],p.1< [a,b,c,e0,e1,e2,e3,d0,d1,d2,d3].length∧p.2.oneCell'=true:=fun p hp=>by
 obtain rfl:=List.mem_singleton.1 hp
 exact⟨by show k<11;omega,rfl⟩
theorem ht_bs{P:Program}{f:FuncId}{args:List Value}{b i:Nat}{cs:List Value}{t:TypeId}{ps:List Nat}{Q:Value→Prop}(h:HT P f args [Cl b cs t] (fun v K=>Q v∧K= [Cl b cs t]))(hb:ps[i]? =some b):HT P f args [Bs cs t ps] (fun v K=>Q v∧K= [Bs cs t ps]):=by
 intro g w F hs
 refine(h g w (Bs cs t (ps.take i)::Bs cs t (ps.drop (i+1))::F) (bs_get hb hs)).mono ?_
 rintro e w' ⟨v,K,rfl,⟨hQ,rfl⟩,h2⟩
 exact⟨v,_,rfl,⟨hQ,rfl⟩,bs_put hb h2⟩
theorem inS_repl{q d:Int}(z:Int)(hq:d≠q): ∀(k j:Nat),inS q (List.replicate k (d,z)) j= []
 |0,_=>rfl
 |k+1,j=>by
  rw[List.replicate_succ,inS,if_neg hq]
  exact inS_repl z hq k (j+1)
theorem run1_ok{a v:Value}{m k:Nat}(hv:v.oneCell'=true)(h1:k≤m): ∀p∈ [(k,v)],p.1<(a::List.replicate m v).length∧p.2.oneCell'=true:=fun p hp=>by
 obtain rfl:=List.mem_singleton.1 hp
 rw[List.length_cons,List.length_replicate]
 exact⟨by dsimp only;omega,hv⟩
theorem rem_zero(z:Int):(0:Int).tmod z=0:=Int.zero_tmod z
theorem an_clear0{P:Program}{g w:World}{L:List Assn}{ds:List Deferred}{n:Nat}{l:Fr}{N:Act→World→Prop}{Q:Exit→Act→World→Prop}{o:Oper}{t e:Nat}{x:Operand}{a z:Value}{b m:Nat}{ty:Nat}(ho:o.op= .call {callee:= .builtin .clear,args:= #[x],argTypes:= #[t]})(hd:o.dst=none)
 (ht:P.underlying t=some (.slice e))(hi:(P.info? e).map (fun i=>(i.zero,i.size))=some (some z,1))(hz:z.cells= #[z])(h1:z.oneCell'=true)(hm:0<m)(hs:sat g w (Cl b (a::List.replicate m z) ty::L))(hx:fe n l x= .slice (some ⟨b,1,none⟩) m m)
 (h: ∀w',sat g w' (Cl b (a::List.replicate m z) ty::L)→N (mkd ds n l) w'):OP P o (mkd ds n l) w N Q:=by
 refine⟨?_⟩
 have hb:w.heap[b]? =some (.cells (a::List.replicate m z).toArray ty (0,0)):=sat_at (i:=0) hs rfl
 have hzc:(Builtin.zeroCells z.cells m).toList=List.replicate m z:=by
  rw[hz]
  simp[Builtin.zeroCells]
  apply List.ext_getElem
  · simp
  · intro i h1 h2
    simp[Nat.mod_one]
 cases hq':P.info? e with
 |none=>simp[hq'] at hi
 |some inf=>
  simp only[hq',Option.map_some,Option.some.injEq,Prod.mk.injEq] at hi
  have hst:=run_storeCells_at P b 1 ty (List.replicate m z) 0 (a::List.replicate m z).toArray w hb (by simp;omega) (fun u hu=>by rw[List.eq_of_mem_replicate hu];exact h1)
  simp only[Nat.add_zero] at hst
  unfold Oper.wp
  rw[eval_mk]
  obtain⟨m',rfl⟩: ∃m',m=m'+1:=⟨m-1,by omega⟩
  have key:(execOp (fe n l) o).run P w= .ok (.value (.tuple #[])) (w.setRow b (a::List.replicate (m'+1) z).toArray):=by
   have e1:(List.take 1 (a::List.replicate (m'+1) z)++List.replicate (m'+1) z++List.drop (1+(List.replicate (m'+1) z).length) (a::List.replicate (m'+1) z))=a::List.replicate (m'+1) z:=by
    rw[List.length_replicate,List.drop_of_length_le (by simp;omega),List.append_nil]
    rfl
   rw[e1] at hst
   simp[execOp,ho,resolve,invoke,builtin,hx,Builtin.clear_,run_underlying ht,zeroValue,typeInfo,hq',hi.1,hzc,hst]
  rw[key,Oper.upon_value,hd]
  exact h _ (sat_put hs ⟨rfl,rfl,rfl,Nat.le_refl _⟩ (setRow_heap w b _ _ ty _ hb) (fun j hj=>setRow_other w b j _ hj))
theorem an_copy0{P:Program}{g w:World}{L:List Assn}{ds:List Deferred}{n:Nat}{l:Fr}{N:Act→World→Prop}{Q:Exit→Act→World→Prop}{o:Oper}{d t e sz:Nat}{x y:Operand}(ho:o.op= .call {callee:= .builtin .copy,args:= #[x,y],argTypes:= #[t,t]})(hd:o.dst=some d)(hn:Nat.blt d n=true)
 (ht:P.underlying t=some (.slice e))(hi:(P.info? e).map (·.size)=some sz){b o1 n1 c1 o2 c2:Nat}{cs:List Value}{ty:Nat}(hs:sat g w (Cl b cs ty::L))
 (hx:fe n l x= .slice (some ⟨b,o1,none⟩) n1 c1)(hy:fe n l y= .slice (some ⟨b,o2,none⟩) 0 c2)(hfit:o1≤cs.length)
 (h: ∀w',sat g w' (Cl b cs ty::L)→N (mkd ds n ((d,iV 0)::l)) w'):OP P o (mkd ds n l) w N Q:=
 an_copy ho hd hn ht hi hs hx hy 0 (Nat.zero_min _) [] (by rw[Nat.zero_mul];rfl) (fun j u hj=>by cases hj) (fun u hu=>by cases hu) (by rw[List.length_nil];omega) (fun w' h2=>by
  rw[List.append_nil,List.length_nil,Nat.add_zero,List.take_append_drop] at h2
  exact h w' h2)
theorem free_at{A:List Sl2}{s:Nat}{g:Int}(h:freeS A=some (s,g)):takeV A=((s:Int),g,0)∧takeA A=A.set s (1,g)∧A[s]? =some (0,g)∧s<A.length:=by
 have h2:=freeS_some h
 unfold freeS at h
 have hl:=(List.getElem?_eq_some_iff.1 h).1
 have h3:(inS 0 A 0).getD 0 (0,0)=(s,g):=getD_some h
 have h4:=take_some hl
 rw[h3] at h4
 exact⟨h4.1,h4.2,h2,(List.getElem?_eq_some_iff.1 h2).1⟩
theorem inS_hit(q:Int): ∀(A:List Sl2) (k j:Nat) (z e u:Int),A[j]? =some (e,u)→e≠q→inS q A k= []→inS q (A.set j (q,z)) k= [(k+j,z)]
 | [],_,_,_,_,_,h,_,_=>by cases h
 |(e,u)::A,k,0,z,e',u',h,he,hn=>by
  simp only[List.getElem?_cons_zero,Option.some.injEq,Prod.mk.injEq] at h
  obtain⟨rfl,rfl⟩:=h
  rw[inS,if_neg he] at hn
  rw[List.set_cons_zero,inS,if_pos rfl,hn,Nat.add_zero]
 |(e,u)::A,k,j+1,z,e',u',h,he,hn=>by
  rw[List.getElem?_cons_succ] at h
  rw[inS] at hn
  rw[List.set_cons_succ,inS]
  split at hn
  · cases hn
  · rename_i e2
    rw[if_neg e2,inS_hit q A (k+1) j z e' u' h he hn,Nat.add_right_comm,Nat.add_assoc]
theorem inS_clear(q:Int): ∀(A:List Sl2) (k j:Nat) (z e u:Int),e≠q→inS q A k= [(k+j,z)]→inS q (A.set j (e,u)) k= []
 | [],_,_,_,_,_,_,h=>by cases h
 |(e,u)::A,k,0,z,e',u',he,hn=>by
  rw[List.set_cons_zero,inS,if_neg he]
  rw[inS] at hn
  split at hn
  · exact List.tail_eq_of_cons_eq hn
  · have h1:((k+0,z):Nat×Int)∈inS q A (k+1):=by rw[hn];exact List.mem_singleton.2 rfl
    obtain⟨i,hi⟩:=List.getElem?_of_mem h1
    have:=(inS_mem hi).1
    omega
 |(e,u)::A,k,j+1,z,e',u',he,hn=>by
  rw[List.set_cons_succ,inS]
  rw[inS] at hn
  split at hn
  · have h1:=congrArg (fun l:List (Nat×Int)=>l.map Prod.fst) hn
    simp only[List.map_cons,List.map_nil,List.cons.injEq] at h1
    omega
  · rename_i e2
    rw[if_neg e2]
    exact inS_clear q A (k+1) j z e' u' he (by rw[hn,Nat.add_right_comm,Nat.add_assoc])
theorem take_in{A:List Sl2}{s:Nat}{g:Int}(h:freeS A=some (s,g))(h0:inS 1 A 0= []):inS 1 (takeA A) 0= [(s,g)]:=by
 obtain⟨_,h1,h2,_⟩:=free_at h
 rw[h1]
 have:=inS_hit 1 A 0 s g 0 g h2 om h0
 rwa [Nat.zero_add] at this
theorem give_in{A:List Sl2}{s:Nat}{g:Int}(h0:inS 1 A 0= [(s,g)]):inS 1 (giveA A s g) 0= []:=by
 have h1:inS 1 A 0= [(0+s,g)]:=by rw[h0,Nat.zero_add]
 unfold giveA
 split
 · exact inS_clear 1 A 0 s g 0 (g+1) om h1
 · exact inS_clear 1 A 0 s g 2 g om h1
theorem in_get{A:List Sl2}{s:Nat}{g:Int}(h0:inS 1 A 0= [(s,g)]):A[s]? =some (1,g):=by
 have h1:(inS 1 A 0)[0]? =some (s,g):=by rw[h0];rfl
 have:=(inS_mem h1).2
 rwa [Nat.sub_zero] at this
end
theorem t1e203_neq_t{n:Nat}{l:Fr}{o:Oper}{x y:Operand}(a0 a1 c0 c1:Int)(ho:o.op= .binOp .neq 203 x y 203)(hx:fe n l x= .agg #[iV a0,uV a1])(hy:fe n l y= .agg #[iV c0,uV c1])(h:a0=c0∧a1=c1)(w:World):(execOp (fe n l) o).run prog w= .ok (.value (.bool false)) w:=by
 obtain⟨rfl,rfl⟩:=h
 simp[execOp,ho,hx,hy,go_sem]
theorem full0_it(r:Nat)(nn:Int)(hb:Bool):IT prog 391 [pV r] 0 (fun _=> [iV 0,.agg #[iV 0,uV 0]]) [Cl r [iV nn,iV 0,uV 0,iV 0,uV 0,iV 0,uV 0,iV 0,uV 0,.bool hb] 234]:=by
 refine itS func391 ntmps391 fun g w0 R k_ J_ E_ hY h0=> ?_
 have h10:sat g _ (J_ 0::_):=h0
 refine go [rd 0 1 1 1 8 h10]<|unS 39<|go [.s 2 1]<|lwP (.agg #[iV 0,uV 0]) (law_index (t:=232) (x:=Ot 6) (y:=Ot 7) (z:=0) (cs:= #[iV 0,uV 0,iV 0,uV 0,iV 0,uV 0,iV 0,uV 0]) kr underlying232 underlying203 2 kr kr kr 0 om dc (by rfl) _)<|nP 203 [iV 0,uV 0] h10 (fun _ _ h13=> ?_)
 refine g0<|sA [iV 0,uV 0] h13 fun _ h15=>go [.s 3 99999] ?_
 refine plS 7<|go [rd 3 0 0 0 2 h15,.s 3 2]<|lwP (.bool false) (t1e203_neq_t (x:=Ot 11) (y:=Ot 12) 0 0 0 0 kr kr kr ⟨rfl,rfl⟩ _)<|g0 ?_
 refine yN 3<|g0<|unN<|go [.s 2 1]<|lwP (.agg #[iV 0,uV 0]) (law_index (t:=232) (x:=Ot 6) (y:=Ot 7) (z:=1) (cs:= #[iV 0,uV 0,iV 0,uV 0,iV 0,uV 0,iV 0,uV 0]) kr underlying232 underlying203 2 kr kr kr 1 om dc (by rfl) _)<|nP 203 [iV 0,uV 0] h15 (fun _ _ h18=> ?_)
 refine g0<|sA [iV 0,uV 0] h18 fun _ h20=>go [.s 3 99999] ?_
 refine plS 7<|go [rd 3 0 0 0 2 h20,.s 3 2]<|lwP (.bool false) (t1e203_neq_t (x:=Ot 11) (y:=Ot 12) 0 0 0 0 kr kr kr ⟨rfl,rfl⟩ _)<|g0 ?_
 refine yN 3<|g0<|unN<|go [.s 2 1]<|lwP (.agg #[iV 0,uV 0]) (law_index (t:=232) (x:=Ot 6) (y:=Ot 7) (z:=2) (cs:= #[iV 0,uV 0,iV 0,uV 0,iV 0,uV 0,iV 0,uV 0]) kr underlying232 underlying203 2 kr kr kr 2 om dc (by rfl) _)<|nP 203 [iV 0,uV 0] h20 (fun _ _ h23=> ?_)
 refine g0<|sA [iV 0,uV 0] h23 fun _ h25=>go [.s 3 99999] ?_
 refine plS 7<|go [rd 3 0 0 0 2 h25,.s 3 2]<|lwP (.bool false) (t1e203_neq_t (x:=Ot 11) (y:=Ot 12) 0 0 0 0 kr kr kr ⟨rfl,rfl⟩ _)<|g0 ?_
 refine yN 3<|g0<|unN<|go [.s 2 1]<|lwP (.agg #[iV 0,uV 0]) (law_index (t:=232) (x:=Ot 6) (y:=Ot 7) (z:=3) (cs:= #[iV 0,uV 0,iV 0,uV 0,iV 0,uV 0,iV 0,uV 0]) kr underlying232 underlying203 2 kr kr kr 3 om dc (by rfl) _)<|nP 203 [iV 0,uV 0] h25 (fun _ _ h28=> ?_)
 refine g0<|sA [iV 0,uV 0] h28 fun _ h30=>go [.s 3 99999] ?_
 refine plS 7<|go [rd 3 0 0 0 2 h30,.s 3 2]<|lwP (.bool false) (t1e203_neq_t (x:=Ot 11) (y:=Ot 12) 0 0 0 0 kr kr kr ⟨rfl,rfl⟩ _)<|g0 ?_
 refine yN 3<|g0<|unN<|g0<|up<|g0 ?_
 have h32:=tk3 h30.f.f.f.t7
 have he_:0=0:=rfl
 exact en (.tuple #[]) [] ⟨⟨_,rfl⟩,.inl (he_▸h32)⟩
theorem take1_ht(b n:Nat)(A:List Sl2)(s:Nat)(gn:Int)(hT:freeS A=some (s,gn)):HQ 231 [pV b] [Tb b n A] (Value.tuple #[Value.agg #[iV s,uV gn],iV 0]) [Tb b n (takeA A)]:=by
 have h:=take_ht b n A
 rw[(free_at hT).1] at h
 exact h
theorem give1_ht(b n:Nat)(A:List Sl2)(s:Nat)(gn:Int)(hT:inS 1 A 0= [(s,gn)]):HQ 382 [pV b,Value.agg #[iV s,uV gn]] [Tb b n A] (iV 0) [Tb b n (giveA A s gn)]:=by
 exact give_ht b n A s (1,gn) (in_get hT) s gn ⟨rfl,rfl,rfl⟩
theorem check1_ht(b n:Nat)(A:List Sl2)(s:Nat)(gn:Int)(hT:inS 1 A 0= [(s,gn)]):HQ 325 [pV b,Value.agg #[iV s,uV gn]] [Tb b n A] (iV 0) [Tb b n A]:=by
 exact check_ok b n A s (1,gn) (in_get hT) s gn ⟨rfl,rfl,rfl⟩
theorem taken0_ht(b n:Nat)(A:List Sl2)(hT:inS 1 A 0= []):HT prog 459 [pV b] [Tb b n A] (fun v K=> ∃p:Option Addr,∃c:Nat,v=Value.slice p 0 c∧K= [Tb b n A,Sl 203 2 p 0 c (fl eRf [])]):=by
 have h:=taken_ht b n A
 rw[hT] at h
 exact h
theorem taken1_ht(b n:Nat)(A:List Sl2)(s:Nat)(gn:Int)(hT:inS 1 A 0= [(s,gn)]):HT prog 459 [pV b] [Tb b n A] (fun v K=> ∃p:Option Addr,∃c:Nat,v=Value.slice p 1 c∧K= [Tb b n A,Sl 203 2 p 1 c (fl eRf [(s,gn)])]):=by
 have h:=taken_ht b n A
 rw[hT] at h
 exact h
theorem ut1_1_valid(a b c:Nat):HQ 173 [pV a] [Cl a (pV b::iV c::fl eHo F256) 237] (.bool true) [Cl a (pV b::iV c::fl eHo F256) 237]:=by
 refine hiS func173 ntmps173 fun g w0 R h0=>go [rd 1 6 0 0 1 h0] ?_
 exact enR _ [] h0
theorem ut1_2_full:HT prog 320 [.agg #[iV 0,iV 0,uV 0,iV 0,uV 0,iV 0,uV 0,iV 0,uV 0,.bool true]] [] (fun v K=> ∃r10:Nat,v= .func (Fn.func 391) #[] #[pV r10]∧K= [Cl r10 [iV 0,iV 0,uV 0,iV 0,uV 0,iV 0,uV 0,iV 0,uV 0,.bool true] 234]):=by
 refine hiS func320 ntmps320 fun g w0 R h0=>g0<|nP 234 [iV 0,iV 0,uV 0,iV 0,uV 0,iV 0,uV 0,iV 0,uV 0,.bool true] h0 (fun r10 _ h12=> ?_)
 refine g0 ?_
 exact en (.func (Fn.func 391) #[] #[pV r10]) [] ⟨_,_,rfl,⟨r10,rfl,rfl⟩,h12⟩
theorem ut1_3_Check:HQ 230 [.agg #[iV 0,iV 0,uV 0,iV 0,uV 0,iV 0,uV 0,iV 0,uV 0,.bool true]] [] (iV 0) []:=by
 refine hiS func230 ntmps230 fun g w0 R h0=>g0<|nP 234 [iV 0,iV 0,uV 0,iV 0,uV 0,iV 0,uV 0,iV 0,uV 0,.bool true] h0 (fun r10 _ h12=> ?_)
 refine nP 29 [iV 0] h12 (fun r13 _ h15=> ?_)
 refine go [rd 1 1 1 0 1 h15,rd 1 5 1 0 1 h15,rd 1 10 1 9 1 h15,rd 1 13 1 0 1 h15,rd 3 0 1 0 10 h15]<|cP call320 ut1_2_full h15 ?_
 rintro v K _ (⟨r16,rfl,rfl⟩) h18
 have h19:=ap1 h18
 refine g0 ?_
 refine rfS2 (N:=0) (fun i rb_=>([(4,pV rb_),(3,iV 0),(25,.agg #[iV 0,uV 0]),(24,iV 0)]:Fr)) (fun i rb_ K=>K= [Cl rb_ [iV 0,uV 0] 203]) (fun i K=>K= []) (fun c _ K=>False) call391 (full0_it r16 0 true) rfl h19 ?_ ?_ ?_ ?_
 ·
  intro i_ hi_;exact absurd hi_ (Nat.not_lt_zero _)
 · intro i_ hi_;exact absurd hi_ (Nat.not_lt_zero _)
 ·
  rintro D22 w23 K_ ⟨rfl⟩ h24
  have h25:sat g _ (pt D22 (Obj.deferred (some []))::_):=h24
  have h26:=h25.b.t5
  refine g0<|sA [iV 0] h26 fun _ h28=>g0 ?_
  refine enD (iV 0) h28.a.t5 (fun w31 h30=> [rd 0 0 1 0 1 h30]) (fun w31 h30=> ?_) [iV 0] [(⟨r13,0,none⟩,iV 0)]
  exact⟨_,_,rfl,⟨rfl,rfl⟩,h30.d.t1⟩
 intro _ _ _ _ _ _ hf_;exact hf_.elim
theorem ut1_4_New:HQ 149 [iV 0,.bool true] [] (.tuple #[.agg #[iV 0,iV 0,uV 0,iV 0,uV 0,iV 0,uV 0,iV 0,uV 0,.bool true],iV 0]) []:=by
 refine hiS func149 ntmps149 fun g w0 R h0=>g0<|nP 234 [iV 0,iV 0,uV 0,iV 0,uV 0,iV 0,uV 0,iV 0,uV 0,.bool false] h0 (fun _ _ h12=> ?_)
 refine g0<|nP 234 [iV 0,iV 0,uV 0,iV 0,uV 0,iV 0,uV 0,iV 0,uV 0,.bool false] h12 (fun _ _ h15=> ?_)
 refine sA [iV 0,iV 0,uV 0,iV 0,uV 0,iV 0,uV 0,iV 0,uV 0,.bool true] h15 fun _ h17=>go [rd 2 0 0 0 10 h17]<|cl0 call230 ut1_3_Check h17 fun _ h19=> ?_
 have h20:=h19.a.t3
 refine go [rd 5 0 0 0 10 h19]<|sA [iV 0,iV 0,uV 0,iV 0,uV 0,iV 0,uV 0,iV 0,uV 0,.bool true] h20 fun _ h22=>g0 ?_
 exact enR _ [rd 0 0 0 0 10 h22] h22.b.t1
theorem hmake_ht(b t n:Nat)(A:List Sl2)(s:Nat)(gn:Int)(hT:freeS A=some (s,gn))(hf0:0≤ -(n:Int)+256)(hf1:0≤(n:Int)-1)(hf2:0≤(n:Int)-(s:Int)-1):HQ 151 [pV b,iV 0,.bool true] [Cl b (pV t::iV n::fl eHo F256) 237,Tb t n A] (.tuple #[.agg #[iV s,uV gn],iV 0]) [Cl b (pV t::iV n::fl eHo (F256.set s true)) 237,Tb t n (takeA A)]:=by
 refine hiS func151 ntmps151 fun g w0 R h0=>g0<|nP 203 [iV 0,uV 0] h0 (fun _ _ h12=> ?_)
 have h13:=h12.a.t4
 refine g0<|cl1 call173 (ut1_1_valid b t n) h13 fun _ h15=>g0<|cl0 call149 ut1_4_New h15 fun _ h17=>g0<|nP 234 [iV 0,iV 0,uV 0,iV 0,uV 0,iV 0,uV 0,iV 0,uV 0,.bool false] h17 (fun _ _ h20=> ?_)
 refine sA [iV 0,iV 0,uV 0,iV 0,uV 0,iV 0,uV 0,iV 0,uV 0,.bool true] h20 fun _ h22=> ?_
 have h23:=h22.c.t5
 refine go [rd 6 3 1 0 1 h22]<|cl1 call231 (take1_ht t n A s gn hT) h23 fun _ h25=>g0<|nP 203 [iV 0,uV 0] h25 (fun _ _ h28=> ?_)
 refine sA [iV s,uV gn] h28 fun _ h30=>g0<|dw (fls [0,1,2,3,4,5,6] (Tr.an 7 Tr.nil)) h30 fun _ h32=>go [rd 9 2 0 0 1 h32,rd 9 3 2 0 10 h32,.s 9 6]<|lw (.pointer (some ⟨b,s*10+2,none⟩)) (fun _=>law_indexArr (x:=Ot 41) (i:=Ot 38) (b:=b) (off:=2) (z:=(s:Int)) kr underlying235 10 kr s kr kr om om (s*10+2) om _) ?_
 have h33:=h32.c.t6
 refine actG ?_
 refine an_store [(s*10+2,iV 0),(s*10+3,iV 0),(s*10+4,uV 0),(s*10+5,iV 0),(s*10+6,uV 0),(s*10+7,iV 0),(s*10+8,uV 0),(s*10+9,iV 0),(s*10+10,uV 0),(s*10+11,.bool true)] (cs':=(pV t::iV n::fl eHo (F256.set s true))) kr kr (hks_ok (q:=s) List.length_replicate om om) (hp_putk (rep_fget om) om) h33 ?_
 intro _ h35
 refine⟨kd [],nxN ?_⟩
 have h36:=h35.d.t6
 refine go [rd 10 0 1 0 2 h35]<|sA [iV s,uV gn] h36 fun _ h38=>g0 ?_
 exact enR (.tuple #[.agg #[iV s,uV gn],iV 0]) [rd 0 0 0 0 2 h38] (tk3 (sf2 (sf2 (sf5 h38.c.b.t6))))
theorem ut1_5_valid(a b c d:Nat):HQ 173 [pV a] [Cl a (pV c::iV d::fl eHo (F256.set b true)) 237] (.bool true) [Cl a (pV c::iV d::fl eHo (F256.set b true)) 237]:=by
 refine hiS func173 ntmps173 fun g w0 R h0=>go [rd 1 6 0 0 1 h0] ?_
 exact enR _ [] h0
theorem ut1_6_Object1(c b d e f:Nat)(hf0:0≤ -(b:Int)+255):HQ 489 [.pointer (some ⟨c,b*10+2,none⟩),pV d] [Cl c (pV e::iV f::fl eHo (F256.set b true)) 237,Cl d [iV 0,iV 0,uV 0,iV 0,uV 0,iV 0,uV 0,iV 0,uV 0,.bool false] 234] (iV 0) [Cl c (pV e::iV f::fl eHo (F256.set b true)) 237,Cl d [iV 0,iV 0,uV 0,iV 0,uV 0,iV 0,uV 0,iV 0,uV 0,.bool true] 234]:=by
 refine hiS func489 ntmps489 fun g w0 R h0=> ?_
 have h10:=h0.a.t3
 refine go [.r 1 2 c (b*10+2) [iV 0,iV 0,uV 0,iV 0,uV 0,iV 0,uV 0,iV 0,uV 0,.bool true] ⟨sat_cell h0 0 rfl (hp_at (j:=0) (rep_tget om) rfl om),sat_cell h0 0 rfl (hp_at (j:=1) (rep_tget om) rfl om),sat_cell h0 0 rfl (hp_at (j:=2) (rep_tget om) rfl om),sat_cell h0 0 rfl (hp_at (j:=3) (rep_tget om) rfl om),sat_cell h0 0 rfl (hp_at (j:=4) (rep_tget om) rfl om),sat_cell h0 0 rfl (hp_at (j:=5) (rep_tget om) rfl om),sat_cell h0 0 rfl (hp_at (j:=6) (rep_tget om) rfl om),sat_cell h0 0 rfl (hp_at (j:=7) (rep_tget om) rfl om),sat_cell h0 0 rfl (hp_at (j:=8) (rep_tget om) rfl om),sat_cell h0 0 rfl (hp_at (j:=9) (rep_tget om) rfl om),trivial⟩]<|sA [iV 0,iV 0,uV 0,iV 0,uV 0,iV 0,uV 0,iV 0,uV 0,.bool true] h10 fun _ h12=>g0 ?_
 exact enR _ [] h12.a.t3
theorem ut1_7_with(f d:Nat)(k:Int)(l j e:Nat)(m:List Sl2)(o:inS 1 m 0= [(d,k)])(hf0:0≤(e:Int)-(d:Int)-1)(hf1:0≤ -(d:Int)+255):HQ 235 [pV f,.agg #[iV d,uV k],.func (Fn.func 489) #[] #[pV l]] [Cl l [iV 0,iV 0,uV 0,iV 0,uV 0,iV 0,uV 0,iV 0,uV 0,.bool false] 234,Cl f (pV j::iV e::fl eHo (F256.set d true)) 237,Tb j e m] (iV 0) [Cl l [iV 0,iV 0,uV 0,iV 0,uV 0,iV 0,uV 0,iV 0,uV 0,.bool true] 234,Cl f (pV j::iV e::fl eHo (F256.set d true)) 237,Tb j e m]:=by
 refine hiS func235 ntmps235 fun g w0 R h0=>g0<|nP 203 [iV d,uV k] h0 (fun _ _ h12=> ?_)
 have h13:=h12.b.t5
 refine g0<|cl1 call173 (ut1_5_valid f d j e) h13 fun _ h15=>g0<|dw (fls [0,1,2,3,4,5,6,7,8,9,10,11,12] Tr.nil) h15 fun _ h17=>go [rd 3 1 1 0 1 h17,.v 3 2 (oF ((d:Int)<0)),rd 3 5 1 0 1 h17,rd 3 9 0 1 1 h17,.v 3 10 (oF ((d:Int)≥(e:Int)))]<|dw (fls [0,1,2,3,4] (Tr.an 5 (fls [6,7] Tr.nil))) h17 fun _ h19=> ?_
 have h20:=h19.c.t5
 refine go [rd 5 3 0 0 1 h19,rd 5 4 1 0 2 h19]<|cw1 call325 (check1_ht j e m d k o) h20 fun _ h22=>⟨kd [],?_⟩
 refine g0<|dw (fls [0,1,2,3,4,5,6] (Tr.an 7 (Tr.fl 8 Tr.nil))) h22 fun _ h24=>go [rd 7 3 2 0 1 h24,.s 7 6]<|lw (.pointer (some ⟨f,d*10+2,none⟩)) (fun _=>law_indexArr (x:=Ot 37) (i:=Ot 35) (b:=f) (off:=2) (z:=(d:Int)) kr underlying235 10 kr d kr kr om om (d*10+2) om _)<|cw2 call489 (ut1_6_Object1 f d l j e om) h24.c.b.t5 fun _ h27=>⟨kd [],?_⟩
 refine g0 ?_
 exact enR _ [] (tk4 (sf3 (sf3 (sf3 (sf4 h27.a.t5)))))
theorem hobj_ht(b t n:Nat)(A:List Sl2)(s:Nat)(gn:Int)(hT:inS 1 A 0= [(s,gn)])(hf0:0≤ -(n:Int)+256)(hf1:0≤(n:Int)-1)(hf2:0≤(n:Int)-(s:Int)-1):HQ 465 [pV b,.agg #[iV s,uV gn]] [Cl b (pV t::iV n::fl eHo (F256.set s true)) 237,Tb t n A] (.tuple #[.agg #[iV 0,iV 0,uV 0,iV 0,uV 0,iV 0,uV 0,iV 0,uV 0,.bool true],iV 0]) [Cl b (pV t::iV n::fl eHo (F256.set s true)) 237,Tb t n A]:=by
 refine hiS func465 ntmps465 fun g w0 R h0=>g0<|nP 203 [iV s,uV gn] h0 (fun _ _ h12=> ?_)
 refine nP 234 [iV 0,iV 0,uV 0,iV 0,uV 0,iV 0,uV 0,iV 0,uV 0,.bool false] h12 (fun _ _ h15=> ?_)
 refine g0<|nP 234 [iV 0,iV 0,uV 0,iV 0,uV 0,iV 0,uV 0,iV 0,uV 0,.bool false] h15 (fun r16 _ h18=> ?_)
 have h19:=h18.d.d.b.t6
 refine go [rd 2 1 2 0 2 h18]<|cl3 call235 (ut1_7_with b s gn r16 t n A hT om om) h19 fun _ h21=> ?_
 have h22:=h21.c.t6
 refine go [rd 3 0 0 0 10 h21]<|sA [iV 0,iV 0,uV 0,iV 0,uV 0,iV 0,uV 0,iV 0,uV 0,.bool true] h22 fun _ h24=>g0 ?_
 exact enR _ [rd 0 0 0 0 10 h24] (tk3 (sf2 (sf2 (sf5 h24.c.c.t6))))
theorem ut1_8_Free1(e b j k c d:Nat)(i:List Sl2)(f:Int)(l:inS 1 i 0= [(b,f)])(hf0:0≤ -(b:Int)+255):HQ 491 [.pointer (some ⟨e,b*10+2,none⟩),pV j,pV k] [Tb c d i,Cl e (pV c::iV d::fl eHo (F256.set b true)) 237,Cl k [iV b,uV f] 203,Cl j [pV e] 138] (iV 0) [Tb c d (giveA i b f),Cl e (pV c::iV d::fl eHo F256) 237,Cl k [iV b,uV f] 203,Cl j [pV e] 138]:=by
 refine hiS func491 ntmps491 fun g w0 R h0=> ?_
 have h10:=h0.a.t5
 refine g0 ?_
 refine actG ?_
 refine an_store [(b*10+2,iV 0),(b*10+3,iV 0),(b*10+4,uV 0),(b*10+5,iV 0),(b*10+6,uV 0),(b*10+7,iV 0),(b*10+8,uV 0),(b*10+9,iV 0),(b*10+10,uV 0),(b*10+11,.bool false)] (cs':=(pV c::iV d::fl eHo F256)) kr kr (hks_ok (q:=b) rep_slen om om) ((hp_putk (rep_tget om) om).trans (by rw[rep_back])) h10 ?_
 intro _ h12
 refine nxB<|g0<|dw (fls [0,1,2,3,4] (Tr.an 5 (Tr.fl 6 Tr.nil))) h12 fun _ h14=> ?_
 have h15:=h14.a.t5
 refine go [rd 2 0 3 0 1 h14,rd 2 3 0 0 1 h14,rd 2 4 2 0 2 h14]<|cw1 call382 (give1_ht c d i b f l) h15 fun _ h17=>⟨kd [],?_⟩
 refine g0 ?_
 exact enR _ [] h17
theorem ut1_9_with(f e:Nat)(k:Int)(o p l j:Nat)(m:List Sl2)(q:inS 1 m 0= [(e,k)])(hf0:0≤(j:Int)-(e:Int)-1)(hf1:0≤ -(e:Int)+255):HQ 235 [pV f,.agg #[iV e,uV k],.func (Fn.func 491) #[] #[pV o,pV p]] [Cl p [iV e,uV k] 203,Cl o [pV f] 138,Cl f (pV l::iV j::fl eHo (F256.set e true)) 237,Tb l j m] (iV 0) [Cl p [iV e,uV k] 203,Cl o [pV f] 138,Cl f (pV l::iV j::fl eHo F256) 237,Tb l j (giveA m e k)]:=by
 refine hiS func235 ntmps235 fun g w0 R h0=>g0<|nP 203 [iV e,uV k] h0 (fun _ _ h12=> ?_)
 have h13:=h12.c.t6
 refine g0<|cl1 call173 (ut1_5_valid f e l j) h13 fun _ h15=>g0<|dw (fls [0,1,2,3,4,5,6,7,8,9,10,11,12] Tr.nil) h15 fun _ h17=>go [rd 3 1 1 0 1 h17,.v 3 2 (oF ((e:Int)<0)),rd 3 5 1 0 1 h17,rd 3 9 0 1 1 h17,.v 3 10 (oF ((e:Int)≥(j:Int)))]<|dw (fls [0,1,2,3,4] (Tr.an 5 (fls [6,7] Tr.nil))) h17 fun _ h19=> ?_
 have h20:=h19.d.t6
 refine go [rd 5 3 0 0 1 h19,rd 5 4 1 0 2 h19]<|cw1 call325 (check1_ht l j m e k q) h20 fun _ h22=>⟨kd [],?_⟩
 refine g0<|dw (fls [0,1,2,3,4,5,6] (Tr.an 7 (Tr.fl 8 Tr.nil))) h22 fun _ h24=>go [rd 7 3 2 0 1 h24,.s 7 6]<|lw (.pointer (some ⟨f,e*10+2,none⟩)) (fun _=>law_indexArr (x:=Ot 37) (i:=Ot 35) (b:=f) (off:=2) (z:=(e:Int)) kr underlying235 10 kr e kr kr om om (e*10+2) om _)<|cw4 call491 (ut1_8_Free1 f e o p l j m k q om) h24.d.d.c.c.t6 fun _ h27=>⟨kd [],?_⟩
 refine g0 ?_
 exact enR _ [] (tk5 (sf4 (sf4 (sf4 (sf4 (sf5 h27.a.c.c.t6))))))
theorem hfree_ht(b t n:Nat)(A:List Sl2)(s:Nat)(gn:Int)(hT:inS 1 A 0= [(s,gn)])(hf0:0≤ -(n:Int)+256)(hf1:0≤(n:Int)-1)(hf2:0≤(n:Int)-(s:Int)-1):HQ 468 [pV b,.agg #[iV s,uV gn]] [Cl b (pV t::iV n::fl eHo (F256.set s true)) 237,Tb t n A] (iV 0) [Cl b (pV t::iV n::fl eHo F256) 237,Tb t n (giveA A s gn)]:=by
 refine hiS func468 ntmps468 fun g w0 R h0=>g0<|nP 138 [pV b] h0 (fun r10 _ h12=> ?_)
 refine nP 203 [iV s,uV gn] h12 (fun r13 _ h15=> ?_)
 refine go [rd 1 0 1 0 1 h15,rd 1 1 0 0 2 h15]<|cl4 call235 (ut1_9_with b s gn r10 r13 t n A hT om om) h15 fun _ h17=>g0 ?_
 exact enR _ [] (tk3 (sf2 (sf2 (sf4 h17.c.c.t5))))
def Ar0_p(b n m:Nat)(A:List Sl2)(ob hb t gb p0:Nat)(ps:List Nat)(rs rg:Int):List Assn:= [Cl b [pV ob,iV n,iV m,pV p0,sp ps 0,sp ps 1,sp ps 2,pV gb] 149,Cl ob [pV hb] 143,Cl hb (pV t::iV n::fl eHo F256) 237,Tb t n A,Cl gb [Value.bool true,iV 0,uV 0,iV 0,uV 0,iV 0,uV 0,iV 0,uV 0,iV 0,uV 0,iV 0,uV 0,iV 0,uV 0,iV 0,uV 0] 241,Cl p0 ([Value.bool true,iV 0,iV rs,uV rg]++(List.replicate 31 [iV 0,uV 0]).flatten) 244,Bs ([Value.bool true,iV 0]++(List.replicate 32 [iV 0,uV 0]).flatten) 244 ps]
def Ar0(b n m:Nat)(A:List Sl2):Assn:=fun h=> ∃ob:Nat,∃hb:Nat,∃t:Nat,∃gb:Nat,∃p0:Nat,∃ps:List Nat,∃rs:Int,∃rg:Int,(m=ps.length+1)∧(m≤4)∧(1≤n)∧(n≤256)∧(inS 1 A 0= [])∧star (Ar0_p b n m A ob hb t gb p0 ps rs rg) h
theorem Ar0_open{g w:World}{L_:List Assn}{b:Nat}{n:Nat}{m:Nat}{A:List Sl2}(h:sat g w (Ar0 b n m A::L_)): ∃ob:Nat,∃hb:Nat,∃t:Nat,∃gb:Nat,∃p0:Nat,∃ps:List Nat,∃rs:Int,∃rg:Int,(m=ps.length+1)∧(m≤4)∧(1≤n)∧(n≤256)∧(inS 1 A 0= [])∧sat g w (Ar0_p b n m A ob hb t gb p0 ps rs rg++L_):=by
 obtain⟨⟨ob,hb,t,gb,p0,ps,rs,rg⟩,hp,h2⟩:=sat_open (X:=Nat×Nat×Nat×Nat×Nat×(List Nat)×Int×Int) (p:=fun q_=>(m=q_.2.2.2.2.2.1.length+1)∧(m≤4)∧(1≤n)∧(n≤256)∧(inS 1 A 0= [])) (B:=fun q_=>star (Ar0_p b n m A q_.1 q_.2.1 q_.2.2.1 q_.2.2.2.1 q_.2.2.2.2.1 q_.2.2.2.2.2.1 q_.2.2.2.2.2.2.1 q_.2.2.2.2.2.2.2)) h (fun _ hk=>by obtain⟨ob,hb,t,gb,p0,ps,rs,rg,hp0,hp1,hp2,hp3,hp4,hk⟩:=hk;exact⟨(ob,hb,t,gb,p0,ps,rs,rg),⟨hp0,hp1,hp2,hp3,hp4⟩,hk⟩)
 exact⟨ob,hb,t,gb,p0,ps,rs,rg,hp.1,hp.2.1,hp.2.2.1,hp.2.2.2.1,hp.2.2.2.2,sat_unstar h2⟩
theorem Ar0_close{g w:World}{L_:List Assn}(b n m:Nat)(A:List Sl2)(ob hb t gb p0:Nat)(ps:List Nat)(rs rg:Int)(hp0:m=ps.length+1)(hp1:m≤4)(hp2:1≤n)(hp3:n≤256)(hp4:inS 1 A 0= [])(h:sat g w (Ar0_p b n m A ob hb t gb p0 ps rs rg++L_)):sat g w (Ar0 b n m A::L_):=sat_imp (sat_star h) fun _ hk=>⟨ob,hb,t,gb,p0,ps,rs,rg,hp0,hp1,hp2,hp3,hp4,hk⟩
def Ar1_p(b n m:Nat)(A:List Sl2)(s:Nat)(gn:Int)(ob hb t gb p0:Nat)(ps:List Nat)(rs rg:Int):List Assn:= [Cl b [pV ob,iV n,iV m,pV p0,sp ps 0,sp ps 1,sp ps 2,pV gb] 149,Cl ob [pV hb] 143,Cl hb (pV t::iV n::fl eHo (F256.set s true)) 237,Tb t n A,Cl gb [Value.bool true,iV 0,uV 0,iV 0,uV 0,iV 0,uV 0,iV 0,uV 0,iV 0,uV 0,iV 0,uV 0,iV 0,uV 0,iV 0,uV 0] 241,Cl p0 ([Value.bool true,iV 0,iV rs,uV rg]++(List.replicate 31 [iV 0,uV 0]).flatten) 244,Bs ([Value.bool true,iV 0]++(List.replicate 32 [iV 0,uV 0]).flatten) 244 ps]
def Ar1(b n m:Nat)(A:List Sl2)(s:Nat)(gn:Int):Assn:=fun h=> ∃ob:Nat,∃hb:Nat,∃t:Nat,∃gb:Nat,∃p0:Nat,∃ps:List Nat,∃rs:Int,∃rg:Int,(m=ps.length+1)∧(m≤4)∧(1≤n)∧(n≤256)∧(inS 1 A 0= [(s,gn)])∧(s<n)∧(1≤gn)∧star (Ar1_p b n m A s gn ob hb t gb p0 ps rs rg) h
theorem Ar1_open{g w:World}{L_:List Assn}{b:Nat}{n:Nat}{m:Nat}{A:List Sl2}{s:Nat}{gn:Int}(h:sat g w (Ar1 b n m A s gn::L_)): ∃ob:Nat,∃hb:Nat,∃t:Nat,∃gb:Nat,∃p0:Nat,∃ps:List Nat,∃rs:Int,∃rg:Int,(m=ps.length+1)∧(m≤4)∧(1≤n)∧(n≤256)∧(inS 1 A 0= [(s,gn)])∧(s<n)∧(1≤gn)∧sat g w (Ar1_p b n m A s gn ob hb t gb p0 ps rs rg++L_):=by
 obtain⟨⟨ob,hb,t,gb,p0,ps,rs,rg⟩,hp,h2⟩:=sat_open (X:=Nat×Nat×Nat×Nat×Nat×(List Nat)×Int×Int) (p:=fun q_=>(m=q_.2.2.2.2.2.1.length+1)∧(m≤4)∧(1≤n)∧(n≤256)∧(inS 1 A 0= [(s,gn)])∧(s<n)∧(1≤gn)) (B:=fun q_=>star (Ar1_p b n m A s gn q_.1 q_.2.1 q_.2.2.1 q_.2.2.2.1 q_.2.2.2.2.1 q_.2.2.2.2.2.1 q_.2.2.2.2.2.2.1 q_.2.2.2.2.2.2.2)) h (fun _ hk=>by obtain⟨ob,hb,t,gb,p0,ps,rs,rg,hp0,hp1,hp2,hp3,hp4,hp5,hp6,hk⟩:=hk;exact⟨(ob,hb,t,gb,p0,ps,rs,rg),⟨hp0,hp1,hp2,hp3,hp4,hp5,hp6⟩,hk⟩)
 exact⟨ob,hb,t,gb,p0,ps,rs,rg,hp.1,hp.2.1,hp.2.2.1,hp.2.2.2.1,hp.2.2.2.2.1,hp.2.2.2.2.2.1,hp.2.2.2.2.2.2,sat_unstar h2⟩
theorem Ar1_close{g w:World}{L_:List Assn}(b n m:Nat)(A:List Sl2)(s:Nat)(gn:Int)(ob hb t gb p0:Nat)(ps:List Nat)(rs rg:Int)(hp0:m=ps.length+1)(hp1:m≤4)(hp2:1≤n)(hp3:n≤256)(hp4:inS 1 A 0= [(s,gn)])(hp5:s<n)(hp6:1≤gn)(h:sat g w (Ar1_p b n m A s gn ob hb t gb p0 ps rs rg++L_)):sat g w (Ar1 b n m A s gn::L_):=sat_imp (sat_star h) fun _ hk=>⟨ob,hb,t,gb,p0,ps,rs,rg,hp0,hp1,hp2,hp3,hp4,hp5,hp6,hk⟩
def Ar2_p(b n m:Nat)(A:List Sl2)(s:Nat)(gn:Int)(ob hb t gb p0:Nat)(ps:List Nat):List Assn:= [Cl b [pV ob,iV n,iV m,pV p0,sp ps 0,sp ps 1,sp ps 2,pV gb] 149,Cl ob [pV hb] 143,Cl hb (pV t::iV n::fl eHo (F256.set s true)) 237,Tb t n A,Cl gb [Value.bool true,iV 0,uV 0,iV 0,uV 0,iV 0,uV 0,iV 0,uV 0,iV 0,uV 0,iV 0,uV 0,iV 0,uV 0,iV 0,uV 0] 241,Cl p0 ([Value.bool true,iV 1,iV s,uV gn]++(List.replicate 31 [iV 0,uV 0]).flatten) 244,Bs ([Value.bool true,iV 0]++(List.replicate 32 [iV 0,uV 0]).flatten) 244 ps]
def Ar2(b n m:Nat)(A:List Sl2)(s:Nat)(gn:Int):Assn:=fun h=> ∃ob:Nat,∃hb:Nat,∃t:Nat,∃gb:Nat,∃p0:Nat,∃ps:List Nat,(m=ps.length+1)∧(m≤4)∧(1≤n)∧(n≤256)∧(inS 1 A 0= [(s,gn)])∧(s<n)∧(1≤gn)∧star (Ar2_p b n m A s gn ob hb t gb p0 ps) h
theorem Ar2_open{g w:World}{L_:List Assn}{b:Nat}{n:Nat}{m:Nat}{A:List Sl2}{s:Nat}{gn:Int}(h:sat g w (Ar2 b n m A s gn::L_)): ∃ob:Nat,∃hb:Nat,∃t:Nat,∃gb:Nat,∃p0:Nat,∃ps:List Nat,(m=ps.length+1)∧(m≤4)∧(1≤n)∧(n≤256)∧(inS 1 A 0= [(s,gn)])∧(s<n)∧(1≤gn)∧sat g w (Ar2_p b n m A s gn ob hb t gb p0 ps++L_):=by
 obtain⟨⟨ob,hb,t,gb,p0,ps⟩,hp,h2⟩:=sat_open (X:=Nat×Nat×Nat×Nat×Nat×(List Nat)) (p:=fun q_=>(m=q_.2.2.2.2.2.length+1)∧(m≤4)∧(1≤n)∧(n≤256)∧(inS 1 A 0= [(s,gn)])∧(s<n)∧(1≤gn)) (B:=fun q_=>star (Ar2_p b n m A s gn q_.1 q_.2.1 q_.2.2.1 q_.2.2.2.1 q_.2.2.2.2.1 q_.2.2.2.2.2)) h (fun _ hk=>by obtain⟨ob,hb,t,gb,p0,ps,hp0,hp1,hp2,hp3,hp4,hp5,hp6,hk⟩:=hk;exact⟨(ob,hb,t,gb,p0,ps),⟨hp0,hp1,hp2,hp3,hp4,hp5,hp6⟩,hk⟩)
 exact⟨ob,hb,t,gb,p0,ps,hp.1,hp.2.1,hp.2.2.1,hp.2.2.2.1,hp.2.2.2.2.1,hp.2.2.2.2.2.1,hp.2.2.2.2.2.2,sat_unstar h2⟩
theorem Ar2_close{g w:World}{L_:List Assn}(b n m:Nat)(A:List Sl2)(s:Nat)(gn:Int)(ob hb t gb p0:Nat)(ps:List Nat)(hp0:m=ps.length+1)(hp1:m≤4)(hp2:1≤n)(hp3:n≤256)(hp4:inS 1 A 0= [(s,gn)])(hp5:s<n)(hp6:1≤gn)(h:sat g w (Ar2_p b n m A s gn ob hb t gb p0 ps++L_)):sat g w (Ar2 b n m A s gn::L_):=sat_imp (sat_star h) fun _ hk=>⟨ob,hb,t,gb,p0,ps,hp0,hp1,hp2,hp3,hp4,hp5,hp6,hk⟩
theorem Ar0_in{g w:World}{L_:List Assn}{b n m:Nat}{A:List Sl2}(h:sat g w (Ar0 b n m A::L_)):inS 1 A 0= []:=by
 obtain⟨_,_,_,_,_,_,_,_,_,_,_,_,h1,_⟩:=Ar0_open h
 exact h1
theorem Ar1_in{g w:World}{L_:List Assn}{b n m:Nat}{A:List Sl2}{s:Nat}{gn:Int}(h:sat g w (Ar1 b n m A s gn::L_)):inS 1 A 0= [(s,gn)]∧s<n∧1≤gn:=by
 obtain⟨_,_,_,_,_,_,_,_,_,_,_,_,h1,h2,h3,_⟩:=Ar1_open h
 exact⟨h1,h2,h3⟩
theorem ut2_1_valid(a b c d e:Nat)(f i j:Value)(k:Nat):HQ 110 [pV a] [Cl a [pV b,iV c,iV d,pV e,f,i,j,pV k] 149] (.bool true) [Cl a [pV b,iV c,iV d,pV e,f,i,j,pV k] 149]:=by
 refine hiS func110 ntmps110 fun g w0 R h0=>go [rd 1 6 0 0 1 h0] ?_
 exact enR _ [] h0
theorem asizes0(b n m:Nat)(A:List Sl2):HQ 289 [pV b] [Ar0 b n m A] (.tuple #[iV n,iV m]) [Ar0 b n m A]:=by
 refine hiS func289 ntmps289 fun g w0 R h0=> ?_
 obtain⟨ob10,hb11,t12,gb13,p14,ps15,rs16,rg17,hp18,hp19,hp20,hp21,hp22,h23⟩:=Ar0_open h0
 have h24:sat g _ (Cl b [pV ob10,iV n,iV m,pV p14,sp ps15 0,sp ps15 1,sp ps15 2,pV gb13] 149::_):=h23
 refine g0<|cl1 call110 (ut2_1_valid b ob10 n m p14 (sp ps15 0) (sp ps15 1) (sp ps15 2) gb13) h24 fun _ h26=>g0<|dw (fls [0,1,2,3,4,5,6,7,8,9] Tr.nil) h26 fun w27 h28=>go [rd 3 3 0 1 1 h28,rd 3 7 0 2 1 h28] ?_
 have h29:sat g _ (Ar0 b n m A::_):=Ar0_close b n m A ob10 hb11 t12 gb13 p14 ps15 rs16 rg17 hp18 hp19 hp20 hp21 hp22 h28
 exact enR (.tuple #[iV n,iV m]) [] h29
theorem asizes1(b n m:Nat)(A:List Sl2)(s:Nat)(gn:Int):HQ 289 [pV b] [Ar1 b n m A s gn] (.tuple #[iV n,iV m]) [Ar1 b n m A s gn]:=by
 refine hiS func289 ntmps289 fun g w0 R h0=> ?_
 obtain⟨ob10,hb11,t12,gb13,p14,ps15,rs16,rg17,hp18,hp19,hp20,hp21,hp22,hp23,hp24,h25⟩:=Ar1_open h0
 have h26:sat g _ (Cl b [pV ob10,iV n,iV m,pV p14,sp ps15 0,sp ps15 1,sp ps15 2,pV gb13] 149::_):=h25
 refine g0<|cl1 call110 (ut2_1_valid b ob10 n m p14 (sp ps15 0) (sp ps15 1) (sp ps15 2) gb13) h26 fun _ h28=>g0<|dw (fls [0,1,2,3,4,5,6,7,8,9] Tr.nil) h28 fun w29 h30=>go [rd 3 3 0 1 1 h30,rd 3 7 0 2 1 h30] ?_
 have h31:sat g _ (Ar1 b n m A s gn::_):=Ar1_close b n m A s gn ob10 hb11 t12 gb13 p14 ps15 rs16 rg17 hp18 hp19 hp20 hp21 hp22 hp23 hp24 h30
 exact enR (.tuple #[iV n,iV m]) [] h31
theorem ut2_2_All(a:Nat):HQ 498 [pV a] [Cl a [.bool true,iV 0,uV 0,iV 0,uV 0,iV 0,uV 0,iV 0,uV 0,iV 0,uV 0,iV 0,uV 0,iV 0,uV 0,iV 0,uV 0] 241] (.slice none 0 0) [Cl a [.bool true,iV 0,uV 0,iV 0,uV 0,iV 0,uV 0,iV 0,uV 0,iV 0,uV 0,iV 0,uV 0,iV 0,uV 0,iV 0,uV 0] 241]:=by
 refine hiS func498 ntmps498 fun g w0 R h0=>go [rd 1 6 0 1 16 h0,.s 1 8]<|lwP (.bool true) (law_eqS (x:=Ot 9) (y:=Ot 10) (t:=239) (xs:= #[iV 0,uV 0,iV 0,uV 0,iV 0,uV 0,iV 0,uV 0,iV 0,uV 0,iV 0,uV 0,iV 0,uV 0,iV 0,uV 0]) kr kr kr kr kr kr kr _)<|g0 ?_
 exact enR _ [] h0
theorem aglob1(b n m:Nat)(A:List Sl2)(s:Nat)(gn:Int):HQ 484 [pV b] [Ar1 b n m A s gn] (.slice none 0 0) [Ar1 b n m A s gn]:=by
 refine hiS func484 ntmps484 fun g w0 R h0=> ?_
 obtain⟨ob10,hb11,t12,gb13,p14,ps15,rs16,rg17,hp18,hp19,hp20,hp21,hp22,hp23,hp24,h25⟩:=Ar1_open h0
 have h26:sat g _ (Cl b [pV ob10,iV n,iV m,pV p14,sp ps15 0,sp ps15 1,sp ps15 2,pV gb13] 149::_):=h25
 refine g0<|cl1 call110 (ut2_1_valid b ob10 n m p14 (sp ps15 0) (sp ps15 1) (sp ps15 2) gb13) h26 fun _ h28=> ?_
 have h29:=h28.d.t8
 refine go [rd 3 3 0 7 1 h28]<|cl1 call498 (ut2_2_All gb13) h29 fun w30 h31=>g0 ?_
 have h33:sat g _ (Ar1 b n m A s gn::_):=Ar1_close b n m A s gn ob10 hb11 t12 gb13 p14 ps15 rs16 rg17 hp18 hp19 hp20 hp21 hp22 hp23 hp24 h31.d.d.d.d.t8
 exact enR _ [] h33
theorem ut2_3_Copy(f d e:Nat)(i:List Sl2)(hf0:0≤(d:Int)-1)(hf1:0≤ -(d:Int)+256):HT prog 111 [pV f] [Cl f (pV e::iV d::fl eHo F256) 237,Tb e d i] (fun v K=> ∃r12:Nat,∃b17:Nat,v=pV r12∧K= [Cl f (pV e::iV d::fl eHo F256) 237,Tb e d i,Cl r12 (pV b17::iV d::fl eHo F256) 237,Tb b17 d i]):=by
 refine hiS func111 ntmps111 fun g w0 R h0=>g0<|cl1 call173 (ut1_1_valid f e d) h0 fun _ h11=>go [.s 3 2]<|lwP (.agg (pV e::iV d::fl eHo F256).toArray) (law_loadRow (x:=Ot 8) kr 0 h11 rfl _ rfl underlying237 (by rw[hp_len List.length_replicate];kernel_rfl) kr) ?_
 refine nP 237 (.pointer none::iV 0::fl eHo F256) h11 (fun r12 _ h14=> ?_)
 refine actG ?_
 refine an_storeRow (t:=237) (x:=Ot 3) (y:=Ot 9) (cs:=(pV e::iV d::fl eHo F256)) kr kr h14 (by rw[hp_len List.length_replicate];kernel_rfl) (by rw[hp_len List.length_replicate,hp_len List.length_replicate]) (hp_one rfl rfl) kr kr ?_
 intro _ h16
 refine nxB ?_
 have h18:=h16.b.t4
 refine go [rd 4 3 1 0 1 h16]<|cP call120 (scopy_ht e d i) h18 ?_
 rintro v K _ (⟨b17,rfl,rfl⟩) h20
 have h22:=(ap2 h20).b.t5
 refine g0 ?_
 refine actG ?_
 refine an_store [(0,pV b17)] (cs':=(pV b17::iV d::fl eHo F256)) kr kr (allq ⟨⟨by rw[hp_len List.length_replicate];omega,rfl⟩,trivial⟩) rfl h22 ?_
 intro _ h24
 refine nxB<|g0 ?_
 exact en (pV r12) [] ⟨_,_,rfl,⟨r12,b17,rfl,rfl⟩,h24.a.c.t5⟩
theorem aheap0(b n m:Nat)(A:List Sl2):HT prog 266 [pV b] [Ar0 b n m A] (fun v K=> ∃h2:Nat,∃t2:Nat,v=pV h2∧K= [Ar0 b n m A,Cl h2 (pV t2::iV n::fl eHo F256) 237,Tb t2 n A]):=by
 refine hiS func266 ntmps266 fun g w0 R h0=> ?_
 obtain⟨ob10,hb11,t12,gb13,p14,ps15,rs16,rg17,hp18,hp19,hp20,hp21,hp22,h23⟩:=Ar0_open h0
 have h24:sat g _ (Cl b [pV ob10,iV n,iV m,pV p14,sp ps15 0,sp ps15 1,sp ps15 2,pV gb13] 149::_):=h23
 refine g0<|cl1 call110 (ut2_1_valid b ob10 n m p14 (sp ps15 0) (sp ps15 1) (sp ps15 2) gb13) h24 fun _ h26=> ?_
 have h29:=h26.c.c.t8
 refine go [rd 3 3 0 0 1 h26,rd 3 6 1 0 1 h26]<|cP call111 (ut2_3_Copy hb11 n t12 A om om) h29 ?_
 rintro v K w30 (⟨r27,b28,rfl,rfl⟩) h31
 have h32:=ap4 h31
 refine g0 ?_
 have h34:sat g _ (Ar0 b n m A::_):=Ar0_close b n m A ob10 hb11 t12 gb13 p14 ps15 rs16 rg17 hp18 hp19 hp20 hp21 hp22 h32.h.h.h.d.d.h.h.t10
 exact en (pV r27) [] ⟨_,_,rfl,⟨r27,b28,rfl,rfl⟩,h34⟩
theorem ut2_4_Copy(i d e f:Nat)(j:List Sl2)(hf0:0≤(d:Int)-1)(hf1:0≤ -(d:Int)+256)(hf2:0≤ -(f:Int)+255):HT prog 111 [pV i] [Cl i (pV e::iV d::fl eHo (F256.set f true)) 237,Tb e d j] (fun v K=> ∃r12:Nat,∃b17:Nat,v=pV r12∧K= [Cl i (pV e::iV d::fl eHo (F256.set f true)) 237,Tb e d j,Cl r12 (pV b17::iV d::fl eHo (F256.set f true)) 237,Tb b17 d j]):=by
 refine hiS func111 ntmps111 fun g w0 R h0=>g0<|cl1 call173 (ut1_5_valid i f e d) h0 fun _ h11=>go [.s 3 2]<|lwP (.agg (pV e::iV d::fl eHo (F256.set f true)).toArray) (law_loadRow (x:=Ot 8) kr 0 h11 rfl _ rfl underlying237 (by rw[hp_len rep_slen];kernel_rfl) kr) ?_
 refine nP 237 (.pointer none::iV 0::fl eHo F256) h11 (fun r12 _ h14=> ?_)
 refine actG ?_
 refine an_storeRow (t:=237) (x:=Ot 3) (y:=Ot 9) (cs:=(pV e::iV d::fl eHo (F256.set f true))) kr kr h14 (by rw[hp_len rep_slen];kernel_rfl) (by rw[hp_len rep_slen,hp_len List.length_replicate]) (hp_one rfl rfl) kr kr ?_
 intro _ h16
 refine nxB ?_
 have h18:=h16.b.t4
 refine go [rd 4 3 1 0 1 h16]<|cP call120 (scopy_ht e d j) h18 ?_
 rintro v K _ (⟨b17,rfl,rfl⟩) h20
 have h22:=(ap2 h20).b.t5
 refine g0 ?_
 refine actG ?_
 refine an_store [(0,pV b17)] (cs':=(pV b17::iV d::fl eHo (F256.set f true))) kr kr (allq ⟨⟨by rw[hp_len rep_slen];omega,rfl⟩,trivial⟩) rfl h22 ?_
 intro _ h24
 refine nxB<|g0 ?_
 exact en (pV r12) [] ⟨_,_,rfl,⟨r12,b17,rfl,rfl⟩,h24.a.c.t5⟩
theorem aheap1(b n m:Nat)(A:List Sl2)(s:Nat)(gn:Int):HT prog 266 [pV b] [Ar1 b n m A s gn] (fun v K=> ∃h2:Nat,∃t2:Nat,v=pV h2∧K= [Ar1 b n m A s gn,Cl h2 (pV t2::iV n::fl eHo (F256.set s true)) 237,Tb t2 n A]):=by
 refine hiS func266 ntmps266 fun g w0 R h0=> ?_
 obtain⟨ob10,hb11,t12,gb13,p14,ps15,rs16,rg17,hp18,hp19,hp20,hp21,hp22,hp23,hp24,h25⟩:=Ar1_open h0
 have h26:sat g _ (Cl b [pV ob10,iV n,iV m,pV p14,sp ps15 0,sp ps15 1,sp ps15 2,pV gb13] 149::_):=h25
 refine g0<|cl1 call110 (ut2_1_valid b ob10 n m p14 (sp ps15 0) (sp ps15 1) (sp ps15 2) gb13) h26 fun _ h28=> ?_
 have h31:=h28.c.c.t8
 refine go [rd 3 3 0 0 1 h28,rd 3 6 1 0 1 h28]<|cP call111 (ut2_4_Copy hb11 n t12 s A om om om) h31 ?_
 rintro v K w32 (⟨r29,b30,rfl,rfl⟩) h33
 have h34:=ap4 h33
 refine g0 ?_
 have h36:sat g _ (Ar1 b n m A s gn::_):=Ar1_close b n m A s gn ob10 hb11 t12 gb13 p14 ps15 rs16 rg17 hp18 hp19 hp20 hp21 hp22 hp23 hp24 h34.h.h.h.d.d.h.h.t10
 exact en (pV r29) [] ⟨_,_,rfl,⟨r29,b30,rfl,rfl⟩,h36⟩
theorem ut2_5_stack(a e f c d:Nat)(j k l:Value)(m:Nat)(hf0:0≤(c:Int)-1):HQ 162 [pV a,iV 0] [Cl a [pV e,iV f,iV c,pV d,j,k,l,pV m] 149] (.tuple #[pV d,iV 0]) [Cl a [pV e,iV f,iV c,pV d,j,k,l,pV m] 149]:=by
 refine hiS func162 ntmps162 fun g w0 R h0=>g0<|cl1 call110 (ut2_1_valid a e f c d j k l m) h0 fun _ h11=>go [rd 3 7 0 2 1 h11,.v 3 8 (oF (0≥(c:Int))),.s 5 4]<|lwP (.pointer (some ⟨a,3,none⟩)) (law_indexArr (x:=Ot 24) (i:=Ot 22) (b:=a) (off:=3) (z:=0) kr underlying147 1 kr 0 kr kr om om 3 om _)<|go [rd 5 5 0 3 1 h11] ?_
 exact enR _ [] h11
theorem ut2_6_Make1(a c:Nat):HQ 148 [pV a,pV c] [Cl c [.bool true] 4,Cl a [iV 0] 3] (iV 0) [Cl c [.bool true] 4,Cl a [iV 0] 3]:=by
 refine hiS func148 ntmps148 fun g w0 R h0=>go [rd 1 0 1 0 1 h0,rd 1 1 0 0 1 h0]<|cl0 call149 ut1_4_New h0 fun _ h11=>g0<|nP 234 [iV 0,iV 0,uV 0,iV 0,uV 0,iV 0,uV 0,iV 0,uV 0,.bool false] h11 (fun _ _ h14=> ?_)
 refine sA [iV 0,iV 0,uV 0,iV 0,uV 0,iV 0,uV 0,iV 0,uV 0,.bool true] h14 fun _ h16=>g0 ?_
 exact enR _ [] (tk3 (sf2 (sf2 (sf3 h16.b.b.t4))))
theorem ut2_7_valid(a:Nat)(b c:Int):HQ 174 [pV a] [Cl a ([.bool true,iV 0,iV b,uV c]++(List.replicate 31 [iV 0,uV 0]).flatten) 244] (.bool true) [Cl a ([.bool true,iV 0,iV b,uV c]++(List.replicate 31 [iV 0,uV 0]).flatten) 244]:=by
 refine hiS func174 ntmps174 fun g w0 R h0=>go [rd 1 6 0 0 1 h0] ?_
 exact enR _ [] h0
theorem ut2_8_used(a:Nat)(c d:Int):HQ 319 [pV a] [Cl a ([.bool true,iV 0,iV c,uV d]++(List.replicate 31 [iV 0,uV 0]).flatten) 244] (.slice (some ⟨a,2,none⟩) 0 32) [Cl a ([.bool true,iV 0,iV c,uV d]++(List.replicate 31 [iV 0,uV 0]).flatten) 244]:=by
 refine hiS func319 ntmps319 fun g w0 R h0=>g0<|cl1 call174 (ut2_7_valid a c d) h0 fun _ h11=>g0<|dw (fls [0,1,2,3,4,5,6,7,8] Tr.nil) h11 fun _ h13=>go [rd 3 6 0 1 1 h13,.s 3 7]<|lw (.slice (some ⟨a,2,none⟩) 0 32) (fun _=>law_sliceArr (x:=Ot 8) (lo:=none) (hi:=(some (Ot 12))) (b:=a) (off:=2) kr underlying242 2 kr 0 0 0 0 kr rfl (show fe _ _ (Ot 12)=_ from by kernel_rfl) om om om om 2 (by split<;>omega) 0 32 om om _)<|g0 ?_
 exact enR _ [] h13
theorem ut2_9_Len(a:Nat)(b c:Int):HQ 228 [pV a] [Cl a ([.bool true,iV 0,iV b,uV c]++(List.replicate 31 [iV 0,uV 0]).flatten) 244] (iV 0) [Cl a ([.bool true,iV 0,iV b,uV c]++(List.replicate 31 [iV 0,uV 0]).flatten) 244]:=by
 refine hiS func228 ntmps228 fun g w0 R h0=>g0<|cl1 call319 (ut2_8_used a b c) h0 fun _ h11=>g0 ?_
 exact enR _ [] h11
theorem ut2_10_Make2(l m o p i j a q:Nat)(s t u:Value)(y d e:Nat)(k:List Sl2)(c:Nat)(f:Int)(z:freeS k=some (c,f))(hf0:0≤ -(a:Int)+256)(hf1:0≤(a:Int)-(c:Int)-1):HQ 150 [pV l,pV m,pV o] [Cl o [.bool true] 4,Cl m [iV 0] 3,Cl i [pV j,iV a,iV q,pV p,s,t,u,pV y] 149,Cl l [pV i] 75,Cl j [pV d] 143,Cl d (pV e::iV a::fl eHo F256) 237,Tb e a k] (.tuple #[.agg #[iV c,uV f],iV 0]) [Cl o [.bool true] 4,Cl m [iV 0] 3,Cl i [pV j,iV a,iV q,pV p,s,t,u,pV y] 149,Cl l [pV i] 75,Cl j [pV d] 143,Cl d (pV e::iV a::fl eHo (F256.set c true)) 237,Tb e a (takeA k)]:=by
 refine hiS func150 ntmps150 fun g w0 R h0=>g0<|nP 203 [iV 0,uV 0] h0 (fun _ _ h12=> ?_)
 refine g0<|dw (fls [0,1,2,3,4,5,6,7,8] (Tr.an 9 (fls [10,11] (Tr.an 12 (Tr.fl 13 Tr.nil))))) h12 fun _ h14=> ?_
 have h15:=h14.x.x.t9
 refine go [rd 1 0 4 0 1 h14,rd 1 3 3 0 1 h14,rd 1 6 5 0 1 h14,rd 1 7 2 0 1 h14,rd 1 8 1 0 1 h14]<|cw2 call151 (hmake_ht d e a k c f z om om om) h15 fun _ h17=>⟨kd [],?_⟩
 have h18:=h17.b.t9
 refine g0<|sB [iV c,uV f] h18 fun _ h20=>⟨kd [],?_⟩
 refine g0 ?_
 exact enR (.tuple #[.agg #[iV c,uV f],iV 0]) [rd 0 0 0 0 2 h20] (tk8 (sf7 (sf7 (sf7 (sf7 (sf7 (sf7 (sf7 (sf8 h20.b.b.x.x.x.x.x.t9)))))))))
theorem ut2_11_Push(e c:Nat)(d f j:Int)(hf0:0≤ -(c:Int)+255)(hf1:0≤d-1):HQ 229 [pV e,.agg #[iV c,uV d]] [Cl e ([.bool true,iV 0,iV f,uV j]++(List.replicate 31 [iV 0,uV 0]).flatten) 244] (.tuple #[iV 0,iV 0]) [Cl e ([.bool true,iV 1,iV c,uV d]++(List.replicate 31 [iV 0,uV 0]).flatten) 244]:=by
 refine hiS func229 ntmps229 fun g w0 R h0=>g0<|nP 203 [iV c,uV d] h0 (fun _ _ h12=> ?_)
 have h13:=h12.a.t3
 refine g0<|cl1 call174 (ut2_7_valid e f j) h13 fun _ h15=>go [rd 3 1 1 0 1 h15,.v 3 2 (oF ((c:Int)<0)),rd 3 5 1 0 1 h15,.v 3 6 (oF ((c:Int)≥256)),rd 3 10 1 1 1 h15,.v 3 11 (qeF d 0),rd 5 3 0 1 1 h15]<|dw (fls [0,1,2,3,4,5,6,7,8] (Tr.an 9 Tr.nil)) h15 fun _ h17=>go [rd 7 4 0 1 1 h17,rd 7 5 1 0 2 h17,.s 7 8]<|lw (.pointer (some ⟨e,2,none⟩)) (fun _=>law_indexArr (x:=Ot 37) (i:=Ot 34) (b:=e) (off:=2) (z:=0) kr underlying242 2 kr 0 kr kr om om 2 om _)<|sG [(2,iV c),(3,uV d)] ([.bool true,iV 0,iV c,uV d]++(List.replicate 31 [iV 0,uV 0]).flatten) h17 fun _ h19=>⟨kd [],?_⟩
 refine go [rd 8 3 0 1 1 h19]<|sP [(1,iV 1)] ([.bool true,iV 1,iV c,uV d]++(List.replicate 31 [iV 0,uV 0]).flatten) h19 fun _ h21=>go [rd 9 3 0 1 1 h21] ?_
 exact enR _ [] h21.B.t2
theorem ut2_12_give(k l m t o b p j:Nat)(u y z:Value)(A q s:Nat)(B:List Sl2)(C D:Int)(e:Nat)(f:Int)(E:freeS B=some (e,f))(hf0:0≤(p:Int)-1)(hf1:0≤ -(b:Int)+256)(hf2:0≤(b:Int)-(e:Int)-1)(hf3:0≤f-1):HQ 147 [pV k,iV 0,.func (Fn.func 148) #[] #[pV l,pV m],.func (Fn.func 150) #[] #[pV t,pV l,pV m]] [Cl m [.bool true] 4,Cl l [iV 0] 3,Cl t [pV k] 75,Cl k [pV o,iV b,iV p,pV j,u,y,z,pV A] 149,Cl o [pV q] 143,Cl q (pV s::iV b::fl eHo F256) 237,Tb s b B,Cl j ([.bool true,iV 0,iV C,uV D]++(List.replicate 31 [iV 0,uV 0]).flatten) 244] (.tuple #[.agg #[iV e,uV f],iV 0]) [Cl m [.bool true] 4,Cl l [iV 0] 3,Cl t [pV k] 75,Cl k [pV o,iV b,iV p,pV j,u,y,z,pV A] 149,Cl o [pV q] 143,Cl q (pV s::iV b::fl eHo (F256.set e true)) 237,Tb s b (takeA B),Cl j ([.bool true,iV 1,iV e,uV f]++(List.replicate 31 [iV 0,uV 0]).flatten) 244]:=by
 refine hiS func147 ntmps147 fun g w0 R h0=>g0<|nP 203 [iV 0,uV 0] h0 (fun _ _ h12=> ?_)
 have h13:=h12.d.t10
 refine g0<|cl1 call162 (ut2_5_stack k o b p j u y z A om) h13 fun _ h15=> ?_
 have h16:=h15.c.c.t10
 refine g0<|cl2 call148 (ut2_6_Make1 l m) h16 fun _ h18=> ?_
 have h19:=h18.h.t10
 refine g0<|cl1 call228 (ut2_9_Len j C D) h19 fun _ h21=> ?_
 have h22:=h21.h.h.h.h.x.x.x.t10
 refine g0<|cP call150 (ut2_10_Make2 t l m j k o b p u y z A q s B e f E om om) h22 ?_
 rintro v K _ (⟨rfl,rfl⟩) h24
 have h25:=ap7 h24
 refine g0<|nP 203 [iV 0,uV 0] h25 (fun _ _ h28=> ?_)
 refine sA [iV e,uV f] h28 fun _ h30=> ?_
 have h31:=h30.h.t11
 refine go [rd 11 1 0 0 2 h30]<|cl1 call229 (ut2_11_Push j e f C D om om) h31 fun _ h33=> ?_
 have h34:=h33.i.t11
 refine go [rd 14 0 1 0 2 h33]<|sA [iV e,uV f] h34 fun _ h36=>g0 ?_
 exact enR (.tuple #[.agg #[iV e,uV f],iV 0]) [rd 0 0 0 0 2 h36] (tk9 (sf8 (sf8 (sf8 (sf8 (sf8 (sf8 (sf8 (sf8 (sf10 h36.a.i.i.i.h.i.i.i.t11))))))))))
theorem amake_ht(b n m:Nat)(A:List Sl2)(s:Nat)(gn:Int)(hT:freeS A=some (s,gn)):HQ 91 [pV b,iV 0,iV 0,.bool true] [Ar0 b n m A] (.tuple #[.agg #[iV s,uV gn],iV 0]) [Ar2 b n m (takeA A) s gn]:=by
 refine hiS func91 ntmps91 fun g w0 R h0=> ?_
 obtain⟨ob10,hb11,t12,gb13,p14,ps15,rs16,rg17,hp18,hp19,hp20,hp21,hp22,h23⟩:=Ar0_open h0
 have h24:sat g _ (Cl b [pV ob10,iV n,iV m,pV p14,sp ps15 0,sp ps15 1,sp ps15 2,pV gb13] 149::_):=h23
 have hb25:=tb_bd (j:=3) h24 rfl
 have hs_:s<n:=by have h_:=(free_at hT).2.2.2;rw[hb25.1] at h_;exact h_
 have hg_:=(hb25.2.2.2 _ (List.mem_of_getElem? (free_at hT).2.2.1)).2.2
 have c:=hg_.1;have d:=hg_.2;dsimp only at c d
 refine g0<|nP 75 [pV b] h24 (fun r26 _ h28=> ?_)
 refine nP 3 [iV 0] h28 (fun r29 _ h31=> ?_)
 refine nP 4 [.bool true] h31 (fun r32 _ h34=> ?_)
 refine nP 203 [iV 0,uV 0] h34 (fun r35 _ h37=> ?_)
 have h38:=h37.i.h.h.h.h.h.h.h.t12
 refine go [rd 1 0 3 0 1 h37]<|cP call147 (ut2_12_give b r29 r32 r26 ob10 n m p14 (sp ps15 0) (sp ps15 1) (sp ps15 2) gb13 hb11 t12 A rs16 rg17 s gn hT om om om om) h38 ?_
 rintro v K w39 (⟨rfl,rfl⟩) h40
 have h41:sat g _ (Cl r32 [.bool true] 4::_):=h40
 have h42:=h41.h.t12
 refine g0<|sA [iV s,uV gn] h42 fun w43 h44=>g0 ?_
 have hf45:=free_at hT
 have h47:sat g _ (Ar2 b n m (takeA A) s gn::_):=Ar2_close b n m (takeA A) s gn ob10 hb11 t12 gb13 p14 ps15 hp18 hp19 hp20 hp21 (take_in hT hp22) hs_ om h44.j.i.j.j.j.j.j.t12
 exact enR (.tuple #[.agg #[iV s,uV gn],iV 0]) [rd 0 0 0 0 2 h44] h47.e.a.t2
theorem ut2_13_valid(a b:Nat)(c:Int):HQ 174 [pV a] [Cl a ([.bool true,iV 1,iV b,uV c]++(List.replicate 31 [iV 0,uV 0]).flatten) 244] (.bool true) [Cl a ([.bool true,iV 1,iV b,uV c]++(List.replicate 31 [iV 0,uV 0]).flatten) 244]:=by
 refine hiS func174 ntmps174 fun g w0 R h0=>go [rd 1 6 0 0 1 h0] ?_
 exact enR _ [] h0
theorem ut2_14_Get(c d:Nat)(e:Int):HQ 234 [pV c,iV 0] [Cl c ([.bool true,iV 1,iV d,uV e]++(List.replicate 31 [iV 0,uV 0]).flatten) 244] (.tuple #[.agg #[iV d,uV e],iV 0]) [Cl c ([.bool true,iV 1,iV d,uV e]++(List.replicate 31 [iV 0,uV 0]).flatten) 244]:=by
 refine hiS func234 ntmps234 fun g w0 R h0=>g0<|nP 203 [iV 0,uV 0] h0 (fun _ _ h12=> ?_)
 have h13:=h12.a.t3
 refine g0<|cl1 call174 (ut2_13_valid c d e) h13 fun _ h15=>go [rd 3 7 0 1 1 h15,.s 5 4]<|lwP (.pointer (some ⟨c,2,none⟩)) (law_indexArr (x:=Ot 26) (i:=Ot 24) (b:=c) (off:=2) (z:=0) kr underlying242 2 kr 0 kr kr om om 2 om _) ?_
 have h16:=h15.a.t3
 refine go [rd 5 5 0 2 2 h15]<|sA [iV d,uV e] h16 fun _ h18=>g0 ?_
 exact enR (.tuple #[.agg #[iV d,uV e],iV 0]) [rd 0 0 0 0 2 h18] (tk2 (sf1 (sf2 h18.a.t3)))
theorem ut2_15_Drop(c e:Nat)(f:Int):HQ 163 [pV c,iV 0] [Cl c ([.bool true,iV 1,iV e,uV f]++(List.replicate 31 [iV 0,uV 0]).flatten) 244] (.tuple #[.agg #[iV e,uV f],iV 0]) [Cl c ([.bool true,iV 0,iV e,uV f]++(List.replicate 31 [iV 0,uV 0]).flatten) 244]:=by
 refine hiS func163 ntmps163 fun g w0 R h0=>g0<|nP 203 [iV 0,uV 0] h0 (fun _ _ h12=> ?_)
 have h13:=h12.a.t3
 refine g0<|cl1 call234 (ut2_14_Get c e f) h13 fun _ h15=>g0<|nP 203 [iV 0,uV 0] h15 (fun _ _ h18=> ?_)
 refine sA [iV e,uV f] h18 fun _ h20=>g0<|dw (fls [0,1,2,3,4,5,6,7,8,9,10,11,12,13,14,15,16,17,18] (Tr.an 19 Tr.nil)) h20 fun _ h22=>go [rd 4 7 1 1 1 h22,.s 4 8]<|lw (.slice (some ⟨c,2,none⟩) 1 32) (fun _=>law_sliceArr (x:=Ot 20) (lo:=(some (Ot 21))) (hi:=(some (Ot 25))) (b:=c) (off:=2) kr underlying242 2 kr 0 1 0 1 kr (show fe _ _ (Ot 21)=_ from by kernel_rfl) (show fe _ _ (Ot 25)=_ from by kernel_rfl) om om om om 2 (by split<;>omega) 1 32 om om _)<|go [rd 4 17 1 1 1 h22,.s 4 18]<|lw (.slice (some ⟨c,4,none⟩) 0 31) (fun _=>law_sliceArr (x:=Ot 29) (lo:=(some (Ot 31))) (hi:=(some (Ot 35))) (b:=c) (off:=2) kr underlying242 2 kr 1 1 1 1 kr (show fe _ _ (Ot 31)=_ from by kernel_rfl) (show fe _ _ (Ot 35)=_ from by kernel_rfl) om om om om 4 ((if_neg om).trans om) 0 31 om om _) ?_
 have h23:=h22.a.t4
 refine actG ?_
 refine an_copy0 (d:=37) (sz:=2) (x:=Ot 26) (y:=Ot 36) (o1:=2) (n1:=1) (c1:=32) (o2:=4) (c2:=31) kr kr rfl underlying392 kr h23 kr kr (by first|decide|simp) ?_
 intro _ h25
 refine⟨kd [],nxG ?_⟩
 refine go [rd 5 3 0 1 1 h25]<|sP [(1,iV 0)] ([.bool true,iV 0,iV e,uV f]++(List.replicate 31 [iV 0,uV 0]).flatten) h25 fun _ h27=> ?_
 have h28:=h27.b.t4
 refine go [rd 6 0 1 0 2 h27]<|sA [iV e,uV f] h28 fun _ h30=>g0 ?_
 exact enR (.tuple #[.agg #[iV e,uV f],iV 0]) [rd 0 0 0 0 2 h30] (tk2 (sf1 (sf3 h30.a.t4)))
theorem adrop_ht(b n m:Nat)(A:List Sl2)(s:Nat)(gn:Int):HQ 100 [pV b,iV 0,iV 0] [Ar2 b n m A s gn] (.tuple #[.agg #[iV s,uV gn],iV 0]) [Ar1 b n m A s gn]:=by
 refine hiS func100 ntmps100 fun g w0 R h0=> ?_
 obtain⟨ob10,hb11,t12,gb13,p14,ps15,hp16,hp17,hp18,hp19,hp20,hp21,hp22,h23⟩:=Ar2_open h0
 have h24:sat g _ (Cl b [pV ob10,iV n,iV m,pV p14,sp ps15 0,sp ps15 1,sp ps15 2,pV gb13] 149::_):=h23
 refine g0<|nP 203 [iV 0,uV 0] h24 (fun r25 _ h27=> ?_)
 have h28:=h27.a.t9
 refine g0<|cl1 call162 (ut2_5_stack b ob10 n m p14 (sp ps15 0) (sp ps15 1) (sp ps15 2) gb13 om) h28 fun _ h30=> ?_
 have h31:=h30.f.t9
 refine g0<|cl1 call163 (ut2_15_Drop p14 s gn) h31 fun _ h33=> ?_
 have h34:=h33.b.t9
 refine g0<|sA [iV s,uV gn] h34 fun w35 h36=>g0 ?_
 have h38:sat g _ (Ar1 b n m A s gn::_):=Ar1_close b n m A s gn ob10 hb11 t12 gb13 p14 ps15 s gn hp16 hp17 hp18 hp19 hp20 hp21 hp22 h36.x.b.x.x.x.x.x.t9
 exact enR (.tuple #[.agg #[iV s,uV gn],iV 0]) [rd 0 0 0 0 2 h36] h38.B.t2
theorem astackj_ht(b ob n m p0 gb:Nat)(ps:List Nat)(jj pj:Nat)(hpj:ps[jj]? =some pj)(hf0:0≤(m:Int)-(jj:Int)-2)(hf1:0≤ -(jj:Int)+2):HQ 162 [pV b,iV ((jj:Int)+1)] [Cl b [pV ob,iV n,iV m,pV p0,sp ps 0,sp ps 1,sp ps 2,pV gb] 149] (.tuple #[pV pj,iV 0]) [Cl b [pV ob,iV n,iV m,pV p0,sp ps 0,sp ps 1,sp ps 2,pV gb] 149]:=by
 refine hiS func162 ntmps162 fun g w0 R h0=>g0<|cl1 call110 (ut2_1_valid b ob n m p0 (sp ps 0) (sp ps 1) (sp ps 2) gb) h0 fun _ h11=>go [.v 3 1 (oF ((jj:Int)+1<0)),rd 3 7 0 2 1 h11,.v 3 8 (oF ((jj:Int)+1≥(m:Int))),.s 5 4]<|lwP (.pointer (some ⟨b,jj+4,none⟩)) (law_indexArr (x:=Ot 24) (i:=Ot 22) (b:=b) (off:=3) (z:=((jj:Int)+1)) kr underlying147 1 kr (jj+1) kr kr om om (jj+4) om _)<|go [.r 5 5 b (jj+4) [pV pj] ⟨sat_cell h11 0 rfl (sp_cell hpj om om),trivial⟩] ?_
 exact enR _ [] h11
theorem ut2_16_Ref(a:Nat):HT prog 398 [.slice (some ⟨a,2,none⟩) 0 32] [] (fun v K=> ∃p14:Option Addr,∃cap15:Nat,v= .slice p14 0 cap15∧K= [Sl 203 2 p14 0 cap15 (fl eRf [])]):=by
 refine hiS func398 ntmps398 fun g w0 R h0=>g0<|nG (fun q_=> .slice (some ⟨q_,0,none⟩) 0 0) 203 [] h0 (fun r10 w11 h12=>⟨kd [],?_⟩)
 have h13:sat g _ (Sl 203 2 (some ⟨r10,0,none⟩) 0 0 (fl eRf [])::_):=sl_of_cl h12 rfl om
 refine g0 ?_
 refine actG ?_
 refine aA 7 2 (Ot 5) (Ot 6) (.agg #[iV 0,uV 0]) (some ⟨r10,0,none⟩) 0 0 0 32 (⟨a,2,none⟩) 16 underlying392 h13 [] rfl (fun j u hj=>by cases hj) (allq trivial) 0 ?_
 intro p14 cap15 w16 h17
 have h18:sat g _ (Sl 203 2 p14 0 cap15 (fl eRf [])::_):=sI h17
 obtain⟨hn19,hn20⟩:=sl_le h18
 refine nxA<|g0 ?_
 exact en (.slice p14 0 cap15) [] ⟨_,_,rfl,⟨p14,cap15,rfl,rfl⟩,h18⟩
theorem ut2_17_All(b:Nat)(c d:Int):HT prog 343 [pV b] [Cl b ([.bool true,iV 0,iV c,uV d]++(List.replicate 31 [iV 0,uV 0]).flatten) 244] (fun v K=> ∃p12:Option Addr,∃cap13:Nat,v= .slice p12 0 cap13∧K= [Cl b ([.bool true,iV 0,iV c,uV d]++(List.replicate 31 [iV 0,uV 0]).flatten) 244,Sl 203 2 p12 0 cap13 (fl eRf [])]):=by
 refine hiS func343 ntmps343 fun g w0 R h0=>g0<|cl1 call319 (ut2_8_used b c d) h0 fun _ h11=>cP call398 (ut2_16_Ref b) h11 ?_
 rintro v K _ (⟨p12,cap13,rfl,rfl⟩) h15
 have h16:=ap1 h15
 refine g0 ?_
 exact en (.slice p12 0 cap13) [] ⟨_,_,rfl,⟨p12,cap13,rfl,rfl⟩,h16.a.t3⟩
theorem astz0_ht(b n m:Nat)(A:List Sl2):HT prog 265 [pV b,iV 0] [Ar0 b n m A] (fun v K=> ∃p:Option Addr,∃c:Nat,v= .tuple #[.slice p 0 c,iV 0]∧K= [Ar0 b n m A]):=by
 refine hiS func265 ntmps265 fun g w0 R h0=> ?_
 obtain⟨ob10,hb11,t12,gb13,p14,ps15,rs16,rg17,hp18,hp19,hp20,hp21,hp22,h23⟩:=Ar0_open h0
 have h24:sat g _ (Cl b [pV ob10,iV n,iV m,pV p14,sp ps15 0,sp ps15 1,sp ps15 2,pV gb13] 149::_):=h23
 refine g0<|cl1 call162 (ut2_5_stack b ob10 n m p14 (sp ps15 0) (sp ps15 1) (sp ps15 2) gb13 om) h24 fun _ h26=> ?_
 have h29:=h26.e.t8
 refine g0<|cP call343 (ut2_17_All p14 rs16 rg17) h29 ?_
 rintro v K w30 (⟨p27,cap28,rfl,rfl⟩) h31
 have h32:=ap2 h31
 refine g0 ?_
 have h34:sat g _ (Ar0 b n m A::_):=Ar0_close b n m A ob10 hb11 t12 gb13 p14 ps15 rs16 rg17 hp18 hp19 hp20 hp21 hp22 h32.x.a.x.x.x.x.x.t9
 exact en (.tuple #[.slice p27 0 cap28,iV 0]) [] ⟨_,_,rfl,⟨p27,cap28,rfl,rfl⟩,h34.B.t2⟩
theorem astj0_ht(b n m:Nat)(A:List Sl2)(jj:Nat)(hf0:0≤(m:Int)-(jj:Int)-2):HT prog 265 [pV b,iV ((jj:Int)+1)] [Ar0 b n m A] (fun v K=> ∃p:Option Addr,∃c:Nat,v= .tuple #[.slice p 0 c,iV 0]∧K= [Ar0 b n m A]):=by
 refine hiS func265 ntmps265 fun g w0 R h0=> ?_
 obtain⟨ob10,hb11,t12,gb13,p14,ps15,rs16,rg17,hp18,hp19,hp20,hp21,hp22,h23⟩:=Ar0_open h0
 have h24:sat g _ (Cl b [pV ob10,iV n,iV m,pV p14,sp ps15 0,sp ps15 1,sp ps15 2,pV gb13] 149::_):=h23
 obtain⟨pj,hpj⟩: ∃b,ps15[jj]? =some b:=⟨_,List.getElem?_eq_getElem om⟩
 have h26:sat g w0 [Cl pj ([.bool true,iV 0]++(List.replicate 32 [iV 0,uV 0]).flatten) 244,Bs ([.bool true,iV 0]++(List.replicate 32 [iV 0,uV 0]).flatten) 244 (ps15.take jj),Bs ([.bool true,iV 0]++(List.replicate 32 [iV 0,uV 0]).flatten) 244 (ps15.drop (jj+1)),Cl b [pV ob10,iV n,iV m,pV p14,sp ps15 0,sp ps15 1,sp ps15 2,pV gb13] 149,Cl ob10 [pV hb11] 143,Cl hb11 (pV t12::iV n::fl eHo F256) 237,Tb t12 n A,Cl gb13 [.bool true,iV 0,uV 0,iV 0,uV 0,iV 0,uV 0,iV 0,uV 0,iV 0,uV 0,iV 0,uV 0,iV 0,uV 0,iV 0,uV 0] 241,Cl p14 ([.bool true,iV 0,iV rs16,uV rg17]++(List.replicate 31 [iV 0,uV 0]).flatten) 244,R]:=bs_get hpj h24.f.t8
 have h27:=h26.c.t10
 refine g0<|cl1 call162 (astackj_ht b ob10 n m p14 gb13 ps15 jj pj hpj om om) h27 fun _ h29=> ?_
 have h32:=h29.a.t10
 refine g0<|cP call343 (ut2_17_All pj 0 0) h32 ?_
 rintro v K w33 (⟨p30,cap31,rfl,rfl⟩) h34
 have h35:=ap2 h34
 refine g0 ?_
 have h37:sat g w33 [Bs ([.bool true,iV 0]++(List.replicate 32 [iV 0,uV 0]).flatten) 244 ps15,Sl 203 2 p30 0 cap31 (fl eRf []),Cl b [pV ob10,iV n,iV m,pV p14,sp ps15 0,sp ps15 1,sp ps15 2,pV gb13] 149,Cl ob10 [pV hb11] 143,Cl hb11 (pV t12::iV n::fl eHo F256) 237,Tb t12 n A,Cl gb13 [.bool true,iV 0,uV 0,iV 0,uV 0,iV 0,uV 0,iV 0,uV 0,iV 0,uV 0,iV 0,uV 0,iV 0,uV 0,iV 0,uV 0] 241,Cl p14 ([.bool true,iV 0,iV rs16,uV rg17]++(List.replicate 31 [iV 0,uV 0]).flatten) 244,R]:=bs_put hpj h35.d.d.b.t11
 have h39:sat g _ (Ar0 b n m A::_):=Ar0_close b n m A ob10 hb11 t12 gb13 p14 ps15 rs16 rg17 hp18 hp19 hp20 hp21 hp22 h37.x.x.x.x.x.x.t9
 exact en (.tuple #[.slice p30 0 cap31,iV 0]) [] ⟨_,_,rfl,⟨p30,cap31,rfl,rfl⟩,h39.B.t2⟩
theorem ast0_ht(b n m:Nat)(A:List Sl2)(j:Nat)(hf0:0≤(m:Int)-(j:Int)-1):HT prog 265 [pV b,iV j] [Ar0 b n m A] (fun v K=> ∃(p:Option Addr) (c:Nat),v=Value.tuple #[Value.slice p 0 c,iV 0]∧K= [Ar0 b n m A]):=by
 cases j with
 |zero=>exact astz0_ht b n m A
 |succ jj=>exact astj0_ht b n m A jj om
theorem astz1_ht(b n m:Nat)(A:List Sl2)(s:Nat)(gn:Int):HT prog 265 [pV b,iV 0] [Ar1 b n m A s gn] (fun v K=> ∃p:Option Addr,∃c:Nat,v= .tuple #[.slice p 0 c,iV 0]∧K= [Ar1 b n m A s gn]):=by
 refine hiS func265 ntmps265 fun g w0 R h0=> ?_
 obtain⟨ob10,hb11,t12,gb13,p14,ps15,rs16,rg17,hp18,hp19,hp20,hp21,hp22,hp23,hp24,h25⟩:=Ar1_open h0
 have h26:sat g _ (Cl b [pV ob10,iV n,iV m,pV p14,sp ps15 0,sp ps15 1,sp ps15 2,pV gb13] 149::_):=h25
 refine g0<|cl1 call162 (ut2_5_stack b ob10 n m p14 (sp ps15 0) (sp ps15 1) (sp ps15 2) gb13 om) h26 fun _ h28=> ?_
 have h31:=h28.e.t8
 refine g0<|cP call343 (ut2_17_All p14 rs16 rg17) h31 ?_
 rintro v K w32 (⟨p29,cap30,rfl,rfl⟩) h33
 have h34:=ap2 h33
 refine g0 ?_
 have h36:sat g _ (Ar1 b n m A s gn::_):=Ar1_close b n m A s gn ob10 hb11 t12 gb13 p14 ps15 rs16 rg17 hp18 hp19 hp20 hp21 hp22 hp23 hp24 h34.x.a.x.x.x.x.x.t9
 exact en (.tuple #[.slice p29 0 cap30,iV 0]) [] ⟨_,_,rfl,⟨p29,cap30,rfl,rfl⟩,h36.B.t2⟩
theorem astj1_ht(b n m:Nat)(A:List Sl2)(s:Nat)(gn:Int)(jj:Nat)(hf0:0≤(m:Int)-(jj:Int)-2):HT prog 265 [pV b,iV ((jj:Int)+1)] [Ar1 b n m A s gn] (fun v K=> ∃p:Option Addr,∃c:Nat,v= .tuple #[.slice p 0 c,iV 0]∧K= [Ar1 b n m A s gn]):=by
 refine hiS func265 ntmps265 fun g w0 R h0=> ?_
 obtain⟨ob10,hb11,t12,gb13,p14,ps15,rs16,rg17,hp18,hp19,hp20,hp21,hp22,hp23,hp24,h25⟩:=Ar1_open h0
 have h26:sat g _ (Cl b [pV ob10,iV n,iV m,pV p14,sp ps15 0,sp ps15 1,sp ps15 2,pV gb13] 149::_):=h25
 obtain⟨pj,hpj⟩: ∃b,ps15[jj]? =some b:=⟨_,List.getElem?_eq_getElem om⟩
 have h28:sat g w0 [Cl pj ([.bool true,iV 0]++(List.replicate 32 [iV 0,uV 0]).flatten) 244,Bs ([.bool true,iV 0]++(List.replicate 32 [iV 0,uV 0]).flatten) 244 (ps15.take jj),Bs ([.bool true,iV 0]++(List.replicate 32 [iV 0,uV 0]).flatten) 244 (ps15.drop (jj+1)),Cl b [pV ob10,iV n,iV m,pV p14,sp ps15 0,sp ps15 1,sp ps15 2,pV gb13] 149,Cl ob10 [pV hb11] 143,Cl hb11 (pV t12::iV n::fl eHo (F256.set s true)) 237,Tb t12 n A,Cl gb13 [.bool true,iV 0,uV 0,iV 0,uV 0,iV 0,uV 0,iV 0,uV 0,iV 0,uV 0,iV 0,uV 0,iV 0,uV 0,iV 0,uV 0] 241,Cl p14 ([.bool true,iV 0,iV rs16,uV rg17]++(List.replicate 31 [iV 0,uV 0]).flatten) 244,R]:=bs_get hpj h26.f.t8
 have h29:=h28.c.t10
 refine g0<|cl1 call162 (astackj_ht b ob10 n m p14 gb13 ps15 jj pj hpj om om) h29 fun _ h31=> ?_
 have h34:=h31.a.t10
 refine g0<|cP call343 (ut2_17_All pj 0 0) h34 ?_
 rintro v K w35 (⟨p32,cap33,rfl,rfl⟩) h36
 have h37:=ap2 h36
 refine g0 ?_
 have h39:sat g w35 [Bs ([.bool true,iV 0]++(List.replicate 32 [iV 0,uV 0]).flatten) 244 ps15,Sl 203 2 p32 0 cap33 (fl eRf []),Cl b [pV ob10,iV n,iV m,pV p14,sp ps15 0,sp ps15 1,sp ps15 2,pV gb13] 149,Cl ob10 [pV hb11] 143,Cl hb11 (pV t12::iV n::fl eHo (F256.set s true)) 237,Tb t12 n A,Cl gb13 [.bool true,iV 0,uV 0,iV 0,uV 0,iV 0,uV 0,iV 0,uV 0,iV 0,uV 0,iV 0,uV 0,iV 0,uV 0,iV 0,uV 0] 241,Cl p14 ([.bool true,iV 0,iV rs16,uV rg17]++(List.replicate 31 [iV 0,uV 0]).flatten) 244,R]:=bs_put hpj h37.d.d.b.t11
 have h41:sat g _ (Ar1 b n m A s gn::_):=Ar1_close b n m A s gn ob10 hb11 t12 gb13 p14 ps15 rs16 rg17 hp18 hp19 hp20 hp21 hp22 hp23 hp24 h39.x.x.x.x.x.x.t9
 exact en (.tuple #[.slice p32 0 cap33,iV 0]) [] ⟨_,_,rfl,⟨p32,cap33,rfl,rfl⟩,h41.B.t2⟩
theorem ast1_ht(b n m:Nat)(A:List Sl2)(s:Nat)(gn:Int)(j:Nat)(hf0:0≤(m:Int)-(j:Int)-1):HT prog 265 [pV b,iV j] [Ar1 b n m A s gn] (fun v K=> ∃(p:Option Addr) (c:Nat),v=Value.tuple #[Value.slice p 0 c,iV 0]∧K= [Ar1 b n m A s gn]):=by
 cases j with
 |zero=>exact astz1_ht b n m A s gn
 |succ jj=>exact astj1_ht b n m A s gn jj om
theorem aobj_ht(b n m:Nat)(A:List Sl2)(s:Nat)(gn:Int):HQ 436 [pV b,.agg #[iV s,uV gn]] [Ar1 b n m A s gn] (.tuple #[.agg #[iV 0,iV 0,uV 0,iV 0,uV 0,iV 0,uV 0,iV 0,uV 0,.bool true],iV 0]) [Ar1 b n m A s gn]:=by
 refine hiS func436 ntmps436 fun g w0 R h0=> ?_
 obtain⟨ob10,hb11,t12,gb13,p14,ps15,rs16,rg17,hp18,hp19,hp20,hp21,hp22,hp23,hp24,h25⟩:=Ar1_open h0
 have h26:sat g _ (Cl b [pV ob10,iV n,iV m,pV p14,sp ps15 0,sp ps15 1,sp ps15 2,pV gb13] 149::_):=h25
 refine g0<|nP 203 [iV s,uV gn] h26 (fun r27 _ h29=> ?_)
 refine nP 234 [iV 0,iV 0,uV 0,iV 0,uV 0,iV 0,uV 0,iV 0,uV 0,.bool false] h29 (fun r30 _ h32=> ?_)
 have h33:=h32.b.t10
 refine g0<|cl1 call110 (ut2_1_valid b ob10 n m p14 (sp ps15 0) (sp ps15 1) (sp ps15 2) gb13) h33 fun _ h35=>g0<|dw (fls [0,1,2,3,4,5,6,7] (Tr.an 8 (fls [9,10] (Tr.an 11 (Tr.fl 12 Tr.nil))))) h35 fun _ h37=> ?_
 have h38:=h37.e.e.t10
 refine go [rd 3 3 0 0 1 h37,rd 3 6 3 0 1 h37,rd 3 7 2 0 2 h37]<|cw2 call465 (hobj_ht hb11 t12 n A s gn hp22 om om om) h38 fun _ h40=>⟨kd [],?_⟩
 have h41:=h40.c.t10
 refine g0<|sB [iV 0,iV 0,uV 0,iV 0,uV 0,iV 0,uV 0,iV 0,uV 0,.bool true] h41 fun w42 h43=>⟨kd [],?_⟩
 refine g0 ?_
 have h45:sat g _ (Ar1 b n m A s gn::_):=Ar1_close b n m A s gn ob10 hb11 t12 gb13 p14 ps15 rs16 rg17 hp18 hp19 hp20 hp21 hp22 hp23 hp24 h43.h.h.h.e.e.h.x.t10
 exact enR _ [rd 0 0 0 0 10 h43] h45.c.a.t2
theorem afree_ht(b n m:Nat)(A:List Sl2)(s:Nat)(gn:Int):HQ 446 [pV b,.agg #[iV s,uV gn]] [Ar1 b n m A s gn] (iV 0) [Ar0 b n m (giveA A s gn)]:=by
 refine hiS func446 ntmps446 fun g w0 R h0=> ?_
 obtain⟨ob10,hb11,t12,gb13,p14,ps15,rs16,rg17,hp18,hp19,hp20,hp21,hp22,hp23,hp24,h25⟩:=Ar1_open h0
 have h26:sat g _ (Cl b [pV ob10,iV n,iV m,pV p14,sp ps15 0,sp ps15 1,sp ps15 2,pV gb13] 149::_):=h25
 refine g0<|nP 203 [iV s,uV gn] h26 (fun r27 _ h29=> ?_)
 have h30:=h29.a.t9
 refine g0<|cl1 call110 (ut2_1_valid b ob10 n m p14 (sp ps15 0) (sp ps15 1) (sp ps15 2) gb13) h30 fun _ h32=>g0<|dw (fls [0,1,2,3,4,5,6,7] (Tr.an 8 (Tr.fl 9 Tr.nil))) h32 fun _ h34=> ?_
 have h35:=h34.d.d.t9
 refine go [rd 3 3 0 0 1 h34,rd 3 6 2 0 1 h34,rd 3 7 1 0 2 h34]<|cw2 call468 (hfree_ht hb11 t12 n A s gn hp22 om om om) h35 fun w36 h37=>⟨kd [],?_⟩
 refine g0 ?_
 have h39:sat g _ (Ar0 b n m (giveA A s gn)::_):=Ar0_close b n m (giveA A s gn) ob10 hb11 t12 gb13 p14 ps15 rs16 rg17 hp18 hp19 hp20 hp21 (give_in hp22) h37.x.x.x.d.d.x.f.t9
 exact enR _ [] h39.B.t2
theorem hnew_ht(n:Nat)(gn:Int)(hf0:0≤(n:Int)-1)(hf1:0≤ -(n:Int)+256)(hf2:0≤gn-1)(hf3:0≤ -gn+4294967295):HT prog 59 [iV n,uV gn] [] (fun v K=> ∃h2:Nat,∃t2:Nat,v= .tuple #[pV h2,iV 0]∧K= [Cl h2 (pV t2::iV n::fl eHo F256) 237,Tb t2 n (List.replicate n (0,gn))]):=by
 refine hiS func59 ntmps59 fun g w0 R h0=>go [.v 1 1 (oF ((n:Int)<1)),.v 1 4 (oF ((n:Int)>256)),.v 1 8 (oF (gn<1))]<|cP call67 (snew_ok n om gn om) h0 ?_
 rintro v K _ (⟨b10,rfl,rfl⟩) h12
 have h13:=ap1 h12
 refine g0<|nP 237 (pV b10::iV n::fl eHo F256) h13 (fun r14 _ h16=> ?_)
 refine g0 ?_
 exact en (.tuple #[pV r14,iV 0]) [] ⟨_,_,rfl,⟨r14,b10,rfl,rfl⟩,h16⟩
theorem ut2_18_New:HT prog 60 [] [] (fun v K=> ∃r10:Nat,v=pV r10∧K= [Cl r10 [.bool true,iV 0,uV 0,iV 0,uV 0,iV 0,uV 0,iV 0,uV 0,iV 0,uV 0,iV 0,uV 0,iV 0,uV 0,iV 0,uV 0] 241]):=by
 refine hiS func60 ntmps60 fun g w0 R h0=>g0<|nP 241 [.bool true,iV 0,uV 0,iV 0,uV 0,iV 0,uV 0,iV 0,uV 0,iV 0,uV 0,iV 0,uV 0,iV 0,uV 0,iV 0,uV 0] h0 (fun r10 _ h12=> ?_)
 refine g0 ?_
 exact en (pV r10) [] ⟨_,_,rfl,⟨r10,rfl,rfl⟩,h12⟩
theorem ut2_19_New:HT prog 61 [] [] (fun v K=> ∃r10:Nat,v=pV r10∧K= [Cl r10 ([.bool true,iV 0]++(List.replicate 32 [iV 0,uV 0]).flatten) 244]):=by
 refine hiS func61 ntmps61 fun g w0 R h0=>g0<|nP 244 ([.bool true,iV 0]++(List.replicate 32 [iV 0,uV 0]).flatten) h0 (fun r10 _ h12=> ?_)
 refine g0 ?_
 exact en (pV r10) [] ⟨_,_,rfl,⟨r10,rfl,rfl⟩,h12⟩
theorem anew_ht(n m:Nat)(gn:Int)(hf0:0≤(n:Int)-1)(hf1:0≤ -(n:Int)+256)(hf2:0≤(m:Int)-1)(hf3:0≤ -(m:Int)+4)(hf4:0≤gn-1)(hf5:0≤ -gn+4294967295):HT prog 28 [iV n,iV m,uV gn] [] (fun v K=> ∃b:Nat,v= .tuple #[pV b,iV 0]∧K= [Ar0 b n m (List.replicate n (0,gn))]):=by
 refine hiS func28 ntmps28 fun g w0 R h0=>g0<|cP call59 (hnew_ht n gn om om om om) h0 ?_
 rintro v K _ (⟨h10,t11,rfl,rfl⟩) h13
 have h14:=ap2 h13
 refine go [.v 2 4 (oF ((m:Int)<1)),.v 2 8 (oF ((m:Int)>4))]<|nP 143 [pV h10] h14 (fun r15 _ h17=> ?_)
 refine g0<|cP call60 ut2_18_New h17 ?_
 rintro v K _ (⟨r18,rfl,rfl⟩) h20
 have h21:=ap1 h20
 refine g0<|nP 149 [pV r15,iV n,iV m,.pointer none,.pointer none,.pointer none,.pointer none,pV r18] h21 (fun r22 _ h24=> ?_)
 refine g0<|unS 39<|go [.v 6 0 (oT (0<(m:Int)))]<|dw (fls [0,1,3,4] (Tr.an 2 (Tr.fl 5 (Tr.an 6 Tr.nil)))) h24 fun _ h26=>g0<|cG call61 ut2_19_New h26 ?_
 rintro v K _ (⟨r27,rfl,rfl⟩) h29
 have h30:=ap1 h29
 refine⟨kd [],?_⟩
 refine lw (.pointer (some ⟨r22,3,none⟩)) (fun _=>law_indexArr (x:=Ot 44) (i:=Ot 41) (b:=r22) (off:=3) (z:=0) kr underlying147 1 kr 0 kr kr om om 3 om _)<|sG [(3,pV r27)] [pV r15,iV n,iV m,pV r27,.pointer none,.pointer none,.pointer none,pV r18] h30.a.t7 fun w32 h33=>⟨kd [],?_⟩
 refine g0<|unN<|go [.s 6 0] ?_
 by_cases c34:1<(m:Int);rotate_left
 ·
  refine go [.v 6 0 (oF _ c34)]<|up<|g0 ?_
  have h88:=bs_nil (cs:=([.bool true,iV 0]++(List.replicate 32 [iV 0,uV 0]).flatten)) (t:=244) h33
  have h91:sat g w32 [Cl r22 [pV r15,iV n,iV m,pV r27,sp [] 0,sp [] 1,sp [] 2,pV r18] 149,Cl r15 [pV h10] 143,Cl h10 (pV t11::iV n::fl eHo F256) 237,Tb t11 n (List.replicate n (0,gn)),Cl r18 [.bool true,iV 0,uV 0,iV 0,uV 0,iV 0,uV 0,iV 0,uV 0,iV 0,uV 0,iV 0,uV 0,iV 0,uV 0,iV 0,uV 0] 241,Cl r27 ([.bool true,iV 0]++(List.replicate 32 [iV 0,uV 0]).flatten) 244,Bs ([.bool true,iV 0]++(List.replicate 32 [iV 0,uV 0]).flatten) 244 [],R]:=h88.b.c.f.f.f.f.t8
  have h90:sat g _ (Ar0 r22 n m (List.replicate n (0,gn))::_):=Ar0_close r22 n m (List.replicate n (0,gn)) r15 h10 t11 r18 r27 [] 0 0 (by rw[show ([]:List Nat).length=0 from rfl];omega) om om om (inS_repl _ om _ _) h91
  exact en (.tuple #[pV r22,iV 0]) [] ⟨_,_,rfl,⟨r22,rfl,rfl⟩,h90⟩
 refine go [.v 6 0 (oT _ c34)]<|dw (fls [0,1,3,4] (Tr.an 2 (Tr.fl 5 (Tr.an 6 Tr.nil)))) h33 fun _ h36=>g0<|cG call61 ut2_19_New h36 ?_
 rintro v K _ (⟨r37,rfl,rfl⟩) h39
 have h40:=ap1 h39
 refine⟨kd [],?_⟩
 refine lw (.pointer (some ⟨r22,4,none⟩)) (fun _=>law_indexArr (x:=Ot 44) (i:=Ot 41) (b:=r22) (off:=3) (z:=1) kr underlying147 1 kr 1 kr kr om om 4 om _)<|sG [(4,pV r37)] [pV r15,iV n,iV m,pV r27,pV r37,.pointer none,.pointer none,pV r18] h40.a.t8 fun w42 h43=>⟨kd [],?_⟩
 refine g0<|unN<|go [.s 6 0] ?_
 by_cases c44:2<(m:Int);rotate_left
 ·
  refine go [.v 6 0 (oF _ c44)]<|up<|g0 ?_
  have h82:=bs_nil (cs:=([.bool true,iV 0]++(List.replicate 32 [iV 0,uV 0]).flatten)) (t:=244) h43
  have h84:sat g w42 [Bs ([.bool true,iV 0]++(List.replicate 32 [iV 0,uV 0]).flatten) 244 [r37],Cl r22 [pV r15,iV n,iV m,pV r27,pV r37,.pointer none,.pointer none,pV r18] 149,Cl r27 ([.bool true,iV 0]++(List.replicate 32 [iV 0,uV 0]).flatten) 244,Cl r18 [.bool true,iV 0,uV 0,iV 0,uV 0,iV 0,uV 0,iV 0,uV 0,iV 0,uV 0,iV 0,uV 0,iV 0,uV 0,iV 0,uV 0] 241,Cl r15 [pV h10] 143,Cl h10 (pV t11::iV n::fl eHo F256) 237,Tb t11 n (List.replicate n (0,gn)),R]:=bs_cons h82.b.t9
  have h87:sat g w42 [Cl r22 [pV r15,iV n,iV m,pV r27,sp [r37] 0,sp [r37] 1,sp [r37] 2,pV r18] 149,Cl r15 [pV h10] 143,Cl h10 (pV t11::iV n::fl eHo F256) 237,Tb t11 n (List.replicate n (0,gn)),Cl r18 [.bool true,iV 0,uV 0,iV 0,uV 0,iV 0,uV 0,iV 0,uV 0,iV 0,uV 0,iV 0,uV 0,iV 0,uV 0,iV 0,uV 0] 241,Cl r27 ([.bool true,iV 0]++(List.replicate 32 [iV 0,uV 0]).flatten) 244,Bs ([.bool true,iV 0]++(List.replicate 32 [iV 0,uV 0]).flatten) 244 [r37],R]:=h84.b.c.f.f.f.f.t8
  have h86:sat g _ (Ar0 r22 n m (List.replicate n (0,gn))::_):=Ar0_close r22 n m (List.replicate n (0,gn)) r15 h10 t11 r18 r27 [r37] 0 0 (by rw[show ([r37]:List Nat).length=1 from rfl];omega) om om om (inS_repl _ om _ _) h87
  exact en (.tuple #[pV r22,iV 0]) [] ⟨_,_,rfl,⟨r22,rfl,rfl⟩,h86⟩
 refine go [.v 6 0 (oT _ c44)]<|dw (fls [0,1,3,4] (Tr.an 2 (Tr.fl 5 (Tr.an 6 Tr.nil)))) h43 fun _ h46=>g0<|cG call61 ut2_19_New h46 ?_
 rintro v K _ (⟨r47,rfl,rfl⟩) h49
 have h50:=ap1 h49
 refine⟨kd [],?_⟩
 refine lw (.pointer (some ⟨r22,5,none⟩)) (fun _=>law_indexArr (x:=Ot 44) (i:=Ot 41) (b:=r22) (off:=3) (z:=2) kr underlying147 1 kr 2 kr kr om om 5 om _)<|sG [(5,pV r47)] [pV r15,iV n,iV m,pV r27,pV r37,pV r47,.pointer none,pV r18] h50.a.t9 fun w52 h53=>⟨kd [],?_⟩
 refine g0<|unN<|go [.s 6 0] ?_
 by_cases c54:3<(m:Int)
 ·
  refine go [.v 6 0 (oT _ c54)]<|dw (fls [0,1,3,4] (Tr.an 2 (Tr.fl 5 (Tr.an 6 Tr.nil)))) h53 fun _ h56=>g0<|cG call61 ut2_19_New h56 ?_
  rintro v K _ (⟨r57,rfl,rfl⟩) h59
  have h60:=ap1 h59
  refine⟨kd [],?_⟩
  refine lw (.pointer (some ⟨r22,6,none⟩)) (fun _=>law_indexArr (x:=Ot 44) (i:=Ot 41) (b:=r22) (off:=3) (z:=3) kr underlying147 1 kr 3 kr kr om om 6 om _)<|sG [(6,pV r57)] [pV r15,iV n,iV m,pV r27,pV r37,pV r47,pV r57,pV r18] h60.a.t10 fun w62 h63=>⟨kd [],?_⟩
  refine g0<|unN<|go [.v 6 0 (oF (4<(m:Int)))]<|up<|g0 ?_
  have h64:=bs_nil (cs:=([.bool true,iV 0]++(List.replicate 32 [iV 0,uV 0]).flatten)) (t:=244) h63
  have h66:sat g w62 [Bs ([.bool true,iV 0]++(List.replicate 32 [iV 0,uV 0]).flatten) 244 [r57],Cl r22 [pV r15,iV n,iV m,pV r27,pV r37,pV r47,pV r57,pV r18] 149,Cl r47 ([.bool true,iV 0]++(List.replicate 32 [iV 0,uV 0]).flatten) 244,Cl r37 ([.bool true,iV 0]++(List.replicate 32 [iV 0,uV 0]).flatten) 244,Cl r27 ([.bool true,iV 0]++(List.replicate 32 [iV 0,uV 0]).flatten) 244,Cl r18 [.bool true,iV 0,uV 0,iV 0,uV 0,iV 0,uV 0,iV 0,uV 0,iV 0,uV 0,iV 0,uV 0,iV 0,uV 0,iV 0,uV 0] 241,Cl r15 [pV h10] 143,Cl h10 (pV t11::iV n::fl eHo F256) 237,Tb t11 n (List.replicate n (0,gn)),R]:=bs_cons h64.b.t11
  have h68:sat g w62 [Bs ([.bool true,iV 0]++(List.replicate 32 [iV 0,uV 0]).flatten) 244 [r47,r57],Cl r22 [pV r15,iV n,iV m,pV r27,pV r37,pV r47,pV r57,pV r18] 149,Cl r37 ([.bool true,iV 0]++(List.replicate 32 [iV 0,uV 0]).flatten) 244,Cl r27 ([.bool true,iV 0]++(List.replicate 32 [iV 0,uV 0]).flatten) 244,Cl r18 [.bool true,iV 0,uV 0,iV 0,uV 0,iV 0,uV 0,iV 0,uV 0,iV 0,uV 0,iV 0,uV 0,iV 0,uV 0,iV 0,uV 0] 241,Cl r15 [pV h10] 143,Cl h10 (pV t11::iV n::fl eHo F256) 237,Tb t11 n (List.replicate n (0,gn)),R]:=bs_cons h66.b.t10
  have h70:sat g w62 [Bs ([.bool true,iV 0]++(List.replicate 32 [iV 0,uV 0]).flatten) 244 [r37,r47,r57],Cl r22 [pV r15,iV n,iV m,pV r27,pV r37,pV r47,pV r57,pV r18] 149,Cl r27 ([.bool true,iV 0]++(List.replicate 32 [iV 0,uV 0]).flatten) 244,Cl r18 [.bool true,iV 0,uV 0,iV 0,uV 0,iV 0,uV 0,iV 0,uV 0,iV 0,uV 0,iV 0,uV 0,iV 0,uV 0,iV 0,uV 0] 241,Cl r15 [pV h10] 143,Cl h10 (pV t11::iV n::fl eHo F256) 237,Tb t11 n (List.replicate n (0,gn)),R]:=bs_cons h68.b.t9
  have h73:sat g w62 [Cl r22 [pV r15,iV n,iV m,pV r27,sp [r37,r47,r57] 0,sp [r37,r47,r57] 1,sp [r37,r47,r57] 2,pV r18] 149,Cl r15 [pV h10] 143,Cl h10 (pV t11::iV n::fl eHo F256) 237,Tb t11 n (List.replicate n (0,gn)),Cl r18 [.bool true,iV 0,uV 0,iV 0,uV 0,iV 0,uV 0,iV 0,uV 0,iV 0,uV 0,iV 0,uV 0,iV 0,uV 0,iV 0,uV 0] 241,Cl r27 ([.bool true,iV 0]++(List.replicate 32 [iV 0,uV 0]).flatten) 244,Bs ([.bool true,iV 0]++(List.replicate 32 [iV 0,uV 0]).flatten) 244 [r37,r47,r57],R]:=h70.b.c.f.f.f.f.t8
  have h72:sat g _ (Ar0 r22 n m (List.replicate n (0,gn))::_):=Ar0_close r22 n m (List.replicate n (0,gn)) r15 h10 t11 r18 r27 [r37,r47,r57] 0 0 (by rw[show ([r37,r47,r57]:List Nat).length=3 from rfl];omega) om om om (inS_repl _ om _ _) h73
  exact en (.tuple #[pV r22,iV 0]) [] ⟨_,_,rfl,⟨r22,rfl,rfl⟩,h72⟩
 refine go [.v 6 0 (oF _ c54)]<|up<|g0 ?_
 have h74:=bs_nil (cs:=([.bool true,iV 0]++(List.replicate 32 [iV 0,uV 0]).flatten)) (t:=244) h53
 have h76:sat g w52 [Bs ([.bool true,iV 0]++(List.replicate 32 [iV 0,uV 0]).flatten) 244 [r47],Cl r22 [pV r15,iV n,iV m,pV r27,pV r37,pV r47,.pointer none,pV r18] 149,Cl r37 ([.bool true,iV 0]++(List.replicate 32 [iV 0,uV 0]).flatten) 244,Cl r27 ([.bool true,iV 0]++(List.replicate 32 [iV 0,uV 0]).flatten) 244,Cl r18 [.bool true,iV 0,uV 0,iV 0,uV 0,iV 0,uV 0,iV 0,uV 0,iV 0,uV 0,iV 0,uV 0,iV 0,uV 0,iV 0,uV 0] 241,Cl r15 [pV h10] 143,Cl h10 (pV t11::iV n::fl eHo F256) 237,Tb t11 n (List.replicate n (0,gn)),R]:=bs_cons h74.b.t10
 have h78:sat g w52 [Bs ([.bool true,iV 0]++(List.replicate 32 [iV 0,uV 0]).flatten) 244 [r37,r47],Cl r22 [pV r15,iV n,iV m,pV r27,pV r37,pV r47,.pointer none,pV r18] 149,Cl r27 ([.bool true,iV 0]++(List.replicate 32 [iV 0,uV 0]).flatten) 244,Cl r18 [.bool true,iV 0,uV 0,iV 0,uV 0,iV 0,uV 0,iV 0,uV 0,iV 0,uV 0,iV 0,uV 0,iV 0,uV 0,iV 0,uV 0] 241,Cl r15 [pV h10] 143,Cl h10 (pV t11::iV n::fl eHo F256) 237,Tb t11 n (List.replicate n (0,gn)),R]:=bs_cons h76.b.t9
 have h81:sat g w52 [Cl r22 [pV r15,iV n,iV m,pV r27,sp [r37,r47] 0,sp [r37,r47] 1,sp [r37,r47] 2,pV r18] 149,Cl r15 [pV h10] 143,Cl h10 (pV t11::iV n::fl eHo F256) 237,Tb t11 n (List.replicate n (0,gn)),Cl r18 [.bool true,iV 0,uV 0,iV 0,uV 0,iV 0,uV 0,iV 0,uV 0,iV 0,uV 0,iV 0,uV 0,iV 0,uV 0,iV 0,uV 0] 241,Cl r27 ([.bool true,iV 0]++(List.replicate 32 [iV 0,uV 0]).flatten) 244,Bs ([.bool true,iV 0]++(List.replicate 32 [iV 0,uV 0]).flatten) 244 [r37,r47],R]:=h78.b.c.f.f.f.f.t8
 have h80:sat g _ (Ar0 r22 n m (List.replicate n (0,gn))::_):=Ar0_close r22 n m (List.replicate n (0,gn)) r15 h10 t11 r18 r27 [r37,r47] 0 0 (by rw[show ([r37,r47]:List Nat).length=2 from rfl];omega) om om om (inS_repl _ om _ _) h81
 exact en (.tuple #[pV r22,iV 0]) [] ⟨_,_,rfl,⟨r22,rfl,rfl⟩,h80⟩
end Go.Proofs.YtcgkoffnknpgjaaGreatDoor

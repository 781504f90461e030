/-
  Slices that own their row: as an assertion; append; whole blocks loaded and stored. No program in sight.
-/
import Derived.Test.YtcgkoffnknpgjaaGreatDoorLawsx
import Derived.Maps.AppendAt
import Derived.Laws.CopyRow
namespace Go.Proofs.YtcgkoffnknpgjaaGreatDoor
set_option linter.unusedVariables false
set_option linter.unusedSimpArgs false
variable {ds : List Deferred}
def Sl(e sz:Nat)(p:Option Addr)(n c:Nat)(cs:List Value):AB:=fun h=>
 cs.length=n*sz∧((p=none∧n=0∧c=0)∨ ∃g cur,p=some ⟨g,0,none⟩∧Cl g cur e h∧n≤c∧c≤maxLen∧cur.length=c*sz∧cur.take (n*sz)=cs)
section
variable {g w : World} {L : List AB} {e sz : Nat} {p : Option Addr} {n c : Nat} {cs : List Value}
theorem ND(h:sat g w (Sl e sz p n c cs::L)):cs.length=n*sz:=Js h fun _ hh=>hh.1
theorem BH(h:sat g w (Sl e sz p n c cs::L)):n≤c∧c≤9223372036854775807:=by
 refine Js h fun _ hh=> ?_
 rcases hh.2 with ⟨_,h1,h2⟩|⟨_,_,_,_,h1,h2,_⟩
 · omega
 · unfold maxLen at h2;omega
theorem CP(e sz:Nat)(h:sat g w L):sat g w (Sl e sz none 0 0 []::L):=by
 obtain⟨s,Z,hZ,ok,pw⟩:=h
 refine⟨s,(Sl e sz none 0 0 [],fun _=>none)::Z,by simp[hZ],?_,?_⟩
 · intro z hz
   rcases List.mem_cons.1 hz with rfl |hz
   · exact⟨⟨by simp,.inl ⟨rfl,rfl,rfl⟩⟩,fun b o e=>by cases e⟩
   · exact ok z hz
 · rw[List.pairwise_cons]
   exact⟨fun z _ b=> .inl rfl,pw⟩
theorem HO{b:Nat}(h:sat g w (Cl b cs e::L))(hl:cs.length=n*sz)(hn:n≤9223372036854775807):sat g w (Sl e sz (some ⟨b,0,none⟩) n n cs::L):=
 AI h fun _ hh=>⟨hl,.inr ⟨b,cs,rfl,hh,Nat.le_refl _,by unfold maxLen;omega,hl,List.take_of_length_le om⟩⟩
theorem NE(h:sat g w (Sl e sz p n c cs::L))(hn:0<n): ∃b cur,p=some ⟨b,0,none⟩∧cur.length=c*sz∧cur.take (n*sz)=cs∧sat g w (Cl b cur e::L):=by
 obtain⟨⟨b,cur⟩,⟨h1,h2,h3⟩,h4⟩:=Af (X:=Nat×List Value) (p:=fun x=>p=some ⟨x.1,0,none⟩∧x.2.length=c*sz∧x.2.take (n*sz)=cs) (B:=fun x=>Cl x.1 x.2 e) h (fun k hk=>by
  rcases hk.2 with ⟨_,h1,_⟩|⟨b,cur,h1,h2,_,_,h3,h4⟩
  · omega
  · exact⟨(b,cur),⟨h1,h3,h4⟩,h2⟩)
 exact⟨b,cur,h1,h2,h3,h4⟩
theorem PJ{b:Nat}{cur:List Value}(h:sat g w (Cl b cur e::L))(hl:cs.length=n*sz)(hn:n≤c)(hc:c≤9223372036854775807)(h1:cur.length=c*sz)(h2:cur.take (n*sz)=cs):sat g w (Sl e sz (some ⟨b,0,none⟩) n c cs::L):=
 AI h fun _ hh=>⟨hl,.inr ⟨b,cur,rfl,hh,hn,by unfold maxLen;omega,h1,h2⟩⟩
theorem cB{cur cs:List Value}{m j:Nat}(h:cur.take m=cs)(hj:j<m):cur[j]? =cs[j]? :=by
 rw[←h,List.getElem?_take,if_pos hj]
theorem LL(h:sat g w (Sl e sz p n c cs::L)):w.ownsRow 0 e sz (.slice p n c) n cs:=by
 have hl:=ND h
 refine⟨hl,?_⟩
 obtain⟨s,Z,hZ,ok,pw⟩:=h
 match Z,hZ with
 |z::Z,hZ=>
  simp only[List.map_cons,List.cons.injEq] at hZ
  have hz:=ok z (by simp)
  rw[hZ.1] at hz
  rcases hz.1.2 with ⟨rfl,rfl,rfl⟩|⟨b,cur,rfl,h2,h3,h4,h5,h6⟩
  · exact .inl ⟨rfl,rfl⟩
  · exact .inr ⟨b,c,cur.toArray,rfl,Nat.zero_le _,hz.2 b _ h2,h3,h4,by simpa using h5,by simpa using h6⟩
theorem VF{w':World}{v':Value}{n':Nat}{cs':List Value}(h:sat g w (Sl e sz p n c cs::L))(hg:w.grownBy w' (Value.slice p n c).ownBlock)(ho:w'.ownsRow 0 e sz v' n' cs')
 (hb:v'.ownBlock=(Value.slice p n c).ownBlock∨v'.ownBlock=some w.heap.size)(hdr:w.drawn≤w'.drawn): ∃p' c',v'= .slice p' n' c'∧sat g w' (Sl e sz p' n' c' cs'::L):=by
 obtain⟨s,Z,hZ,ok,pw⟩:=h
 match Z,hZ with
 |z::Z,hZ=>
  simp only[List.map_cons,List.cons.injEq] at hZ
  obtain⟨hz1,hZ⟩:=hZ
  have hz:=ok z (by simp)
  rw[hz1] at hz
  rw[List.pairwise_cons] at pw
  have hs':Same g w':=⟨hg.os.trans s.os,hg.tape.trans s.tape,hg.output.trans s.output,Nat.le_trans s.drawn hdr⟩
  have rest: ∀y∈Z,y.1 y.2∧kD y.2 w':=fun y hy=>by
   refine⟨(ok y (by simp[hy])).1,fun b o e=> ?_⟩
   have h1:=(ok y (by simp[hy])).2 b o e
   have hlt:b<w.heap.size:=(Array.getElem?_eq_some_iff.1 h1).1
   rw[hg.block b hlt ?_]
   · exact h1
   · intro hbb
     rcases hz.1.2 with ⟨rfl,_,_⟩|⟨g0,cur,rfl,h2,_⟩
     · simp[Value.ownBlock] at hbb
     · simp only[Value.ownBlock,Option.some.injEq] at hbb
       subst hbb
       rcases pw.1 y hy b with h3|h3
       · have h4:z.2 b=some _:=h2
         rw[h3] at h4
         cases h4
       · rw[h3] at e
         cases e
  have build: ∀(A:AB) (k:Hp),A k→kD k w'→(∀b,(∃o,k b=some o)→(Value.slice p n c).ownBlock=some b∨b=w.heap.size)→sat g w' (A::L):=fun A k ha hk hd=>by
   refine⟨hs',(A,k)::Z,by simp[hZ],?_,?_⟩
   · intro y hy0
     rcases List.mem_cons.1 hy0 with rfl |hy
     · exact⟨ha,hk⟩
     · exact rest y hy
   · rw[List.pairwise_cons]
     refine⟨fun y hy b=> ?_,pw.2⟩
     show k b=none∨y.2 b=none
     cases e:k b with
     |none=>exact .inl rfl
     |some o=>
      refine .inr ?_
      rcases hd b ⟨o,e⟩ with h1|h1
      · rcases hz.1.2 with ⟨rfl,_,_⟩|⟨g0,cur,rfl,h2,_⟩
        · simp[Value.ownBlock] at h1
        · simp only[Value.ownBlock,Option.some.injEq] at h1
          subst h1
          rcases pw.1 y hy g0 with h3|h3
          · have h4:z.2 g0=some _:=h2
            rw[h3] at h4
            cases h4
          · exact h3
      · cases e2:y.2 b with
        |none=>rfl
        |some o2=>
         have h3:=(ok y (by simp[hy])).2 b o2 e2
         have:=(Array.getElem?_eq_some_iff.1 h3).1
         omega
  rcases ho.2 with ⟨rfl,rfl⟩|⟨b,cap,cur,rfl,_,h2,h3,h4,h5,h6⟩
  · refine⟨none,0,rfl,build _ (fun _=>none) ?_ (fun b o e=>by cases e) (fun b ⟨o,e⟩=>by cases e)⟩
    exact⟨ho.1,.inl ⟨rfl,rfl,rfl⟩⟩
  · refine⟨some ⟨b,0,none⟩,cap,rfl,build _ (fun k=>if k=b then some (.cells cur e (0,0)) else none) ?_ ?_ ?_⟩
    · exact⟨ho.1,.inr ⟨b,cur.toList,rfl,by simp[Cl,pt],h3,h4,by simpa using h5,h6⟩⟩
    · intro k o e
      try dsimp only at e
      split at e
      · rename_i hk
        subst hk
        rw[h2,←e]
      · cases e
    · rintro k ⟨o,e⟩
      try dsimp only at e
      split at e
      · rename_i hk
        subst hk
        rcases hb with hb|hb
        · exact .inl (by rw[←hb];rfl)
        · exact .inr (by simpa [Value.ownBlock] using hb)
      · cases e
end
section
variable {P : Program} {Q : Exit → Act → World → Prop} {g w : World} {L : List AB} {n : Nat} {l : Fr} {o : Oper} {N : Act → World → Prop}
theorem MD{d t e sz by_:Nat}{s x:Operand}{z:Value}(ho:o.op= .call {callee:= .builtin .append,args:= #[s,x],argTypes:= #[t,t]})(hd:o.dst=some d)(hn:Nat.blt d n=true)
 (ht:P.underlying t=some (.slice e))(hi:(P.info? e).map (fun i=>(i.zero,i.size,i.bytes))=some (some z,sz,by_))(hzs:z.cells.size=sz)(hsz:0<sz)
 {p:Option Addr}{m c:Nat}{cs:List Value}{a:Addr}{k c2:Nat}(hsv:fe n l s= .slice p m c)(hxv:fe n l x= .slice (some a) k c2)(hs:sat g w (Sl e sz p m c cs::L))
 (ys:List Value)(hl:ys.length=k*sz)(hy: ∀j u,ys[j]? =some u→w.cell? (a.add j)=some u)(h1: ∀u∈ys,u.oneCell'=true)(h63:m+k≤9223372036854775807)(hby:(m+k)*by_≤140737488355328)
 (q:Nat)(hmk:m+k=q)(h: ∀p' c' w',sat g w' (Sl e sz p' q c' (cs++ys)::L)→N (Ad ds n ((d,.slice p' q c')::l)) w'):OP P o (Ad ds n l) w N Q:=by
 refine⟨?_⟩
 subst hmk
 cases hq:P.info? e with
 |none=>simp[hq] at hi
 |some i=>
  simp only[hq,Option.map_some,Option.some.injEq,Prod.mk.injEq] at hi
  obtain⟨v',w',hr,h2,h3,_,h5⟩:=run_append_own_at (P:=P) w 0 t o.type e i z sz by_ ht hq hi.1 hi.2.1 hi.2.2 hzs hsz _ m cs (LL hs) a k c2 ys hl hy h1 (by unfold maxLen;omega) hby (Nat.zero_le _)
  obtain⟨p',c',rfl,hs'⟩:=VF hs h3 h2 h5 (W4 _ hr)
  unfold Oper.wp
  rw[An]
  have:(execOp (fe n l) o).run P w= .ok (.value (.slice p' (m+k) c')) w':=by
   unfold execOp
   simp only[ho,resolve,invoke,builtin,Sem.run_bind,Sem.run_pure,Result.andThen_ok,List.map_toArray,List.map_cons,List.map_nil,hsv,hxv,hr]
  rw[this,Oper.upon_value,hd,CE (by rw[BJ] at hn;simpa using hn)]
  exact h p' c' w' hs'
theorem EZ{t b:Nat}{x:Operand}(ho:o.op= .load t x){cs:List Value}{ty:Nat}(j:Nat)(hs:sat g w L)(hj:L[j]? =some (Cl b cs ty))(d:TypeDesc)
 (hd:(match d with | .struct _| .array _ _=>true|_=>false)=true)(hu:P.underlying t=some d)(hi:(P.info? t).map (·.size)=some cs.length)(hx:fe n l x= .pointer (some ⟨b,0,none⟩)):(execOp (fe n l) o).run P w= .ok (.value (.agg cs.toArray)) w:=by
 have hb:w.heap[b]? =some (.cells cs.toArray ty (0,0)):=Ax hs hj
 unfold execOp
 have hr:=run_loadVar_row (P:=P) w b ty t cs.toArray (0,0) d hb hu (by cases d<;>first|rfl |exact hd) (by simpa using hi)
 simp only[ho,hx,Instr.loadAt,Instr.sureAddr,Sem.run_bind,Sem.run_pure,Result.andThen_ok]
 rw[hr]
 rfl
theorem Ea{t b:Nat}{x y:Operand}(ho:o.op= .store t x y)(hd:o.dst=none){cs old:List Value}{ty:Nat}(hs:sat g w (Cl b old ty::L))(hi:(P.info? t).map (·.size)=some cs.length)(hl:cs.length=old.length)
 (h1: ∀v∈cs,v.oneCell'=true)(hx:fe n l x= .pointer (some ⟨b,0,none⟩))(hy:fe n l y= .agg cs.toArray)(k: ∀w',sat g w' (Cl b cs ty::L)→N (Ad ds n l) w'):OP P o (Ad ds n l) w N Q:=by
 refine⟨?_⟩
 have hb:w.heap[b]? =some (.cells old.toArray ty (0,0)):=Ax (i:=0) hs rfl
 have hst:=run_storeCells_at P b 0 ty cs 0 old.toArray w hb (by simp[hl]) h1
 simp only[Nat.zero_add,List.take_zero,List.nil_append] at hst
 have hdr:(old.drop cs.length)= []:=List.drop_eq_nil_of_le om
 rw[hdr,List.append_nil] at hst
 cases hq:P.info? t with
 |none=>simp[hq] at hi
 |some inf=>
  have hs':inf.size=cs.length:=by simpa [hq] using hi
  unfold Oper.wp
  rw[An]
  have:(execOp (fe n l) o).run P w= .ok .skip (w.setRow b cs.toArray):=by
   simp[execOp,ho,hx,hy,Instr.storeAt,Instr.sureAddr,storeVar,sizeOf,typeInfo,hq,hs',Value.cells,hst]
  rw[this,Oper.upon_skip,hd]
  refine k _ (B0 hs ⟨rfl,rfl,rfl,Nat.le_refl _⟩ (setRow_heap w b _ _ ty _ hb) (fun j hj=>setRow_other w b j _ hj))
theorem cC{d t e sz:Nat}{x y:Operand}(ho:o.op= .call {callee:= .builtin .copy,args:= #[x,y],argTypes:= #[t,t]})(hd:o.dst=some d)(hn:Nat.blt d n=true)
 (ht:P.underlying t=some (.slice e))(hi:(P.info? e).map (·.size)=some sz){b o1 n1 c1 o2 n2 c2:Nat}{cs:List Value}{ty:Nat}(hs:sat g w (Cl b cs ty::L))
 (hx:fe n l x= .slice (some ⟨b,o1,none⟩) n1 c1)(hy:fe n l y= .slice (some ⟨b,o2,none⟩) n2 c2)(k:Nat)(hk:Nat.min n2 n1=k)(ys:List Value)(hl:ys.length=k*sz)
 (hys: ∀j u,ys[j]? =some u→cs[o2+j]? =some u)(h1: ∀u∈ys,u.oneCell'=true)(hfit:o1+ys.length≤cs.length)
 (h: ∀w',sat g w' (Cl b (cs.take o1++ys++cs.drop (o1+ys.length)) ty::L)→N (Ad ds n ((d,.int .i64 (k:Int))::l)) w'):OP P o (Ad ds n l) w N Q:=by
 refine⟨?_⟩
 have hb:w.heap[b]? =some (.cells cs.toArray ty (0,0)):=Ax (i:=0) hs rfl
 cases hq:P.info? e with
 |none=>simp[hq] at hi
 |some inf=>
  have hs':inf.size=sz:=by simpa [hq] using hi
  have hld:=run_loadCells_list (P:=P) w ⟨b,o2,none⟩ ys (fun j v hv=>by rw[CZ];exact FO hb (hys j v hv))
  have hst:=run_storeCells_at P b o1 ty ys 0 cs.toArray w hb (by simpa using hfit) h1
  simp only[Nat.add_zero] at hst
  rw[hl] at hld
  unfold Oper.wp
  rw[An]
  have:(execOp (fe n l) o).run P w= .ok (.value (.int .i64 (k:Int))) (w.setRow b (cs.take o1++ys++cs.drop (o1+ys.length)).toArray):=by
   unfold execOp
   simp[ho,resolve,invoke,builtin,hx,hy,Builtin.copy_,run_underlying ht,Builtin.lenOf,hk,Builtin.firstCells,sizeOf,typeInfo,hq,hs',hld,hst,goInt]
  rw[this,Oper.upon_value,hd,CE (by rw[BJ] at hn;simpa using hn)]
  exact h _ (B0 hs ⟨rfl,rfl,rfl,Nat.le_refl _⟩ (setRow_heap w b _ _ ty _ hb) (fun j hj=>setRow_other w b j _ hj))
end
end Go.Proofs.YtcgkoffnknpgjaaGreatDoor

/-
  Slices that are read, as lists of elements: the elements' cells one behind the other; an assertion that gives such a slice. No program in sight.
-/
import Derived.Test.YtcgkoffnknpgjaaGreatDoorSlx
namespace Go.Proofs.YtcgkoffnknpgjaaGreatDoor
set_option linter.unusedVariables false
set_option linter.unusedSimpArgs false
variable {ds : List Deferred}
structure Enc {α:Type} (sz:Nat) (f:α→List Value):Prop where
 len: ∀x,(f x).length=sz
 one: ∀x,∀v∈f x,v.oneCell'=true
def fl{α:Type}(f:α→List Value):List α→List Value
 | []=> []
 |x::L=>f x++fl f L
section
variable {α : Type} {sz : Nat} {f : α → List Value} (E : Enc sz f)
include E
theorem Dg(L:List α):(fl f L).length=L.length*sz:=by
 induction L with
 |nil=>simp[fl]
 |cons x L ih=>rw[fl,List.length_append,E.len,ih,List.length_cons,Nat.succ_mul];omega
theorem Aw(L:List α): ∀v∈fl f L,v.oneCell'=true:=by
 induction L with
 |nil=>intro v hv;cases hv
 |cons x L ih=>
  intro v hv
  rcases List.mem_append.1 hv with hv|hv
  · exact E.one x v hv
  · exact ih v hv
omit E in
theorem Rk(L M:List α):fl f (L++M)=fl f L++fl f M:=by
 induction L with
 |nil=>rfl
 |cons x L ih=>simp only[fl,List.cons_append,ih,List.append_assoc]
theorem Cq{L:List α}{i:Nat}{x:α}{j:Nat}{v:Value}(h:L[i]? =some x)(hv:(f x)[j]? =some v):(fl f L)[i*sz+j]? =some v:=by
 have hj:j<sz:=by have:=(List.getElem?_eq_some_iff.1 hv).1;rw[E.len] at this;exact this
 induction L generalizing i with
 |nil=>simp at h
 |cons y L ih=>
  cases i with
  |zero=>
   simp only[List.getElem?_cons_zero,Option.some.injEq] at h
   subst h
   rw[fl,Nat.zero_mul,Nat.zero_add,List.getElem?_append_left (by rw[E.len];exact hj)]
   exact hv
  |succ i=>
   rw[fl,List.getElem?_append_right (by rw[E.len,Nat.succ_mul];omega),E.len,show (i+1)*sz+j-sz=i*sz+j from by rw[Nat.succ_mul];omega]
   exact ih (by simpa using h)
theorem cD(L:List α)(k:Nat):(fl f L).drop (k*sz)=fl f (L.drop k):=by
 induction L generalizing k with
 |nil=>simp[fl]
 |cons x L ih=>
  cases k with
  |zero=>simp[fl]
  |succ k=>
   rw[fl,List.drop_succ_cons,List.drop_append,E.len,List.drop_eq_nil_of_le (by rw[E.len,Nat.succ_mul];omega),show (k+1)*sz-sz=k*sz from by rw[Nat.succ_mul];omega,ih,List.nil_append]
theorem Ca{g w:World}{A:List AB}{e:Nat}{p:Option Addr}{n c:Nat}{L:List α}(hz:0<sz)(h:sat g w (Sl e sz p n c (fl f L)::A)):L.length=n:=by
 have:=ND h
 rw[Dg E] at this
 exact Nat.eq_of_mul_eq_mul_right hz this
end
def Gv(A:AB)(p:Option Addr)(n:Nat)(cs:List Value):Prop:= ∀h,A h→(n=0∧cs= [])∨
 ∃b off,p=some ⟨b,off,none⟩∧ ∀w,kD h w→ ∀k v,cs[k]? =some v→w.cell? ⟨b,off+k,none⟩=some v
def Rd(w0:World)(p:Option Addr)(n:Nat)(cs:List Value):Prop:=(n=0∧cs= [])∨
 ∃b off,p=some ⟨b,off,none⟩∧ ∀k v,cs[k]? =some v→w0.cell? ⟨b,off+k,none⟩=some v
section
variable {g w : World} {L : List AB} {A : AB} {p : Option Addr} {n : Nat} {cs : List Value}
theorem sJ{B:AB}(h:sat g w (A::L))(e: ∀x,A x→B x:=by intro _ hh;rw[Rk];exact hh):sat g w (B::L):=AI h e
theorem D9{j:Nat}{X:Prop}(hs:sat g w L)(hj:L[j]? =some A)(hx: ∀h,A h→kD h w→X):X:=by
 obtain⟨_,Z,rfl,ok,_⟩:=hs
 rw[List.getElem?_map] at hj
 obtain⟨z,hz,rfl⟩:=Option.map_eq_some_iff.1 hj
 have h1:=ok z (List.mem_of_getElem? hz)
 exact hx z.2 h1.1 h1.2
theorem F4{j:Nat}(hs:sat g w L)(hj:L[j]? =some A)(hg:Gv A p n cs)(hn:0<n): ∃b off,p=some ⟨b,off,none⟩:=
 D9 hs hj fun h ha _=>by
  rcases hg h ha with ⟨h0,_⟩|⟨b,off,h1,_⟩
  · omega
  · exact⟨b,off,h1⟩
theorem Cn{j:Nat}(hs:sat g w L)(hj:L[j]? =some A)(hg:Gv A p n cs){b off:Nat}(hp:p=some ⟨b,off,none⟩){k:Nat}{v:Value}(hk:cs[k]? =some v)(q:Nat)(hq:off+k=q):w.cell? ⟨b,q,none⟩=some v:=
 D9 hs hj fun h ha hw=>by
  subst hq
  rcases hg h ha with ⟨_,rfl⟩|⟨b',off',h1,h2⟩
  · simp at hk
  · rw[hp] at h1
    simp only[Option.some.injEq,Addr.mk.injEq,and_true] at h1
    obtain⟨rfl,rfl⟩:=h1
    exact h2 w hw k v hk
theorem PK{h:Hp}{b ty:Nat}{cur:List Value}(hc:Cl b cur ty h){w:World}(hw:kD h w){k:Nat}{v:Value}(hk:cur[k]? =some v):w.cell? ⟨b,k,none⟩=some v:=
 FO (hw b _ hc) hk
theorem F5(e sz c:Nat):Gv (Sl e sz p n c cs) p n cs:=by
 intro h ha
 rcases ha.2 with ⟨h1,h2,_⟩|⟨b,cur,rfl,h2,_,_,_,h5⟩
 · exact .inl ⟨h2,List.eq_nil_of_length_eq_zero (by rw[ha.1,h2,Nat.zero_mul])⟩
 · refine .inr ⟨b,0,rfl,fun w hw k v hk=> ?_⟩
   rw[Nat.zero_add]
   refine PK h2 hw ?_
   rw[←h5,List.getElem?_take] at hk
   split at hk
   · exact hk
   · cases hk
theorem FR{w0:World}(hr:Rd w0 p n cs):Gv (I5 w0) p n cs:=by
 intro h ha
 rcases hr with h1|⟨b,off,h1,h2⟩
 · exact .inl h1
 · refine .inr ⟨b,off,h1,fun w hw k v hk=> ?_⟩
   have h3:=h2 k v hk
   unfold World.cell? at h3 ⊢
   cases hb:w0.heap[b]? with
   |none=>simp[hb] at h3
   |some o=>
    have h4:=hw b o (ha b o hb)
    simp only[hb] at h3
    simp only[h4]
    exact h3
end
section
variable {P : Program} {n : Nat} {l : Fr} {o : Oper}
theorem HP{t e len cap:Nat}{x i:Operand}(ho:o.op= .indexAddr t x i)(ht:P.underlying t=some (.slice e))(sz:Nat)(hs:(P.info? e).map (·.size)=some sz){p:Option Addr}{b off:Nat}{z:Int}(k:Nat)
 (hx:fe n l x= .slice p len cap)(hp:p=some ⟨b,off,none⟩)(hi:fe n l i= .int .i64 z)(hz:z=(k:Int))(hk:k<len)(off':Nat)(he:off+k*sz=off')(w:World):
  (execOp (fe n l) o).run P w= .ok (.value (.pointer (some ⟨b,off',none⟩))) w:=
 I6 ho ht sz hs k (hx.trans (by rw[hp])) hi hz hk off' he w
theorem NF{t e m c:Nat}{x:Operand}{lo hi:Option Operand}(ho:o.op= .slice t x lo hi none)(ht:P.underlying t=some (.slice e))(sz:Nat)(hs:(P.info? e).map (·.size)=some sz){p:Option Addr}{b off:Nat}(zl zh:Int)(kl kh:Nat)
 (hx:fe n l x= .slice p m c)(hp:p=some ⟨b,off,none⟩)(hlo:match lo with |some q=>fe n l q= .int .i64 zl|none=>zl=0)(hhi:match hi with |some q=>fe n l q= .int .i64 zh|none=>zh=(m:Int))
 (hl:zl=(kl:Int))(hh:zh=(kh:Int))(h1:kl≤kh)(h2:kh≤c)(off':Nat)(he:(if c=kl then off else off+kl*sz)=off')(len cap:Nat)(hlen:kh-kl=len)(hcap:c-kl=cap)(w:World):
  (execOp (fe n l) o).run P w= .ok (.value (.slice (some ⟨b,off',none⟩) len cap)) w:=
 PG ho ht sz hs zl zh kl kh (hx.trans (by rw[hp])) hlo hhi hl hh h1 h2 off' he len cap hlen hcap w
theorem Bh{t:Nat}{x y:Operand}{k:IntKind}(ho:o.op= .binOp .rem t x y t)(a b:Int)(hx:fe n l x= .int k a)(hy:fe n l y= .int k b)(hb:b≠0)(q:Int)(hq:a.tmod b=q)(w:World):
  (execOp (fe n l) o).run P w= .ok (.value (.int k q)) w:=by
 subst hq
 simp[execOp,ho,hx,hy,hb,Op.intDiv,go_sem]
theorem TT{t:Nat}{x y:Operand}{k:IntKind}(ho:o.op= .binOp .quo t x y t)(a b:Int)(hx:fe n l x= .int k a)(hy:fe n l y= .int k b)(hb:b≠0)(q:Int)(hq:k.wrap (a.tdiv b)=q)(w:World):
  (execOp (fe n l) o).run P w= .ok (.value (.int k q)) w:=by
 subst hq
 simp[execOp,ho,hx,hy,hb,Op.intDiv,go_sem]
end
section
variable {P : Program} {Q : Exit → Act → World → Prop} {g w : World} {L : List AB} {n : Nat} {l : Fr} {o : Oper} {N : Act → World → Prop}
theorem JS{d t e:Nat}{s x:Operand}(ho:o.op= .call {callee:= .builtin .append,args:= #[s,x],argTypes:= #[t,t]})(hd:o.dst=some d)(hn:Nat.blt d n=true)
 (ht:P.underlying t=some (.slice e))(hi:(P.info? e).isSome=true){p:Option Addr}{m c c2:Nat}(hm:m≤c)(hsv:fe n l s= .slice p m c)(hxv:fe n l x= .slice none 0 c2)(h:N (Ad ds n ((d,.slice p m c)::l)) w):OP P o (Ad ds n l) w N Q:=by
 refine⟨?_⟩
 cases hq:P.info? e with
 |none=>simp[hq] at hi
 |some i=>
  unfold Oper.wp
  rw[An]
  have:(execOp (fe n l) o).run P w= .ok (.value (.slice p m c)) w:=by
   unfold execOp
   simp only[ho,resolve,invoke,builtin,Sem.run_bind,Sem.run_pure,Result.andThen_ok,List.map_toArray,List.map_cons,List.map_nil,hsv,hxv]
   cases p<;>simp[Builtin.append_,run_underlying ht,sizeOf,typeInfo,hq,Builtin.lenOf,hm,Builtin.firstCells,storeCells]
  rw[this,Oper.upon_value,hd,CE (by rw[BJ] at hn;simpa using hn)]
  exact h
theorem NG{d t e sz by_:Nat}{s x:Operand}{z:Value}(ho:o.op= .call {callee:= .builtin .append,args:= #[s,x],argTypes:= #[t,t]})(hd:o.dst=some d)(hn:Nat.blt d n=true)
 (ht:P.underlying t=some (.slice e))(hi:(P.info? e).map (fun i=>(i.zero,i.size,i.bytes))=some (some z,sz,by_))(hzs:z.cells.size=sz)(hsz:0<sz)
 {p p2:Option Addr}{m c:Nat}{cs:List Value}{k c2:Nat}(hsv:fe n l s= .slice p m c)(hxv:fe n l x= .slice p2 k c2)(hs:sat g w (Sl e sz p m c cs::L)){A:AB}(j:Nat)(hj:(Sl e sz p m c cs::L)[j]? =some A)
 (ys:List Value)(hg:Gv A p2 k ys)(hl:ys.length=k*sz)(h1: ∀u∈ys,u.oneCell'=true)(h63:m+k≤9223372036854775807)(hby:(m+k)*by_≤140737488355328)
 (q:Nat)(hmk:m+k=q)(h: ∀p' c' w',sat g w' (Sl e sz p' q c' (cs++ys)::L)→N (Ad ds n ((d,.slice p' q c')::l)) w'):OP P o (Ad ds n l) w N Q:=by
 cases hp:p2 with
 |some a=>
  subst hp
  refine MD ho hd hn ht hi hzs hsz hsv hxv hs ys hl (fun i u hu=> ?_) h1 h63 hby q hmk h
  have hk:0<k:=by
   rcases Nat.eq_zero_or_pos k with h0|h0
   · subst h0;rw[Nat.zero_mul] at hl;rw[List.eq_nil_of_length_eq_zero hl] at hu;simp at hu
   · exact h0
  obtain⟨b,off,hb⟩:=F4 hs hj hg hk
  simp only[Option.some.injEq] at hb
  subst hb
  rw[CZ]
  exact Cn hs hj hg rfl hu _ rfl
 |none=>
  subst hp
  have hk:k=0:=by
   rcases Nat.eq_zero_or_pos k with h0|h0
   · exact h0
   · obtain⟨b,off,hb⟩:=F4 hs hj hg h0
     cases hb
  subst hk
  rw[Nat.zero_mul] at hl
  have hy:=List.eq_nil_of_length_eq_zero hl
  subst hy
  rw[Nat.add_zero] at hmk
  subst hmk
  refine JS ho hd hn ht ?_ (BH hs).1 hsv hxv (h p c w (by rw[List.append_nil];exact hs))
  cases hq:P.info? e with
  |none=>simp[hq] at hi
  |some i=>rfl
theorem VG{m:Nat}(ks:List (Nat×Value)): ∀cs:List Value,(CL cs ks).take m=CL (cs.take m) ks:=by
 induction ks with
 |nil=>intro cs;simp only[CL]
 |cons q r ih=>intro cs;obtain⟨k,v⟩:=q;simp only[CL];rw[ih,List.take_set]
theorem PL(ks:List (Nat×Value)): ∀cs:List Value,(CL cs ks).length=cs.length:=by
 induction ks with
 |nil=>intro cs;simp only[CL]
 |cons q r ih=>intro cs;obtain⟨k,v⟩:=q;simp only[CL];rw[ih,List.length_set]
theorem G6{b e sz:Nat}{p:Option Addr}{m c:Nat}{cs cs':List Value}(ks:List (Nat×Value))(hr:IR P (execOp (fe n l) o)=some (.skip,ks.map fun q=>((⟨b,q.1,none⟩:Addr),q.2)))(hd:o.dst=none)(hp:p=some ⟨b,0,none⟩)
 (hk: ∀q∈ks,q.1<m*sz∧q.2.oneCell'=true)(hm:0<m)(hcs:CL cs ks=cs')(hs:sat g w (Sl e sz p m c cs::L))(k: ∀w',sat g w' (Sl e sz p m c cs'::L)→N (Ad ds n l) w'):OP P o (Ad ds n l) w N Q:=by
 have hle:=BH hs
 have hlen:=ND hs
 obtain⟨b',cur,h1,h2,h3,h4⟩:=NE hs hm
 rw[hp] at h1
 simp only[Option.some.injEq,Addr.mk.injEq,and_true] at h1
 subst h1
 have hge:m*sz≤cur.length:=by
  rw[h2];exact Nat.mul_le_mul_right _ hle.1
 refine Bc ks hr hd (fun q hq=>⟨Nat.lt_of_lt_of_le (hk q hq).1 hge,(hk q hq).2⟩) rfl h4 (fun w' hw=>k w' ?_)
 rw[hp]
 refine PJ hw ?_ hle.1 hle.2 (by rw[PL,h2]) (by rw[VG,h3,hcs])
 rw[←hcs,PL,hlen]
theorem Av{j e sz:Nat}{p:Option Addr}{m c:Nat}{cs:List Value}(hs:sat g w L)(hj:L[j]? =some (Sl e sz p m c cs))(hm:0<m): ∃b,p=some ⟨b,0,none⟩:=
 D9 hs hj fun h ha _=>by
  rcases ha.2 with ⟨_,h1,_⟩|⟨b,cur,h1,_⟩
  · omega
  · exact⟨b,h1⟩
end
end Go.Proofs.YtcgkoffnknpgjaaGreatDoor

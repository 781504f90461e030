/-
  Strings and bytes; slices that are only read; made slices; unrolled loops; the parts of strings.Builder. No program in sight.
-/
import Derived.Test.YtehlamblpekmkaaGreatDoorRf
import Derived.Test.YtehlamblpekmkaaGreatDoorLst
import Derived.Laws.BytesString
import Derived.Laws.Concat
import Derived.Laws.MakeOwn
import Derived.Laws.Externs
import Derived.Lib.AppendZeros
import Derived.Lib.Builder
import Derived.Lib.UnsafeStr
namespace Go.Proofs.YtehlamblpekmkaaGreatDoor
variable {ds : List Deferred}
abbrev St(l:List UInt8):ByteArray:=⟨l.toArray⟩
theorem st_len(l:List UInt8):((St l).size:Int)=(l.length:Int):=by
 show (l.toArray.size:Int)=_
 simp
def eB(b:UInt8):List Value:= [.int .u8 (b.toNat:Int)]
theorem eB_ok:Enc 1 eB:=⟨fun _=>rfl,fun x v hv=>by simp[eB] at hv;subst hv;rfl⟩
def eI(z:Int):List Value:= [.int .i64 z]
theorem eI_ok:Enc 1 eI:=⟨fun _=>rfl,fun x v hv=>by simp[eI] at hv;subst hv;rfl⟩
theorem u8_lt(b:UInt8):(b.toNat:Int)≤255:=by have:=b.toNat_lt;omega
theorem u8_of(b:UInt8):UInt8.ofNat (b.toNat:Int).toNat=b:=by simp
theorem fl_map1{α:Type}(f:α→Value)(l:List α):fl (fun x=> [f x]) l=l.map f:=by
 induction l with
 |nil=>rfl
 |cons x l ih=>simp[fl,ih]
theorem fl_eB(l:List UInt8):fl eB l=(l.map fun b=>(b.toNat:Int)).map (Value.int .u8):=by
 rw[show eB=fun b:UInt8=> [Value.int .u8 (b.toNat:Int)] from rfl,fl_map1,List.map_map]
 rfl
theorem push_all(l:List UInt8): ∀s:ByteArray,(l.map fun b=>(b.toNat:Int)).foldl (fun r n=>r.push (UInt8.ofNat n.toNat)) s=s++St l:=by
 induction l with
 |nil=>intro s;apply ByteArray.ext;simp[St]
 |cons b l ih=>
  intro s
  rw[List.map_cons,List.foldl_cons,ih,u8_of]
  apply ByteArray.ext
  simp[St,ByteArray.push]
section
variable {P : Program} {Q : Exit → Act → World → Prop} {g w : World} {L : List Assn} {n : Nat} {l : Fr} {o : Oper} {N : Act → World → Prop}
theorem law_idxStr{t:Nat}{x i:Operand}{k:IntKind}{s:List UInt8}{z:Int}{b:UInt8}(ho:o.op= .index t x i)(ht:P.underlying t=some .string)(hx:fe n l x= .string (St s))(hi:fe n l i= .int k z)(j:Nat)(hz:z=(j:Int))(hb:s[j]? =some b)(w:World):
  (execOp (fe n l) o).run P w= .ok (.value (.int .u8 (b.toNat:Int))) w:=by
 subst hz
 have h0:(0:Int)≤(j:Int):=by omega
 have hj:=(List.getElem?_eq_some_iff.1 hb).1
 have hg:(St s)[j]? =some b:=by
  have:j<(St s).size:=by show j<s.toArray.size;simpa using hj
  rw[getElem?_pos (St s) j this]
  have:=(List.getElem?_eq_some_iff.1 hb).2
  show some (s.toArray[j]'(by simpa using hj))=_
  simp[this]
 simp[execOp,ho,hx,hi,Instr.index,asIntOf,run_underlying ht,h0,hg]
theorem law_eqStr{t:Nat}{x y:Operand}{a b:List UInt8}(ho:o.op= .binOp .eql t x y t)(hx:fe n l x= .string (St a))(hy:fe n l y= .string (St b))(r:Bool)(h:decide (a=b)=r)(w:World):
  (execOp (fe n l) o).run P w= .ok (.value (.bool r)) w:=by
 subst h
 have:(a==b)=decide (a=b):=by by_cases e:a=b<;>simp[e]
 simp[execOp,ho,hx,hy,go_sem,this]
theorem law_neStr{t:Nat}{x y:Operand}{a b:List UInt8}(ho:o.op= .binOp .neq t x y t)(hx:fe n l x= .string (St a))(hy:fe n l y= .string (St b))(r:Bool)(h:decide (a=b)= !r)(w:World):
  (execOp (fe n l) o).run P w= .ok (.value (.bool r)) w:=by
 have:(a==b)= !r:=by rw[←h];by_cases e:a=b<;>simp[e]
 simp[execOp,ho,hx,hy,go_sem,this]
theorem law_bts{src dst e:Nat}{x:Operand}(ho:o.op= .convert src dst x)(hs:P.underlying src=some (.slice e))(he:P.underlying e=some (.int .u8))(hd:P.underlying dst=some .string)
 {p:Option Addr}{m c:Nat}{s:List UInt8}(hx:fe n l x= .slice p m c){A:Assn}(j:Nat)(h:sat g w L)(hj:L[j]? =some A)(hg:Gv A p m (fl eB s))(hl:s.length=m):
  (execOp (fe n l) o).run P w= .ok (.value (.string (St s))) w:=by
 have hr:(Conv.bytesToString (.slice p m c)).run P w= .ok (.string (St s)) w:=by
  cases p with
  |none=>
   have:m=0:=by
    rcases Nat.eq_zero_or_pos m with h0|h0
    · exact h0
    · obtain⟨_,_,h1⟩:=gv_ptr h hj hg h0
      cases h1
   subst this
   rw[List.eq_nil_of_length_eq_zero hl]
   rfl
  |some a=>
   have hld:(loadCells a m).run P w= .ok ((s.map fun b=>(b.toNat:Int)).map (Value.int .u8)).toArray w:=by
    have hlen:(fl eB s).length=m:=by rw[fl_len eB_ok,hl,Nat.mul_one]
    rw[←fl_eB]
    have:=run_loadCells_list (P:=P) w a (fl eB s) (fun k v hk=>by
     have hm:0<m:=by have:=(List.getElem?_eq_some_iff.1 hk).1;omega
     obtain⟨b,off,hp⟩:=gv_ptr h hj hg hm
     simp only[Option.some.injEq] at hp
     subst hp
     rw[add_off]
     exact gv_cell h hj hg rfl hk _ rfl)
    rw[hlen] at this
    exact this
   rw[run_bytesToString w a m c _ hld,push_all]
   congr 2
 unfold execOp
 simp[ho,hx,run_convert_bytes_string w src dst e p m c hs he hd,hr]
theorem an_make{d t e sz by_:Nat}{x y:Operand}{z:Value}{k1 k2:IntKind}(ho:o.op= .makeSlice t x y)(hd:o.dst=some d)(hn:Nat.blt d n=true)(ht:P.underlying t=some (.slice e))
 (hi:(P.info? e).map (fun i=>(i.zero,i.size,i.bytes))=some (some z,sz,by_)){zi:Int}(k:Nat)(hk:zi=(k:Int))(hx:fe n l x= .int k1 zi)(hy:fe n l y= .int k2 zi)(hb:by_*k≤140737488355328)(h63:k≤9223372036854775807)(hs:sat g w L)
 (cs:List Value)(hcs:(madeCells z.cells (k*sz)).toList=cs)(h: ∀r w',sat g w' (Cl r cs e::L)→N (mkd ds n ((d,.slice (some ⟨r,0,none⟩) k k)::l)) w'):OP P o (mkd ds n l) w N Q:=by
 refine⟨?_⟩
 subst hk
 cases hq:P.info? e with
 |none=>simp[hq] at hi
 |some i=>
  simp only[hq,Option.map_some,Option.some.injEq,Prod.mk.injEq] at hi
  have hb2:(i.bytes:Int)*(k:Int)≤281474976710656:=by
   have:((i.bytes*k:Nat):Int)≤140737488355328:=by rw[hi.2.2];omega
   rw[Int.natCast_mul] at this
   omega
  have hr:=run_make (P:=P) w t e i z ht hq hi.1 k1 k2 k k om (Int.le_refl _) hb2 om
  simp only[Int.toNat_natCast,hi.2.1] at hr
  unfold Oper.wp
  rw[eval_mk]
  have:(execOp (fe n l) o).run P w= .ok (.value (.slice (some ⟨w.heap.size,0,none⟩) k k)) (w.alloc (.cells (madeCells z.cells (k*sz)) e)):=by
   unfold execOp
   simp[ho,hx,hy,hr]
  rw[this,Oper.upon_value,hd,put_mk (by rw[nat_blt] at hn;simpa using hn)]
  refine h _ _ ?_
  have:=sat_alloc hs (.cells (madeCells z.cells (k*sz)) e)
  have e1:madeCells z.cells (k*sz)=cs.toArray:=by rw[←hcs]
  rw[e1] at this ⊢
  exact this
theorem an_append_room{d t tn e sz by_:Nat}{s x:Operand}{z:Value}{kx kn:IntKind}(ho:o.op= .call {callee:= .builtin .append,args:= #[s,x],argTypes:= #[t,tn]})(hd:o.dst=some d)(hn:Nat.blt d n=true)
 (ht:P.underlying t=some (.slice e))(htn:P.underlying tn=some (.int kn))(hi:(P.info? e).map (fun i=>(i.zero,i.size,i.bytes))=some (some z,sz,by_))(hzs:z.cells.size=sz)(hsz:0<sz)
 {zi:Int}(k:Nat)(hk:zi=(k:Int))(h0:0<k)(hsv:fe n l s= .slice none 0 0)(hxv:fe n l x= .int kx zi)(hs:sat g w L)(h63:k≤9223372036854775807)(hby:k*by_≤140737488355328)
 (h: ∀r c w',k≤c→c≤9223372036854775807→sat g w' (Sl e sz (some ⟨r,0,none⟩) 0 c []::L)→N (mkd ds n ((d,.slice (some ⟨r,0,none⟩) k c)::l)) w'):OP P o (mkd ds n l) w N Q:=by
 refine⟨?_⟩
 subst hk
 cases hq:P.info? e with
 |none=>simp[hq] at hi
 |some i=>
  simp only[hq,Option.map_some,Option.some.injEq,Prod.mk.injEq] at hi
  have hr:=Lib.run_append_nil_zeros (P:=P) w t tn o.type e i z kx kn ht htn hq hi.1 k h0 (by rw[hi.2.1];exact hsz) om (by rw[hi.2.2];omega)
  unfold Oper.wp
  rw[eval_mk]
  have:(execOp (fe n l) o).run P w= .ok (.value (.slice (some ⟨w.heap.size,0,none⟩) k (grownCap w k 0 e))) (w.drew.alloc (.cells (Builtin.zeroCells z.cells k++Builtin.zeroCells z.cells (grownCap w k 0 e-k)) e)):=by
   unfold execOp
   simp only[ho,resolve,invoke,builtin,Sem.run_bind,Sem.run_pure,Result.andThen_ok,List.map_toArray,List.map_cons,List.map_nil,hsv,hxv,hr]
  rw[this,Oper.upon_value,hd,put_mk (by rw[nat_blt] at hn;simpa using hn)]
  have hge:=grownCap_ge w k 0 e
  have hle:=grownCap_le_maxLen w k 0 e (by unfold maxLen;omega)
  refine h _ _ _ hge (by unfold maxLen at hle;omega) ?_
  have h1:=sat_alloc (sat_drew hs) (.cells (Builtin.zeroCells z.cells k++Builtin.zeroCells z.cells (grownCap w k 0 e-k)) e)
  refine sat_imp h1 fun hp hh=> ?_
  refine⟨by simp,.inr ⟨w.heap.size,(Builtin.zeroCells z.cells k++Builtin.zeroCells z.cells (grownCap w k 0 e-k)).toList,rfl,?_,Nat.zero_le _,hle,?_,by simp⟩⟩
  · show pt w.heap.size (.cells (Builtin.zeroCells z.cells k++Builtin.zeroCells z.cells (grownCap w k 0 e-k)).toList.toArray e (0,0)) hp
    rw[Array.toArray_toList]
    exact hh
  · simp[Builtin.zeroCells,hzs]
    rw[←Nat.add_mul]
    congr 1
    omega
def Un(r:Option Nat)(P:Program)(x:Code)(Q:Exit→Act→World→Prop):Nat→Act→World→Prop
 |0,_,_=>False
 |k+1,a,w=>WP r P x (Exit.then (Un r P x Q k) Q) a w
theorem gi_unr{r:Option Nat}{x c:Code}{a:Act}(k:Nat)(e:c= .loop x)(h:Un r P x Q k a w):WP r P c Q a w:=by
 refine gi_lp e (fun k a w=>Un r P x Q k a w) k h fun k a w hk=> ?_
 cases k with
 |zero=>exact hk.elim
 |succ k=>
  refine WP.mono hk fun e a w h=> ?_
  cases e with
  |normal=>exact⟨k,Nat.lt_succ_self _,h⟩
  |_=>exact h
end
def Vw(e sz:Nat)(p:Option Addr)(n c:Nat)(cs:List Value):Assn:=fun h=>
 cs.length=n*sz∧n≤c∧c≤9223372036854775807∧(p=none→c=0)∧((n=0∧cs= [])∨ ∃b off cur,p=some ⟨b,off,none⟩∧Cl b cur e h∧ ∀k v,cs[k]? =some v→cur[off+k]? =some v)
section
variable {g w : World} {L : List Assn} {e sz : Nat} {p : Option Addr} {n c : Nat} {cs : List Value}
theorem vw_sl(h:sat g w (Sl e sz p n c cs::L)):sat g w (Vw e sz p n c cs::L):=
 sat_imp h fun hp hh=>by
  refine⟨hh.1,?_⟩
  rcases hh.2 with ⟨rfl,rfl,rfl⟩|⟨b,cur,rfl,h2,h3,h4,h5,h6⟩
  · exact⟨Nat.le_refl _,Nat.zero_le _,fun _=>rfl,.inl ⟨rfl,List.eq_nil_of_length_eq_zero (by rw[hh.1,Nat.zero_mul])⟩⟩
  · refine⟨h3,by unfold maxLen at h4;omega,fun h=>(by cases h),.inr ⟨b,0,cur,rfl,h2,fun k v hk=> ?_⟩⟩
    rw[Nat.zero_add]
    rw[←h6,List.getElem?_take] at hk
    split at hk
    · exact hk
    · cases hk
theorem vw_le(h:sat g w (Vw e sz p n c cs::L)):n≤c∧c≤9223372036854775807:=sat_fact h fun _ hh=>⟨hh.2.1,hh.2.2.1⟩
theorem vw_nil(e sz:Nat)(h:sat g w L):sat g w (Vw e sz none 0 0 []::L):=vw_sl (sl_nil e sz h)
theorem gv_vw(e sz c:Nat):Gv (Vw e sz p n c cs) p n cs:=by
 intro h ha
 rcases ha.2.2.2.2 with h1|⟨b,off,cur,rfl,h2,h3⟩
 · exact .inl h1
 · exact .inr ⟨b,off,rfl,fun w hw k v hk=>cell_sub h2 hw (h3 k v hk)⟩
theorem vw_drop{b off off':Nat}{q:Option Addr}(i:Nat)(hp:p=some ⟨b,off,none⟩)(hi:i≤n)(ho:(if c=i then off else off+i*sz)=off')(hq:q=some ⟨b,off',none⟩)(h:sat g w (Vw e sz p n c cs::L)):sat g w (Vw e sz q (n-i) (c-i) (cs.drop (i*sz))::L):=
 sat_imp h fun hp' hh=>by
  subst hq
  obtain⟨h1,h2,h3,h4,h5⟩:=hh
  refine⟨by rw[List.length_drop,h1,Nat.sub_mul],by omega,by omega,fun h=>(by cases h),?_⟩
  rcases h5 with ⟨h6,h7⟩|⟨b',o',cur,h6,h7,h8⟩
  · exact .inl ⟨by omega,by rw[h7];simp⟩
  · rw[hp] at h6
    simp only[Option.some.injEq,Addr.mk.injEq,and_true] at h6
    obtain⟨rfl,rfl⟩:=h6
    by_cases hc:c=i
    · refine .inl ⟨by omega,List.drop_eq_nil_of_le ?_⟩
      rw[h1]
      exact Nat.mul_le_mul_right _ om
    · rw[if_neg hc] at ho
      subst ho
      refine .inr ⟨b,_,cur,rfl,h7,fun k v hk=> ?_⟩
      rw[List.getElem?_drop] at hk
      rw[show off+i*sz+k=off+(i*sz+k) from by omega]
      exact h8 _ _ hk
theorem gv_take{A:Assn}{k:Nat}(hg:Gv A p n cs)(hk:k≤n):Gv A p k (cs.take (k*sz)):=by
 intro h ha
 rcases Nat.eq_zero_or_pos k with h0|h0
 · exact .inl ⟨h0,by rw[h0,Nat.zero_mul];rfl⟩
 · rcases hg h ha with ⟨h1,_⟩|⟨b,off,h1,h2⟩
   · omega
   · refine .inr ⟨b,off,h1,fun w hw j v hj=>h2 w hw j v ?_⟩
     rw[List.getElem?_take] at hj
     split at hj
     · exact hj
     · cases hj
end
theorem gv_list{α:Type}{f:α→List Value}{sz n k:Nat}{M:List α}{p:Option Addr}{X:Assn}(E:Enc sz f)(hg:Gv X p n (fl f M))(hk:k≤n):Gv X p k (fl f (M.take k)):=by
 rw[←fl_take E]
 exact gv_take hg hk
section
variable {P : Program} {n : Nat} {l : Fr} {o : Oper}
theorem law_eqBool{t:Nat}{x y:Operand}(a b r:Bool)(ho:o.op= .binOp .eql t x y t)(ht:P.underlying t=some .bool)(hx:fe n l x= .bool a)(hy:fe n l y= .bool b)(h:(a==b)=r)(w:World):
  (execOp (fe n l) o).run P w= .ok (.value (.bool r)) w:=by
 subst h
 have hg:eqGuard .eql t x y (.bool a) (.bool b)=pure ():=rfl
 have h: ∀d:Nat,(Op.equalIn (d+1) t (.bool a) (.bool b)).run P w= .ok (a==b) w:=fun d=>by simp[Op.equalIn,run_underlying ht]
 have h1:(binOp .eql t (.bool a) (.bool b)).run P w= .ok (.bool (a==b)) w:=by
  simp only[binOp]
  simp[Op.equal,Op.maxDepth,h 9999]
 simp[execOp,ho,hx,hy,hg,h1]
theorem law_sliceSome{t e m c:Nat}{x y:Operand}{p:Option Addr}{a:Addr}(ho:o.op= .binOp .eql t x y t)(ht:P.underlying t=some (.slice e))(hx:fe n l x= .slice p m c)(hp:p=some a)(hy:fe n l y= .slice none 0 0)(w:World):
  (execOp (fe n l) o).run P w= .ok (.value (.bool false)) w:=by
 subst hp
 have hg:eqGuard .eql t x y (.slice (some a) m c) (.slice none 0 0)=pure ():=rfl
 have h1:(binOp .eql t (.slice (some a) m c) (.slice none 0 0)).run P w= .ok (.bool false) w:=by
  have h: ∀d:Nat,(Op.equalIn (d+1) t (.slice (some a) m c) (.slice none 0 0)).run P w= .ok false w:=fun d=>by simp[Op.equalIn,run_underlying ht]
  simp only[binOp]
  simp[Op.equal,Op.maxDepth,h 9999]
 simp[execOp,ho,hx,hy,hg,h1]
theorem law_sliceTo{t e m c:Nat}{x y:Operand}{p:Option Addr}(ho:o.op= .slice t x none (some y) none)(ht:P.underlying t=some (.slice e))(hi:(P.info? e).isSome=true)(hx:fe n l x= .slice p m c){z:Int}(hy:fe n l y= .int .i64 z)(k:Nat)(hz:z=(k:Int))(hk:k≤c)(w:World):
  (execOp (fe n l) o).run P w= .ok (.value (.slice p k c)) w:=by
 subst hz
 cases hq:P.info? e with
 |none=>simp[hq] at hi
 |some inf=>
  have a2: ¬c<k:=by omega
  have ha:p.map (fun a:Addr=>a.add (0*inf.size))=p:=by
   cases p with
   |none=>rfl
   |some a=>simp[Addr.add]
  by_cases hm:c=0
  · have:k=0:=by omega
    subst this
    simp[execOp,ho,hx,hy,Instr.sliceAt,Instr.slice,run_underlying ht,Instr.sliceBounds,Instr.sliceBound,asIntOf,sizeOf,typeInfo,hq,hm]
  · have ha2:p.map (fun a:Addr=>a.add 0)=p:=by simpa using ha
    simp[execOp,ho,hx,hy,Instr.sliceAt,Instr.slice,run_underlying ht,Instr.sliceBounds,Instr.sliceBound,asIntOf,sizeOf,typeInfo,hq,hk,a2,hm,ha2]
end
end Go.Proofs.YtehlamblpekmkaaGreatDoor

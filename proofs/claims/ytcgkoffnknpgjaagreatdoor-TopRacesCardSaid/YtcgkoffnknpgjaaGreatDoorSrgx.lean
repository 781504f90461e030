/-
  Ranges over strings, and parts of strings: the engine's laws. No program in sight.
-/
import Derived.Test.YtcgkoffnknpgjaaGreatDoorClnx
import Derived.Laws.RangeString
namespace Go.Proofs.YtcgkoffnknpgjaaGreatDoor
set_option linter.unusedVariables false
set_option linter.unusedSimpArgs false
variable {ds : List Deferred}
def JT(L:List UInt8)(p:Nat):Nat×Nat:=Utf8.decode (St L) p
theorem Ed(L:List UInt8):(St L).size=L.length:=by
 show L.toArray.size=_
 simp
theorem cU{L:List UInt8}{p:Nat}(h:p<L.length):1≤(JT L p).2:=by
 have hz:p<(St L).size:=by rw[Ed];exact h
 unfold JT
 by_cases ha:((St L)[p]'hz).toNat<128
 · rw[decode_ascii (St L) p hz ha]
   exact Nat.le_refl _
 · exact(decode_high (St L) p hz om).2
theorem cV(L:List UInt8)(p:Nat):(JT L p).1≤1114111:=by
 have hv: ∀c:Nat,Utf8.valid (c:Int)=true→c≤1114111:=fun c h=>by
  simp[Utf8.valid] at h
  omega
 unfold JT Utf8.decode
 simp only
 split
 · omega
 · split
   · split
     · show _%32*64+_%64≤1114111
       omega
     · show Utf8.runeError≤1114111
       decide
   · split
     · split
       · rename_i h
         simp only[Bool.and_eq_true] at h
         exact hv _ h.2
       · show Utf8.runeError≤1114111
         decide
     · split
       · split
         · rename_i h
           simp only[Bool.and_eq_true] at h
           exact hv _ h.2
         · show Utf8.runeError≤1114111
           decide
       · show Utf8.runeError≤1114111
         decide
def Si(r:Nat)(L:List UInt8)(p:Nat):AB:=pt r (.stringIter (St L) p)
theorem XY(L:List UInt8)(a b:Nat):(St L).extract a b=St ((L.take b).drop a):=by
 apply ByteArray.ext
 rw[ByteArray.data_extract]
 apply Array.toList_inj.1
 simp[Array.toList_extract,List.extract_eq_take_drop,List.drop_take]
section
variable {P : Program} {Q : Exit → Act → World → Prop} {g w : World} {A : List AB} {n : Nat} {l : Fr} {o : Oper} {N : Act → World → Prop} {L : List UInt8} {r p : Nat}
theorem B5{d t:Nat}{x:Operand}(ho:o.op= .range t x)(hd:o.dst=some d)(hn:Nat.blt d n=true)(ht:P.underlying t=some .string)(hx:fe n l x= .string (St L))(hs:sat g w A)
 (h: ∀r w',sat g w' (Si r L 0::A)→N (Ad ds n ((d,.pointer (some ⟨r,0,none⟩))::l)) w'):OP P o (Ad ds n l) w N Q:=by
 refine⟨?_⟩
 unfold Oper.wp
 rw[An]
 have:(execOp (fe n l) o).run P w= .ok (.value (.pointer (some ⟨w.heap.size,0,none⟩))) (w.alloc (.stringIter (St L) 0)):=by
  unfold execOp
  simp[ho,hx,Instr.range,run_underlying ht]
 rw[this,Oper.upon_value,hd,CE (by rw[BJ] at hn;simpa using hn)]
 exact h _ _ (CN hs _)
theorem Cb{d:Nat}{x:Operand}(ho:o.op= .next x true)(hd:o.dst=some d)(hn:Nat.blt d n=true)(hx:fe n l x= .pointer (some ⟨r,0,none⟩)){j:Nat}(hs:sat g w A)(hj:A[j]? =some (Si r L p))(hp:L.length≤p)
 (h:N (Ad ds n ((d,.tuple #[.bool false])::l)) w):OP P o (Ad ds n l) w N Q:=by
 have hr:w.heap[r]? =some (.stringIter (St L) p):=Ax hs hj
 have hg:(getObj r).run P w= .ok (.stringIter (St L) p) w:=by simp[getObj,Sem.run,hr]
 refine⟨?_⟩
 unfold Oper.wp
 rw[An]
 have:(execOp (fe n l) o).run P w= .ok (.value (.tuple #[.bool false])) w:=by
  unfold execOp
  have h1: ¬p<(St L).size:=by rw[Ed];omega
  simp only[ho,hx,Instr.next,Sem.run_bind,hg,Result.andThen_ok,if_neg h1,Sem.run_pure]
 rw[this,Oper.upon_value,hd,CE (by rw[BJ] at hn;simpa using hn)]
 exact h
theorem Td{d:Nat}{x:Operand}(ho:o.op= .next x true)(hd:o.dst=some d)(hn:Nat.blt d n=true)(hx:fe n l x= .pointer (some ⟨r,0,none⟩))(hs:sat g w (Si r L p::A))(hp:p<L.length)(hmax:L.length≤9223372036854775807)
 (h: ∀w',sat g w' (Si r L (p+(JT L p).2)::A)→N (Ad ds n ((d,.tuple #[.bool true,.int .i64 (p:Int),.int .i32 ((JT L p).1:Int)])::l)) w'):OP P o (Ad ds n l) w N Q:=by
 have hr:w.heap[r]? =some (.stringIter (St L) p):=Ax (i:=0) hs rfl
 have hlt:=(Array.getElem?_eq_some_iff.1 hr).1
 have hg:(getObj r).run P w= .ok (.stringIter (St L) p) w:=by simp[getObj,Sem.run,hr]
 have hset: ∀o',(setObj r o').run P w= .ok () (w.putObj r o'):=fun o'=>by simp[setObj,Sem.run,hr,World.putObj]
 refine⟨?_⟩
 unfold Oper.wp
 rw[An]
 have:(execOp (fe n l) o).run P w= .ok (.value (.tuple #[.bool true,.int .i64 (p:Int),.int .i32 ((JT L p).1:Int)])) (w.putObj r (.stringIter (St L) (p+(JT L p).2))):=by
  unfold execOp
  have h1:p<(St L).size:=by rw[Ed];exact hp
  have h2:goInt (p:Int)= .int .i64 (p:Int):=by rfl
  simp only[ho,hx,Instr.next,Sem.run_bind,hg,Result.andThen_ok,if_pos h1,hset,Sem.run_pure]
  rfl
 rw[this,Oper.upon_value,hd,CE (by rw[BJ] at hn;simpa using hn)]
 exact h _ (B0 hs ⟨rfl,rfl,rfl,Nat.le_refl _⟩ (World.putObj_heap_same hlt) (fun j hj=>World.putObj_heap_other hj))
theorem PX{t:Nat}{x y:Operand}(ho:o.op= .slice t x (some y) none none)(ht:P.underlying t=some .string)(hx:fe n l x= .string (St L)){z:Int}(hy:fe n l y= .int .i64 z)(k:Nat)(hz:z=(k:Int))(hk:k≤L.length)(w:World):
  (execOp (fe n l) o).run P w= .ok (.value (.string (St (L.drop k)))) w:=by
 subst hz
 have h1:k≤(St L).size:=by rw[Ed];exact hk
 have he:(St L).extract k (St L).size=St (L.drop k):=by rw[XY,Ed,List.take_length]
 simp[execOp,ho,hx,hy,Instr.sliceAt,Instr.slice,run_underlying ht,Instr.sliceBounds,Instr.sliceBound,asIntOf,hk,he,Ed,h1]
 try (rw[←Ed L];exact he)
theorem Dh{t:Nat}{x y:Operand}(ho:o.op= .slice t x none (some y) none)(ht:P.underlying t=some .string)(hx:fe n l x= .string (St L)){z:Int}(hy:fe n l y= .int .i64 z)(k:Nat)(hz:z=(k:Int))(hk:k≤L.length)(w:World):
  (execOp (fe n l) o).run P w= .ok (.value (.string (St (L.take k)))) w:=by
 subst hz
 have he:(St L).extract 0 k=St (L.take k):=by rw[XY];rfl
 simp[execOp,ho,hx,hy,Instr.sliceAt,Instr.slice,run_underlying ht,Instr.sliceBounds,Instr.sliceBound,asIntOf,hk,he,Ed]
theorem B4{t e len:Nat}{x y:Operand}{cs:Array Value}{v:Value}{z:Int}(ho:o.op= .index t x y)(ht:P.underlying t=some (.array len e)){fs:Array Field}(he:P.underlying e=some (.struct fs))(sz:Nat)(hs:(P.info? e).map (·.size)=some sz)(hx:fe n l x= .agg cs)(hy:fe n l y= .int .i64 z)(k:Nat)(hz:z=(k:Int))(hk:k<len)(hv:Value.agg (cs.extract (k*sz) (k*sz+sz))=v)(w:World):
  (execOp (fe n l) o).run P w= .ok (.value v) w:=by
 subst hz
 subst hv
 cases hq:P.info? e with
 |none=>simp[hq] at hs
 |some inf=>
  have hs':inf.size=sz:=by simpa [hq] using hs
  have h1:(k:Int)<(len:Int):=by omega
  simp[execOp,ho,hx,hy,Instr.index,asIntOf,run_underlying ht,part,isAgg,run_underlying he,sizeOf,typeInfo,hq,hs',h1]
  intro h
  omega
end
end Go.Proofs.YtcgkoffnknpgjaaGreatDoor

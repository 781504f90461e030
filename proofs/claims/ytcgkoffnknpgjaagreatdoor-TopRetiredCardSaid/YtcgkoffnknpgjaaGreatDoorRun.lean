/-
  Walks that the kernel makes by itself, from one acting operation to the next: states, their run, and the rules for what acts. No program in sight.
-/
import Derived.Test.YtcgkoffnknpgjaaGreatDoorSh3
namespace Go.Proofs.YtcgkoffnknpgjaaGreatDoor
set_option linter.unusedVariables false
set_option linter.unusedSimpArgs false
inductive Kt where
 |sq (y:Code)
 |bk (id:Nat)
def KQ(r:Option Nat)(P:Program)(Q0:Exit→Act→World→Prop):List Kt→Exit→Act→World→Prop
 | []=>Q0
 | .sq y::K=>Exit.then (WP r P y (KQ r P Q0 K)) (KQ r P Q0 K)
 | .bk id::K=>Exit.inBlock id (KQ r P Q0 K)
inductive Ps where
 |co (c:Code)
 |rg (id:Nat) (ops:Array Oper) (is:List Nat)
 |dr (id:Nat) (ops:Array Oper) (t:Tr) (pts:List Pt)
 |ou (e:Exit)
structure Sx where
 p:Ps
 K:List Kt
 l:Fr
def GSa(r:Option Nat)(P:Program)(Q0:Exit→Act→World→Prop):Ps→List Kt→Act→World→Prop
 | .co c,K,a,w=>WP r P c (KQ r P Q0 K) a w
 | .rg _ ops is,K,a,w=>PO P ops (KQ r P Q0 K) is a w
 | .dr _ ops t pts,K,a,w=>RW P ops (KQ r P Q0 K) t pts a w
 | .ou e,K,a,w=>KQ r P Q0 K e a w
structure GS (r:Option Nat) (P:Program) (Q0:Exit→Act→World→Prop) (ds:List Deferred) (n:Nat) (st:Sx) (w:World):Prop where
 out:GSa r P Q0 st.p st.K (mkd ds n st.l) w
structure Im where
 id:Nat
 i:Nat
 vs:List Value
 ov:Option Value
 stop:Bool
def hdIm(id i:Nat):List Im→List Value×Option Value×Bool×List Im
 | []=>([],none,false,[])
 |m::r=>cond (Nat.beq m.id id&&Nat.beq m.i i) (m.vs,m.ov,m.stop,r) ([],none,false,m::r)
def fid:Code→Nat
 | .seq x _=>fid x
 | .block _ x=>fid x
 | .loop x=>fid x
 | .scope x=>fid x
 | .region id _ _=>id
 |_=>0
def stopQ(c:Code)(k:Nat):List Im→Bool
 | []=>false
 |m::_=>cond (Nat.ble 100000 m.i) (Nat.beq m.i (100000+k)&&Nat.beq m.id (fid c)) false
def okR(id:Nat):List Im→Bool
 | []=>true
 |m::_=> !(Nat.beq m.id id&&Nat.beq m.i 99999)
abbrev Out1:=Sx×List Im×List (Addr×Value)×List (Value×Value)
def exq(P:Program)(ops:Array Oper)(n:Nat)(l:Fr)(id i:Nat)(ms:List Im):Option (Fr×List Im×List (Addr×Value)×List (Value×Value)):=
 match hdIm id i ms with
 |(_,_,true,_)=>none
 |(vs,ov,false,ms')=>match chk1 P ops n l i vs with
  |none=>none
  |some (d,u,ls)=>match putF n l d (match ov with |some v=>v|none=>u) with
   |none=>none
   |some l1=>some (l1,ms',ls,match ov with |some v=> [(u,v)]|none=> [])
def step1(P:Program)(n:Nat):Ps→List Kt→Fr→List Im→Option Out1
 | .co c,K,l,ms=>(match c with
  | .seq x y=>cond (stopQ (.seq x y) K.length ms) none (some (⟨.co x,.sq y::K,l⟩,ms,[],[]))
  | .block id x=>some (⟨.co x,.bk id::K,l⟩,ms,[],[])
  | .skip=>some (⟨.ou .normal,K,l⟩,ms,[],[])
  | .exit id=>some (⟨.ou (.exit id),K,l⟩,ms,[],[])
  | .ret=>some (⟨.ou .ret,K,l⟩,ms,[],[])
  | .cond x s t=>(match fe n l x with
   | .bool true=>some (⟨.co s,K,l⟩,ms,[],[])
   | .bool false=>some (⟨.co t,K,l⟩,ms,[],[])
   |_=>none)
  | .region id ops false=>cond (noDefer ops&&okR id ms) (some (⟨.rg id ops (List.range ops.size),K,l⟩,ms,[],[])) none
  |_=>none)
 | .rg id ops is,K,l,ms=>(match is with
  | []=>some (⟨.ou .normal,K,l⟩,ms,[],[])
  |i::is=>(match exq P ops n l id i ms with
   |none=>none
   |some (l1,ms',ls,es)=>some (⟨.rg id ops is,K,l1⟩,ms',ls,es)))
 | .dr id ops t pts,K,l,ms=>(match t with
  | .nil=>some (⟨.ou .normal,K,l⟩,ms,[],[])
  | .fl i t=>(match exq P ops n l id i ms with
   |none=>none
   |some (l1,ms',ls,es)=>some (⟨.dr id ops t (ls.map (fun q=>(i,q.1,q.2))++pts),K,l1⟩,ms',ls,es))
  |_=>none)
 | .ou e,K,l,ms=>(match e with
  | .normal=>(match K with
   | .sq y::K=>some (⟨.co y,K,l⟩,ms,[],[])
   | .bk _::K=>some (⟨.ou .normal,K,l⟩,ms,[],[])
   | []=>none)
  | .exit j=>(match K with
   | .sq _::K=>some (⟨.ou (.exit j),K,l⟩,ms,[],[])
   | .bk id::K=>some (⟨.ou (cond (Nat.beq j id) .normal (.exit j)),K,l⟩,ms,[],[])
   | []=>none)
  | .ret=>(match K with
   |_::K=>some (⟨.ou .ret,K,l⟩,ms,[],[])
   | []=>none)
  |_=>none)
def AllQ(w:World):List (Addr×Value)→Prop
 | []=>True
 |q::r=>w.cell? q.1=some q.2∧AllQ w r
theorem allQ_app{w:World}: ∀ {a b:List (Addr×Value)},AllQ w (a++b)→AllQ w a∧AllQ w b
 | [],_,h=>⟨trivial,h⟩
 |_::_,_,h=>⟨⟨h.1,(allQ_app h.2).1⟩,(allQ_app h.2).2⟩
theorem allQ_of{w:World}: ∀ {a b:List (Addr×Value)},AllQ w a→AllQ w b→AllQ w (a++b)
 | [],_,_,h=>h
 |_::_,_,h,h2=>⟨h.1,allQ_of h.2 h2⟩
theorem allQ_mem{w:World}: ∀ {a:List (Addr×Value)},AllQ w a→ ∀q∈a,w.cell? q.1=some q.2
 |_::_,h,q,hq=>by
  rcases List.mem_cons.1 hq with rfl |hq
  · exact h.1
  · exact allQ_mem h.2 q hq
theorem allE_app: ∀ {a b:List (Value×Value)},AllE (a++b)→AllE a∧AllE b
 | [],_,h=>⟨trivial,h⟩
 |_::_,_,h=>⟨⟨h.1,(allE_app h.2).1⟩,(allE_app h.2).2⟩
section
variable {r : Option Nat} {P : Program} {Q0 : Exit → Act → World → Prop} {ds : List Deferred} {n : Nat} {w : World}
theorem exq_spec{ops:Array Oper}{l l1:Fr}{id i:Nat}{ms ms':List Im}{ls:List (Addr×Value)}{es:List (Value×Value)}(h:exq P ops n l id i ms=some (l1,ms',ls,es)):
  ∃vs ov,chkB P ops n l [⟨i,vs,ov⟩]=some (l1,ls.map (fun q=>(i,q.1,q.2)),es):=by
 unfold exq at h
 split at h
 · cases h
 · rename_i vs ov ms2 _
   refine⟨vs,ov,?_⟩
   split at h
   · cases h
   · rename_i d u ls2 h1
     split at h
     · cases h
     · rename_i l2 h2
       simp only[Option.some.injEq,Prod.mk.injEq] at h
       obtain⟨rfl,rfl,rfl,rfl⟩:=h
       simp only[chkB,h1]
       cases ov with
       |none=>simp only at h2;simp only[h2,List.nil_append]
       |some v=>simp only at h2;simp only[h2,List.nil_append]
theorem step1_sound{p:Ps}{K:List Kt}{l:Fr}{ms:List Im}{o:Out1}(h:step1 P n p K l ms=some o)(hq:AllQ w o.2.2.1)(he:AllE o.2.2.2)(hr:GSa r P Q0 o.1.p o.1.K (mkd ds n o.1.l) w):GSa r P Q0 p K (mkd ds n l) w:=by
 have hpt: ∀(i:Nat) (ls:List (Addr×Value)),AllQ w ls→AllC w (ls.map fun q=>(i,q.1,q.2)):=fun i ls h q hq=>by
  obtain⟨p,hp,rfl⟩:=List.mem_map.1 hq
  exact allQ_mem h p hp
 cases p with
 |co c=>
  simp only[step1] at h
  cases c with
  |seq x y=>
   simp only at h
   cases hz:stopQ (.seq x y) K.length ms with
   |true=>rw[hz] at h;cases h
   |false=>rw[hz] at h;simp only[cond_false,Option.some.injEq] at h;subst h;exact gi_seq rfl hr
  |block id x=>simp only[Option.some.injEq] at h;subst h;exact gi_blk rfl hr
  |skip=>simp only[Option.some.injEq] at h;subst h;exact gi_skp rfl hr
  |exit id=>simp only[Option.some.injEq] at h;subst h;exact gi_ext rfl hr
  |ret=>simp only[Option.some.injEq] at h;subst h;exact gi_rt rfl hr
  |cond x s t=>
   simp only at h
   split at h
   · rename_i e;simp only[Option.some.injEq] at h;subst h;exact gi_cnd (s:=s) (t:=t) true rfl e hr
   · rename_i e;simp only[Option.some.injEq] at h;subst h;exact gi_cnd (s:=s) (t:=t) false rfl e hr
   · cases h
  |region id ops b=>
   cases b with
   |true=>cases h
   |false=>
    simp only at h
    cases hd:(noDefer ops&&okR id ms) with
    |false=>rw[hd] at h;cases h
    |true=>
     rw[hd] at h
     simp only[cond_true,Option.some.injEq] at h
     subst h
     rw[Bool.and_eq_true] at hd
     exact gi_pln _ rfl hd.1 rfl hr
  |_=>cases h
 |rg id ops is=>
  simp only[step1] at h
  cases is with
  |nil=>simp only[Option.some.injEq] at h;subst h;exact PO.mk hr
  |cons i is=>
   simp only at h
   split at h
   · cases h
   · rename_i l1 ms' ls es e
     simp only[Option.some.injEq] at h
     subst h
     obtain⟨vs,ov,hc⟩:=exq_spec e
     exact plain_batch [⟨i,vs,ov⟩] hc he (hpt i ls hq) hr
 |dr id ops t pts=>
  simp only[step1] at h
  cases t with
  |nil=>simp only[Option.some.injEq] at h;subst h;exact hr
  |fl i t=>
   simp only at h
   split at h
   · cases h
   · rename_i l1 ms' ls es e
     simp only[Option.some.injEq] at h
     subst h
     obtain⟨vs,ov,hc⟩:=exq_spec e
     exact draw_batch [⟨i,vs,ov⟩] hc he (hpt i ls hq) hr
  |_=>cases h
 |ou e=>
  simp only[step1] at h
  cases e with
  |normal=>
   cases K with
   |nil=>cases h
   |cons k K=>cases k<;>(simp only[Option.some.injEq] at h;subst h;exact hr)
  |exit j=>
   cases K with
   |nil=>cases h
   |cons k K=>
    cases k with
    |sq y=>simp only[Option.some.injEq] at h;subst h;exact hr
    |bk id=>
     simp only[Option.some.injEq] at h
     subst h
     show (if j=id then KQ r P Q0 K .normal (mkd ds n l) w else KQ r P Q0 K (.exit j) (mkd ds n l) w)
     rw[nat_beq] at hr
     by_cases hj:j=id
     · rw[if_pos hj];rw[decide_eq_true hj] at hr;exact hr
     · rw[if_neg hj];rw[decide_eq_false hj] at hr;exact hr
  |ret=>
   cases K with
   |nil=>cases h
   |cons k K=>cases k<;>(simp only[Option.some.injEq] at h;subst h;exact hr)
  |_=>cases h
end
def sim(P:Program)(n:Nat):Nat→Sx→List Im→Out1
 |0,st,ms=>(st,ms,[],[])
 |k+1,st,ms=>match step1 P n st.p st.K st.l ms with
  |none=>(st,ms,[],[])
  |some (st',ms',ls,es)=>match sim P n k st' ms' with
   |(s,m,ls2,es2)=>(s,m,ls++ls2,es++es2)
structure Ov where
 u:Value
 v:Value
 h:u=v
section
variable (x y : Int)
def oI(h:x=y:=by omega)(h0: -9223372036854775808≤y:=by omega)(h1:y≤9223372036854775807:=by omega):Ov:=⟨.int .i64 (IntKind.wrap .i64 x),.int .i64 y,ov_i64 h h0 h1⟩
def oIr(h0: -9223372036854775808≤x:=by omega)(h1:x≤9223372036854775807:=by omega):Ov:=⟨.int .i64 (IntKind.wrap .i64 x),.int .i64 x,ov_i64 rfl h0 h1⟩
def oU(h:x=y:=by omega)(h0:0≤y:=by omega)(h1:y≤4294967295:=by omega):Ov:=⟨.int .u32 (IntKind.wrap .u32 x),.int .u32 y,ov_u32 h h0 h1⟩
def oUr(h0:0≤x:=by omega)(h1:x≤4294967295:=by omega):Ov:=⟨.int .u32 (IntKind.wrap .u32 x),.int .u32 x,ov_u32 rfl h0 h1⟩
def oYr(h0:0≤x:=by omega)(h1:x≤255:=by omega):Ov:=⟨.int .u8 (IntKind.wrap .u8 x),.int .u8 x,ov_u8 rfl h0 h1⟩
def oLr(h0:0≤x:=by omega)(h1:x≤18446744073709551615:=by omega):Ov:=⟨.int .u64 (IntKind.wrap .u64 x),.int .u64 x,ov_u64 rfl h0 h1⟩
def qeT(h:x=y:=by omega):Ov:=⟨.bool (x==y),.bool true,ov_et h⟩
def qeF(h:x≠y:=by omega):Ov:=⟨.bool (x==y),.bool false,ov_ef h⟩
def qnT(h:x≠y:=by omega):Ov:=⟨.bool (x != y),.bool true,ov_nt h⟩
def qnF(h:x=y:=by omega):Ov:=⟨.bool (x != y),.bool false,ov_nf h⟩
end
def oJ(k:IntKind)(x y:Int)(h:x=y:=by omega):Ov:=⟨.int k x,.int k y,ov_int h⟩
def oT(p:Prop)[Decidable p](h:p:=by omega):Ov:=⟨.bool (decide p),.bool true,ov_t h⟩
def oF(p:Prop)[Decidable p](h: ¬p:=by omega):Ov:=⟨.bool (decide p),.bool false,ov_f h⟩
inductive Iq (w:World) where
 |s (id i:Nat)
 |v (id i:Nat) (o:Ov)
 |r (id i b off:Nat) (vs:List Value) (h:RowH w b off vs)
 |rv (id i b off:Nat) (vs:List Value) (h:RowH w b off vs) (o:Ov)
def rowQ(b:Nat):Nat→List Value→List (Addr×Value)
 |_,[]=> []
 |off,v::vs=>(⟨b,off,none⟩,v)::rowQ b (off+1) vs
theorem rowQ_all{w:World}{b:Nat}: ∀ {vs:List Value} {off:Nat},RowH w b off vs→AllQ w (rowQ b off vs)
 | [],_,_=>trivial
 |_::_,_,h=>⟨h.1,rowQ_all h.2⟩
def imsOf{w:World}:List (Iq w)→List Im
 | []=> []
 | .s id i::r=>⟨id,i,[],none,true⟩::imsOf r
 | .v id i o::r=>⟨id,i,[],some o.v,false⟩::imsOf r
 | .r id i _ _ vs _::r=>⟨id,i,vs,none,false⟩::imsOf r
 | .rv id i _ _ vs _ o::r=>⟨id,i,vs,some o.v,false⟩::imsOf r
def Iq.b{w:World}(q:Iq w)(o:Ov):Iq w:=match q with
 | .r id i b off vs h=> .rv id i b off vs h o
 |q=>q
def itR{w:World}:List (Iq w)→List (Addr×Value)
 | []=> []
 | .s _ _::r=>itR r
 | .v _ _ _::r=>itR r
 | .r _ _ b off vs _::r=>rowQ b off vs++itR r
 | .rv _ _ b off vs _ _::r=>rowQ b off vs++itR r
def itE{w:World}:List (Iq w)→List (Value×Value)
 | []=> []
 | .s _ _::r=>itE r
 | .v _ _ o::r=>(o.u,o.v)::itE r
 | .r _ _ _ _ _ _::r=>itE r
 | .rv _ _ _ _ _ _ o::r=>(o.u,o.v)::itE r
theorem itR_all{w:World}: ∀its:List (Iq w),AllQ w (itR its)
 | []=>trivial
 | .s _ _::r=>itR_all r
 | .v _ _ _::r=>itR_all r
 | .r _ _ _ _ _ h::r=>allQ_of (rowQ_all h) (itR_all r)
 | .rv _ _ _ _ _ h _::r=>allQ_of (rowQ_all h) (itR_all r)
theorem itE_all{w:World}: ∀its:List (Iq w),AllE (itE its)
 | []=>trivial
 | .s _ _::r=>itE_all r
 | .v _ _ o::r=>⟨o.h,itE_all r⟩
 | .r _ _ _ _ _ _::r=>itE_all r
 | .rv _ _ _ _ _ _ o::r=>⟨o.h,itE_all r⟩
def simS(P:Program)(n:Nat)(st:Sx)(ms:List Im):Sx:=(sim P n 1000 st ms).1
def simC(P:Program)(n:Nat)(st:Sx)(ms:List Im):List (Addr×Value)×List (Value×Value):=(sim P n 1000 st ms).2.2
def rd{g w:World}{A:List Assn}{b:Nat}{cs:List Value}{t:TypeId}(id i j off k:Nat)(hs:sat g w A)(hj:A[j]? =some (Cl b cs t):=by rfl)(hk:Nat.ble (off+k) cs.length=true:=by rfl):Iq w:=
 .r id i b off ((cs.drop off).take k) (cR hs j hj (by
  have:=Nat.le_of_ble_eq_true hk
  rw[List.length_take,List.length_drop,Nat.min_eq_left om]))
section
variable {r : Option Nat} {P : Program} {Q0 : Exit → Act → World → Prop} {ds : List Deferred} {n : Nat} {w : World} {st : Sx}
theorem sim_sound: ∀(k:Nat) (st:Sx) (ms:List Im),AllQ w (sim P n k st ms).2.2.1→AllE (sim P n k st ms).2.2.2→GS r P Q0 ds n (sim P n k st ms).1 w→GS r P Q0 ds n st w
 |0,_,_,_,_,h=>h
 |k+1,st,ms,hq,he,hr=>by
  unfold sim at hq he hr
  split at hq
  · rename_i e;simp only[e] at hr;exact hr
  · rename_i st' ms' ls es e
    simp only[e] at he hr
    obtain⟨q1,q2⟩:=allQ_app hq
    obtain⟨e1,e2⟩:=allE_app he
    have:=sim_sound k st' ms' q2 e2 hr
    exact⟨step1_sound e q1 e1 this.out⟩
theorem go(its:List (Iq w))(hr:GS r P Q0 ds n (simS P n st (imsOf its)) w)(h:simC P n st (imsOf its)=(itR its,itE its):=by kernel_rfl):GS r P Q0 ds n st w:=by
 have h1:(sim P n 1000 st (imsOf its)).2.2=(itR its,itE its):=h
 refine sim_sound 1000 st (imsOf its) ?_ ?_ hr
 · rw[h1];exact itR_all its
 · rw[h1];exact itE_all its
end
end Go.Proofs.YtcgkoffnknpgjaaGreatDoor

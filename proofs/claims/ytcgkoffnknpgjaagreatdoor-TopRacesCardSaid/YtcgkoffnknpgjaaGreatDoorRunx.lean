/-
  Walks that the kernel makes by itself, from one acting operation to the next: states, their run, and the rules for what acts. No program in sight.
-/
import Derived.Test.YtcgkoffnknpgjaaGreatDoorSh3x
namespace Go.Proofs.YtcgkoffnknpgjaaGreatDoor
set_option linter.unusedVariables false
set_option linter.unusedSimpArgs false
inductive Kt where
 |sq (y:Code)
 |bk (id:Nat)
def KQ(r:Option Nat)(P:Program)(Q0:Exit→Act→World→Prop):List Kt→Exit→Act→World→Prop
 | []=>Q0
 | .sq y::K=>Exit.then (WP r P y (KQ r P Q0 K)) (KQ r P Q0 K)
 | .bk id::K=>Exit.inBlock id (KQ r P Q0 K)
inductive Ps where
 |co (c:Code)
 |rg (id:Nat) (ops:Array Oper) (is:List Nat)
 |dr (id:Nat) (ops:Array Oper) (t:Tr) (pts:List Pt)
 |ou (e:Exit)
structure Sx where
 p:Ps
 K:List Kt
 l:Fr
def XS(r:Option Nat)(P:Program)(Q0:Exit→Act→World→Prop):Ps→List Kt→Act→World→Prop
 | .co c,K,a,w=>WP r P c (KQ r P Q0 K) a w
 | .rg _ ops is,K,a,w=>PO P ops (KQ r P Q0 K) is a w
 | .dr _ ops t pts,K,a,w=>RW P ops (KQ r P Q0 K) t pts a w
 | .ou e,K,a,w=>KQ r P Q0 K e a w
structure GS (r:Option Nat) (P:Program) (Q0:Exit→Act→World→Prop) (ds:List Deferred) (n:Nat) (st:Sx) (w:World):Prop where
 out:XS r P Q0 st.p st.K (Ad ds n st.l) w
structure Im where
 id:Nat
 i:Nat
 vs:List Value
 ov:Option Value
 stop:Bool
def yG(id i:Nat):List Im→List Value×Option Value×Bool×List Im
 | []=>([],none,false,[])
 |m::r=>cond (Nat.beq m.id id&&Nat.beq m.i i) (m.vs,m.ov,m.stop,r) ([],none,false,m::r)
def tD:Code→Nat
 | .seq x _=>tD x
 | .block _ x=>tD x
 | .loop x=>tD x
 | .scope x=>tD x
 | .region id _ _=>id
 |_=>0
def kK(c:Code)(k:Nat):List Im→Bool
 | []=>false
 |m::_=>cond (Nat.ble 100000 m.i) (Nat.beq m.i (100000+k)&&Nat.beq m.id (tD c)) false
def okR(id:Nat):List Im→Bool
 | []=>true
 |m::_=> !(Nat.beq m.id id&&Nat.beq m.i 99999)
abbrev mE:=Sx×List Im×List (Addr×Value)×List (Value×Value)
def xR(P:Program)(ops:Array Oper)(n:Nat)(l:Fr)(id i:Nat)(ms:List Im):Option (Fr×List Im×List (Addr×Value)×List (Value×Value)):=
 match yG id i ms with
 |(_,_,true,_)=>none
 |(vs,ov,false,ms')=>match cA P ops n l i vs with
  |none=>none
  |some (d,u,ls)=>match EJ n l d (match ov with |some v=>v|none=>u) with
   |none=>none
   |some l1=>some (l1,ms',ls,match ov with |some v=> [(u,v)]|none=> [])
def MI(P:Program)(n:Nat):Ps→List Kt→Fr→List Im→Option mE
 | .co c,K,l,ms=>(match c with
  | .seq x y=>cond (kK (.seq x y) K.length ms) none (some (⟨.co x,.sq y::K,l⟩,ms,[],[]))
  | .block id x=>some (⟨.co x,.bk id::K,l⟩,ms,[],[])
  | .skip=>some (⟨.ou .normal,K,l⟩,ms,[],[])
  | .exit id=>some (⟨.ou (.exit id),K,l⟩,ms,[],[])
  | .ret=>some (⟨.ou .ret,K,l⟩,ms,[],[])
  | .cond x s t=>(match fe n l x with
   | .bool true=>some (⟨.co s,K,l⟩,ms,[],[])
   | .bool false=>some (⟨.co t,K,l⟩,ms,[],[])
   |_=>none)
  | .region id ops false=>cond (Bi ops&&okR id ms) (some (⟨.rg id ops (List.range ops.size),K,l⟩,ms,[],[])) none
  |_=>none)
 | .rg id ops is,K,l,ms=>(match is with
  | []=>some (⟨.ou .normal,K,l⟩,ms,[],[])
  |i::is=>(match xR P ops n l id i ms with
   |none=>none
   |some (l1,ms',ls,es)=>some (⟨.rg id ops is,K,l1⟩,ms',ls,es)))
 | .dr id ops t pts,K,l,ms=>(match t with
  | .nil=>some (⟨.ou .normal,K,l⟩,ms,[],[])
  | .fl i t=>(match xR P ops n l id i ms with
   |none=>none
   |some (l1,ms',ls,es)=>some (⟨.dr id ops t (ls.map (fun q=>(i,q.1,q.2))++pts),K,l1⟩,ms',ls,es))
  |_=>none)
 | .ou e,K,l,ms=>(match e with
  | .normal=>(match K with
   | .sq y::K=>some (⟨.co y,K,l⟩,ms,[],[])
   | .bk _::K=>some (⟨.ou .normal,K,l⟩,ms,[],[])
   | []=>none)
  | .exit j=>(match K with
   | .sq _::K=>some (⟨.ou (.exit j),K,l⟩,ms,[],[])
   | .bk id::K=>some (⟨.ou (cond (Nat.beq j id) .normal (.exit j)),K,l⟩,ms,[],[])
   | []=>none)
  | .ret=>(match K with
   |_::K=>some (⟨.ou .ret,K,l⟩,ms,[],[])
   | []=>none)
  |_=>none)
def IX(w:World):List (Addr×Value)→Prop
 | []=>True
 |q::r=>w.cell? q.1=some q.2∧IX w r
theorem J7{w:World}: ∀ {a b:List (Addr×Value)},IX w (a++b)→IX w a∧IX w b
 | [],_,h=>⟨trivial,h⟩
 |_::_,_,h=>⟨⟨h.1,(J7 h.2).1⟩,(J7 h.2).2⟩
theorem NO{w:World}: ∀ {a b:List (Addr×Value)},IX w a→IX w b→IX w (a++b)
 | [],_,_,h=>h
 |_::_,_,h,h2=>⟨h.1,NO h.2 h2⟩
theorem F7{w:World}: ∀ {a:List (Addr×Value)},IX w a→ ∀q∈a,w.cell? q.1=some q.2
 |_::_,h,q,hq=>by
  rcases List.mem_cons.1 hq with rfl |hq
  · exact h.1
  · exact F7 h.2 q hq
theorem J8: ∀ {a b:List (Value×Value)},G3 (a++b)→G3 a∧G3 b
 | [],_,h=>⟨trivial,h⟩
 |_::_,_,h=>⟨⟨h.1,(J8 h.2).1⟩,(J8 h.2).2⟩
section
variable {r : Option Nat} {P : Program} {Q0 : Exit → Act → World → Prop} {ds : List Deferred} {n : Nat} {w : World}
theorem PS{ops:Array Oper}{l l1:Fr}{id i:Nat}{ms ms':List Im}{ls:List (Addr×Value)}{es:List (Value×Value)}(h:xR P ops n l id i ms=some (l1,ms',ls,es)):
  ∃vs ov,E5 P ops n l [⟨i,vs,ov⟩]=some (l1,ls.map (fun q=>(i,q.1,q.2)),es):=by
 unfold xR at h
 split at h
 · cases h
 · rename_i vs ov ms2 _
   refine⟨vs,ov,?_⟩
   split at h
   · cases h
   · rename_i d u ls2 h1
     split at h
     · cases h
     · rename_i l2 h2
       simp only[Option.some.injEq,Prod.mk.injEq] at h
       obtain⟨rfl,rfl,rfl,rfl⟩:=h
       simp only[E5,h1]
       cases ov with
       |none=>simp only at h2;simp only[h2,List.nil_append]
       |some v=>simp only at h2;simp only[h2,List.nil_append]
theorem PT{p:Ps}{K:List Kt}{l:Fr}{ms:List Im}{o:mE}(h:MI P n p K l ms=some o)(hq:IX w o.2.2.1)(he:G3 o.2.2.2)(hr:XS r P Q0 o.1.p o.1.K (Ad ds n o.1.l) w):XS r P Q0 p K (Ad ds n l) w:=by
 have hpt: ∀(i:Nat) (ls:List (Addr×Value)),IX w ls→BV w (ls.map fun q=>(i,q.1,q.2)):=fun i ls h q hq=>by
  obtain⟨p,hp,rfl⟩:=List.mem_map.1 hq
  exact F7 h p hp
 cases p with
 |co c=>
  simp only[MI] at h
  cases c with
  |seq x y=>
   simp only at h
   cases hz:kK (.seq x y) K.length ms with
   |true=>rw[hz] at h;cases h
   |false=>rw[hz] at h;simp only[cond_false,Option.some.injEq] at h;subst h;exact Rm rfl hr
  |block id x=>simp only[Option.some.injEq] at h;subst h;exact XF rfl hr
  |skip=>simp only[Option.some.injEq] at h;subst h;exact XG rfl hr
  |exit id=>simp only[Option.some.injEq] at h;subst h;exact XH rfl hr
  |ret=>simp only[Option.some.injEq] at h;subst h;exact kE rfl hr
  |cond x s t=>
   simp only at h
   split at h
   · rename_i e;simp only[Option.some.injEq] at h;subst h;exact NH (s:=s) (t:=t) true rfl e hr
   · rename_i e;simp only[Option.some.injEq] at h;subst h;exact NH (s:=s) (t:=t) false rfl e hr
   · cases h
  |region id ops b=>
   cases b with
   |true=>cases h
   |false=>
    simp only at h
    cases hd:(Bi ops&&okR id ms) with
    |false=>rw[hd] at h;cases h
    |true=>
     rw[hd] at h
     simp only[cond_true,Option.some.injEq] at h
     subst h
     rw[Bool.and_eq_true] at hd
     exact XI _ rfl hd.1 rfl hr
  |_=>cases h
 |rg id ops is=>
  simp only[MI] at h
  cases is with
  |nil=>simp only[Option.some.injEq] at h;subst h;exact PO.mk hr
  |cons i is=>
   simp only at h
   split at h
   · cases h
   · rename_i l1 ms' ls es e
     simp only[Option.some.injEq] at h
     subst h
     obtain⟨vs,ov,hc⟩:=PS e
     exact EY [⟨i,vs,ov⟩] hc he (hpt i ls hq) hr
 |dr id ops t pts=>
  simp only[MI] at h
  cases t with
  |nil=>simp only[Option.some.injEq] at h;subst h;exact hr
  |fl i t=>
   simp only at h
   split at h
   · cases h
   · rename_i l1 ms' ls es e
     simp only[Option.some.injEq] at h
     subst h
     obtain⟨vs,ov,hc⟩:=PS e
     exact Jx [⟨i,vs,ov⟩] hc he (hpt i ls hq) hr
  |_=>cases h
 |ou e=>
  simp only[MI] at h
  cases e with
  |normal=>
   cases K with
   |nil=>cases h
   |cons k K=>cases k<;>(simp only[Option.some.injEq] at h;subst h;exact hr)
  |exit j=>
   cases K with
   |nil=>cases h
   |cons k K=>
    cases k with
    |sq y=>simp only[Option.some.injEq] at h;subst h;exact hr
    |bk id=>
     simp only[Option.some.injEq] at h
     subst h
     show (if j=id then KQ r P Q0 K .normal (Ad ds n l) w else KQ r P Q0 K (.exit j) (Ad ds n l) w)
     rw[TR] at hr
     by_cases hj:j=id
     · rw[if_pos hj];rw[decide_eq_true hj] at hr;exact hr
     · rw[if_neg hj];rw[decide_eq_false hj] at hr;exact hr
  |ret=>
   cases K with
   |nil=>cases h
   |cons k K=>cases k<;>(simp only[Option.some.injEq] at h;subst h;exact hr)
  |_=>cases h
end
def bS(P:Program)(n:Nat):Nat→Sx→List Im→mE
 |0,st,ms=>(st,ms,[],[])
 |k+1,st,ms=>match MI P n st.p st.K st.l ms with
  |none=>(st,ms,[],[])
  |some (st',ms',ls,es)=>match bS P n k st' ms' with
   |(s,m,ls2,es2)=>(s,m,ls++ls2,es++es2)
structure Ov where
 u:Value
 v:Value
 h:u=v
section
variable (x y : Int)
def oI(h:x=y:=by omega)(h0: -9223372036854775808≤y:=by omega)(h1:y≤9223372036854775807:=by omega):Ov:=⟨.int .i64 (IntKind.wrap .i64 x),.int .i64 y,Ri h h0 h1⟩
def CD(h0: -9223372036854775808≤x:=by omega)(h1:x≤9223372036854775807:=by omega):Ov:=⟨.int .i64 (IntKind.wrap .i64 x),.int .i64 x,Ri rfl h0 h1⟩
def oU(h:x=y:=by omega)(h0:0≤y:=by omega)(h1:y≤4294967295:=by omega):Ov:=⟨.int .u32 (IntKind.wrap .u32 x),.int .u32 y,XD h h0 h1⟩
def sE(h0:0≤x:=by omega)(h1:x≤4294967295:=by omega):Ov:=⟨.int .u32 (IntKind.wrap .u32 x),.int .u32 x,XD rfl h0 h1⟩
def yH(h0:0≤x:=by omega)(h1:x≤255:=by omega):Ov:=⟨.int .u8 (IntKind.wrap .u8 x),.int .u8 x,sN rfl h0 h1⟩
def tE(h0:0≤x:=by omega)(h1:x≤18446744073709551615:=by omega):Ov:=⟨.int .u64 (IntKind.wrap .u64 x),.int .u64 x,lW rfl h0 h1⟩
def G9(h:x=y:=by omega):Ov:=⟨.bool (x==y),.bool true,sR h⟩
def DR(h:x≠y:=by omega):Ov:=⟨.bool (x==y),.bool false,sS h⟩
def Tc(h:x≠y:=by omega):Ov:=⟨.bool (x != y),.bool true,sT h⟩
def Db(h:x=y:=by omega):Ov:=⟨.bool (x != y),.bool false,sU h⟩
end
def oJ(k:IntKind)(x y:Int)(h:x=y:=by omega):Ov:=⟨.int k x,.int k y,BE h⟩
def oT(p:Prop)[Decidable p](h:p:=by omega):Ov:=⟨.bool (decide p),.bool true,sO h⟩
def oF(p:Prop)[Decidable p](h: ¬p:=by omega):Ov:=⟨.bool (decide p),.bool false,sQ h⟩
inductive Iq (w:World) where
 |s (id i:Nat)
 |v (id i:Nat) (o:Ov)
 |r (id i b off:Nat) (vs:List Value) (h:PR w b off vs)
 |rv (id i b off:Nat) (vs:List Value) (h:PR w b off vs) (o:Ov)
def cO(b:Nat):Nat→List Value→List (Addr×Value)
 |_,[]=> []
 |off,v::vs=>(⟨b,off,none⟩,v)::cO b (off+1) vs
theorem J9{w:World}{b:Nat}: ∀ {vs:List Value} {off:Nat},PR w b off vs→IX w (cO b off vs)
 | [],_,_=>trivial
 |_::_,_,h=>⟨h.1,J9 h.2⟩
def Gx{w:World}:List (Iq w)→List Im
 | []=> []
 | .s id i::r=>⟨id,i,[],none,true⟩::Gx r
 | .v id i o::r=>⟨id,i,[],some o.v,false⟩::Gx r
 | .r id i _ _ vs _::r=>⟨id,i,vs,none,false⟩::Gx r
 | .rv id i _ _ vs _ o::r=>⟨id,i,vs,some o.v,false⟩::Gx r
def Iq.b{w:World}(q:Iq w)(o:Ov):Iq w:=match q with
 | .r id i b off vs h=> .rv id i b off vs h o
 |q=>q
def XT{w:World}:List (Iq w)→List (Addr×Value)
 | []=> []
 | .s _ _::r=>XT r
 | .v _ _ _::r=>XT r
 | .r _ _ b off vs _::r=>cO b off vs++XT r
 | .rv _ _ b off vs _ _::r=>cO b off vs++XT r
def kL{w:World}:List (Iq w)→List (Value×Value)
 | []=> []
 | .s _ _::r=>kL r
 | .v _ _ o::r=>(o.u,o.v)::kL r
 | .r _ _ _ _ _ _::r=>kL r
 | .rv _ _ _ _ _ _ o::r=>(o.u,o.v)::kL r
theorem Eb{w:World}: ∀its:List (Iq w),IX w (XT its)
 | []=>trivial
 | .s _ _::r=>Eb r
 | .v _ _ _::r=>Eb r
 | .r _ _ _ _ _ h::r=>NO (J9 h) (Eb r)
 | .rv _ _ _ _ _ h _::r=>NO (J9 h) (Eb r)
theorem HW{w:World}: ∀its:List (Iq w),G3 (kL its)
 | []=>trivial
 | .s _ _::r=>HW r
 | .v _ _ o::r=>⟨o.h,HW r⟩
 | .r _ _ _ _ _ _::r=>HW r
 | .rv _ _ _ _ _ _ o::r=>⟨o.h,HW r⟩
def VJ(P:Program)(n:Nat)(st:Sx)(ms:List Im):Sx:=(bS P n 1000 st ms).1
def PU(P:Program)(n:Nat)(st:Sx)(ms:List Im):List (Addr×Value)×List (Value×Value):=(bS P n 1000 st ms).2.2
def rd{g w:World}{A:List AB}{b:Nat}{cs:List Value}{t:TypeId}(id i j off k:Nat)(hs:sat g w A)(hj:A[j]? =some (Cl b cs t):=by rfl)(hk:Nat.ble (off+k) cs.length=true:=by rfl):Iq w:=
 .r id i b off ((cs.drop off).take k) (cR hs j hj (by
  have:=Nat.le_of_ble_eq_true hk
  rw[List.length_take,List.length_drop,Nat.min_eq_left om]))
section
variable {r : Option Nat} {P : Program} {Q0 : Exit → Act → World → Prop} {ds : List Deferred} {n : Nat} {w : World} {st : Sx}
theorem IY: ∀(k:Nat) (st:Sx) (ms:List Im),IX w (bS P n k st ms).2.2.1→G3 (bS P n k st ms).2.2.2→GS r P Q0 ds n (bS P n k st ms).1 w→GS r P Q0 ds n st w
 |0,_,_,_,_,h=>h
 |k+1,st,ms,hq,he,hr=>by
  unfold bS at hq he hr
  split at hq
  · rename_i e;simp only[e] at hr;exact hr
  · rename_i st' ms' ls es e
    simp only[e] at he hr
    obtain⟨q1,q2⟩:=J7 hq
    obtain⟨e1,e2⟩:=J8 he
    have:=IY k st' ms' q2 e2 hr
    exact⟨PT e q1 e1 this.out⟩
theorem go(its:List (Iq w))(hr:GS r P Q0 ds n (VJ P n st (Gx its)) w)(h:PU P n st (Gx its)=(XT its,kL its):=by kernel_rfl):GS r P Q0 ds n st w:=by
 have h1:(bS P n 1000 st (Gx its)).2.2=(XT its,kL its):=h
 refine IY 1000 st (Gx its) ?_ ?_ hr
 · rw[h1];exact Eb its
 · rw[h1];exact HW its
end
end Go.Proofs.YtcgkoffnknpgjaaGreatDoor

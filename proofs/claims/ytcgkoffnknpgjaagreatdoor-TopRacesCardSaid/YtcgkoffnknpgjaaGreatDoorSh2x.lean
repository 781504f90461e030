/-
  Shorter forms still: what the kernel reckons is filled in by itself. No program in sight.
-/
import Derived.Test.YtcgkoffnknpgjaaGreatDoorShrx
namespace Go.Proofs.YtcgkoffnknpgjaaGreatDoor
set_option linter.unusedVariables false
set_option linter.unusedSimpArgs false
abbrev e0(i:Nat):Ent:=⟨i,[],none⟩
abbrev e1(i:Nat)(v:Value):Ent:=⟨i,[],some v⟩
abbrev e2(i:Nat)(ls:List Value):Ent:=⟨i,ls,none⟩
theorem nC{w:World}:BV w []:=Bb w
theorem kC{w:World}{i:Nat}{a:Addr}{v:Value}{r:List Pt}(h:w.cell? a=some v)(hr:BV w r):BV w ((i,a,v)::r):=CO h hr
def kJ(f:Func)(p:List Nat)(id:Nat):Bool:=match CA f p with | .block i _=>i==id|_=>false
section
variable {r : Option Nat} {P : Program} {Q : Exit → Act → World → Prop} {a : Act} {w : World} {f : Func} {p : List Nat} {ds : List Deferred} {n : Nat} {l : Fr} {c : Code}
theorem LH(h:WP r P (CA f (p++ [0])) (Exit.then (WP r P (CA f (p++ [1])) Q) Q) a w)(e:XP f p=true:=by kernel_rfl):WP r P (CA f p) Q a w:=zSq e h
theorem Wv(is:List Nat)(h:PO P (RA f p) Q is (Ad ds n l) w)(e:XQ f p is=true:=by kernel_rfl):WP r P (CA f p) Q (Ad ds n l) w:=zPl is e h
theorem xO(h:WP r P (CA f (p++ [0])) Q (Ad ds n l) w)(e:MF f p n l true=true:=by kernel_rfl):WP r P (CA f p) Q (Ad ds n l) w:=zCt e h
theorem mC(h:WP r P (CA f (p++ [1])) Q (Ad ds n l) w)(e:MF f p n l false=true:=by kernel_rfl):WP r P (CA f p) Q (Ad ds n l) w:=zCf e h
theorem rZ(id:Nat)(h:WP r P (CA f (p++ [0])) (Exit.inBlock id Q) a w)(e:kJ f p id=true:=by kernel_rfl):WP r P (CA f p) Q a w:=by
 rw[J6] at h
 unfold kJ at e
 split at e
 · rename_i i x e1
   obtain rfl:i=id:=by simpa using e
   rw[e1] at h ⊢
   exact XF rfl h
 · cases e
theorem tC(h:Q .normal a w)(e:c= .skip:=by kernel_rfl):WP r P c Q a w:=XG e h
theorem yRt(h:Q .ret a w)(e:c= .ret:=by kernel_rfl):WP r P c Q a w:=kE e h
theorem xP(id:Nat)(h:Q (.exit id) a w)(e:c= .exit id:=by kernel_rfl):WP r P c Q a w:=XH e h
theorem yK(live:Fr)(hx: ∀lr,WP r P c Q (Ad ds n (live++lr)) w)(h:(live.map fun q=>lk l q.1)=live.map (fun q=>q.2):=by kernel_rfl):WP r P c Q (Ad ds n l) w:=lY live h (fun a=>WP r P c Q a w) hx
end
section
variable {P : Program} {ops : Array Oper} {Q : Exit → Act → World → Prop} {ds : List Deferred} {n : Nat} {l : Fr} {w : World} {rest : List Nat}
theorem sC(rest is:List Nat)(hd:Fr)(hr:PO P ops Q rest (Ad ds n (hd++l)) w)(h:E5 P ops n l (tA is)=some (hd++l,[],[]):=by kernel_rfl):PO P ops Q (is++rest) (Ad ds n l) w:=zB0 rest is hd h hr
theorem Ww(rest:List Nat)(hd:Fr)(b:List Ent)(pts:List Pt)(eqs:List (Value×Value))(he:G3 eqs)(hc:BV w pts)(hr:PO P ops Q rest (Ad ds n (hd++l)) w)(h:E5 P ops n l b=some (hd++l,pts,eqs):=by kernel_rfl):PO P ops Q (b.map (·.i)++rest) (Ad ds n l) w:=zBb rest hd b pts eqs h he hc hr
theorem yA{i:Nat}(hr:OP P (EV ops i) (Ad ds n l) w (PO P ops Q rest) Q)(h:Gr ops n l i=true:=by kernel_rfl):PO P ops Q (i::rest) (Ad ds n l) w:=MC h hr
theorem yD(t:Tr)(hd:Fr)(b:List Ent)(pts':List Pt)(eqs:List (Value×Value)){pts:List Pt}(he:G3 eqs)(hc:BV w pts')(hr:RW P ops Q t (pts'++pts) (Ad ds n (hd++l)) w)(h:E5 P ops n l b=some (hd++l,pts',eqs):=by kernel_rfl):RW P ops Q (AE (b.map (·.i)) t) pts (Ad ds n l) w:=Jx b h he hc hr
end
section
variable {P : Program} {Q : Exit → Act → World → Prop} {g w : World} {n : Nat} {l : Fr} {o : Oper} {ds : List Deferred} {N : Act → World → Prop} {L : List AB}
theorem sD(d:Nat){f:FuncId}{args:List Value}{Pre F:List AB}{Post:Value→List AB→Prop}(hcf: ∀a w,(callFunc f a).run P w= .ok (.enter f a) w)(hT:HT P f args Pre Post)(hs:sat g w (Pre++F))
(k: ∀v K w',Post v K→sat g w' (K++F)→ ∃l',EJ n l (some d) v=some l'∧N (Ad ds n l') w')(h:D8 o n l=some (some d,f,args):=by kernel_rfl):OP P o (Ad ds n l) w N Q:=TS h hcf hT hs k
theorem yNp(d t:Nat)(cs:List Value)(hs:sat g w L)(k: ∀r w',sat g w' (Cl r cs t::L)→N (Ad ds n ((d,pV r)::l)) w')(hr: ∀r,Jw P (execOp (fe n l) o) r=some (.value (pV r),.cells cs.toArray t (0,0)):=by intro _;kernel_rfl)(hd:o.dst=some d:=by kernel_rfl)(hn:Nat.blt d n=true:=by exact rfl):OP P o (Ad ds n l) w N Q:=
 NC (fun r=>pV r) (fun _=>Obj.cells cs.toArray t (0,0)) hr hd hn hs k
theorem yS{b:Nat}{cs:List Value}{t:TypeId}(ks:List (Nat×Value))(cs':List Value)(hs:sat g w (Cl b cs t::L))(k: ∀w',sat g w' (Cl b cs' t::L)→N (Ad ds n l) w')(hr:IR P (execOp (fe n l) o)=some (.skip,ks.map fun q=>((⟨b,q.1,none⟩:Addr),q.2)):=by kernel_rfl)(hd:o.dst=none:=by kernel_rfl)
 (hk:(ks.all fun q=>Nat.blt q.1 cs.length&&q.2.oneCell')=true:=by kernel_rfl)(hcs:CL cs ks=cs':=by kernel_rfl):OP P o (Ad ds n l) w N Q:=
 Bc ks hr hd (fun q hq=>by
  have:=List.all_eq_true.1 hk q hq
  rw[Bool.and_eq_true,BJ,decide_eq_true_eq] at this
  exact this) hcs hs k
end
theorem NM{g w:World}{A B:AB}{L:List AB}(h:sat g w (A::B::L)):sat g w (B::A::L):=by
 obtain⟨s,Z,hZ,ok,pw⟩:=h
 match Z,hZ with
 |z1::z2::Z,hZ=>
  simp only[List.map_cons,List.cons.injEq] at hZ
  refine⟨s,z2::z1::Z,by simp[hZ.1,hZ.2.1,hZ.2.2],fun z hz=>ok z ?_,?_⟩
  · simp only[List.mem_cons] at hz ⊢
    rcases hz with h1|h1|h1
    · exact .inr (.inl h1)
    · exact .inl h1
    · exact .inr (.inr h1)
  · obtain⟨h1,h2⟩:=List.pairwise_cons.1 pw
    obtain⟨h3,h4⟩:=List.pairwise_cons.1 h2
    refine List.pairwise_cons.2 ⟨fun z hz=> ?_,List.pairwise_cons.2 ⟨fun z hz=>h1 z (List.mem_cons_of_mem _ hz),h4⟩⟩
    rcases List.mem_cons.1 hz with rfl |hz
    · exact(h1 z2 List.mem_cons_self).symm
    · exact h3 z hz
section
variable {g w : World}
theorem Al{K L:List AB}{A:AB}(h:sat g w (K++A::L)):sat g w (A::(K++L)):=by
 have h1:=AN (A:= [A]) (B:=Aj K::L) (NM (AO h))
 have h2:sat g w (K++(L++ [A])):=AK h1
 rw[←List.append_assoc] at h2
 exact AN h2
theorem BO{K L:List AB}(h:sat g w (K++L)):sat g w K:=Ar (AO (AN h))
variable {A0 A1 A2 A3 A4 A5 A6 A7 A8 A9 A10 A11 A12 A13 A14 A15 A16 A17 A18 A19 A20 A21 A22 A23 A24 A25 : AB} {L : List AB}
theorem sat.a(h:sat g w (A0::A1::L)):sat g w (A1::A0::L):=Al (K:= [A0]) h
theorem sat.b(h:sat g w (A0::A1::A2::L)):sat g w (A2::A0::A1::L):=Al (K:= [A0,A1]) h
theorem sat.c(h:sat g w (A0::A1::A2::A3::L)):sat g w (A3::A0::A1::A2::L):=Al (K:= [A0,A1,A2]) h
theorem sat.d(h:sat g w (A0::A1::A2::A3::A4::L)):sat g w (A4::A0::A1::A2::A3::L):=Al (K:= [A0,A1,A2,A3]) h
theorem sat.e(h:sat g w (A0::A1::A2::A3::A4::A5::L)):sat g w (A5::A0::A1::A2::A3::A4::L):=Al (K:= [A0,A1,A2,A3,A4]) h
theorem sat.f(h:sat g w (A0::A1::A2::A3::A4::A5::A6::L)):sat g w (A6::A0::A1::A2::A3::A4::A5::L):=Al (K:= [A0,A1,A2,A3,A4,A5]) h
theorem sat.x(h:sat g w (A0::A1::A2::A3::A4::A5::A6::A7::L)):sat g w (A7::A0::A1::A2::A3::A4::A5::A6::L):=Al (K:= [A0,A1,A2,A3,A4,A5,A6]) h
theorem sat.h(h:sat g w (A0::A1::A2::A3::A4::A5::A6::A7::A8::L)):sat g w (A8::A0::A1::A2::A3::A4::A5::A6::A7::L):=Al (K:= [A0,A1,A2,A3,A4,A5,A6,A7]) h
theorem sat.i(h:sat g w (A0::A1::A2::A3::A4::A5::A6::A7::A8::A9::L)):sat g w (A9::A0::A1::A2::A3::A4::A5::A6::A7::A8::L):=Al (K:= [A0,A1,A2,A3,A4,A5,A6,A7,A8]) h
theorem sat.j(h:sat g w (A0::A1::A2::A3::A4::A5::A6::A7::A8::A9::A10::L)):sat g w (A10::A0::A1::A2::A3::A4::A5::A6::A7::A8::A9::L):=Al (K:= [A0,A1,A2,A3,A4,A5,A6,A7,A8,A9]) h
theorem sat.k(h:sat g w (A0::A1::A2::A3::A4::A5::A6::A7::A8::A9::A10::A11::L)):sat g w (A11::A0::A1::A2::A3::A4::A5::A6::A7::A8::A9::A10::L):=Al (K:= [A0,A1,A2,A3,A4,A5,A6,A7,A8,A9,A10]) h
theorem sat.l(h:sat g w (A0::A1::A2::A3::A4::A5::A6::A7::A8::A9::A10::A11::A12::L)):sat g w (A12::A0::A1::A2::A3::A4::A5::A6::A7::A8::A9::A10::A11::L):=Al (K:= [A0,A1,A2,A3,A4,A5,A6,A7,A8,A9,A10,A11]) h
theorem sat.m(h:sat g w (A0::A1::A2::A3::A4::A5::A6::A7::A8::A9::A10::A11::A12::A13::L)):sat g w (A13::A0::A1::A2::A3::A4::A5::A6::A7::A8::A9::A10::A11::A12::L):=Al (K:= [A0,A1,A2,A3,A4,A5,A6,A7,A8,A9,A10,A11,A12]) h
theorem sat.n(h:sat g w (A0::A1::A2::A3::A4::A5::A6::A7::A8::A9::A10::A11::A12::A13::A14::L)):sat g w (A14::A0::A1::A2::A3::A4::A5::A6::A7::A8::A9::A10::A11::A12::A13::L):=Al (K:= [A0,A1,A2,A3,A4,A5,A6,A7,A8,A9,A10,A11,A12,A13]) h
theorem sat.o(h:sat g w (A0::A1::A2::A3::A4::A5::A6::A7::A8::A9::A10::A11::A12::A13::A14::A15::L)):sat g w (A15::A0::A1::A2::A3::A4::A5::A6::A7::A8::A9::A10::A11::A12::A13::A14::L):=Al (K:= [A0,A1,A2,A3,A4,A5,A6,A7,A8,A9,A10,A11,A12,A13,A14]) h
theorem sat.u(h:sat g w (A0::A1::A2::A3::A4::A5::A6::A7::A8::A9::A10::A11::A12::A13::A14::A15::A16::A17::A18::A19::A20::A21::L)):sat g w (A21::A0::A1::A2::A3::A4::A5::A6::A7::A8::A9::A10::A11::A12::A13::A14::A15::A16::A17::A18::A19::A20::L):=Al (K:= [A0,A1,A2,A3,A4,A5,A6,A7,A8,A9,A10,A11,A12,A13,A14,A15,A16,A17,A18,A19,A20]) h
theorem sat.v(h:sat g w (A0::A1::A2::A3::A4::A5::A6::A7::A8::A9::A10::A11::A12::A13::A14::A15::A16::A17::A18::A19::A20::A21::A22::L)):sat g w (A22::A0::A1::A2::A3::A4::A5::A6::A7::A8::A9::A10::A11::A12::A13::A14::A15::A16::A17::A18::A19::A20::A21::L):=Al (K:= [A0,A1,A2,A3,A4,A5,A6,A7,A8,A9,A10,A11,A12,A13,A14,A15,A16,A17,A18,A19,A20,A21]) h
theorem sat.t1(h:sat g w (A0::L)):sat g w [A0]:=BO (K:= [A0]) h
theorem sat.t2(h:sat g w (A0::A1::L)):sat g w [A0,A1]:=BO (K:= [A0,A1]) h
theorem sat.t3(h:sat g w (A0::A1::A2::L)):sat g w [A0,A1,A2]:=BO (K:= [A0,A1,A2]) h
theorem sat.t4(h:sat g w (A0::A1::A2::A3::L)):sat g w [A0,A1,A2,A3]:=BO (K:= [A0,A1,A2,A3]) h
theorem sat.t5(h:sat g w (A0::A1::A2::A3::A4::L)):sat g w [A0,A1,A2,A3,A4]:=BO (K:= [A0,A1,A2,A3,A4]) h
theorem sat.t6(h:sat g w (A0::A1::A2::A3::A4::A5::L)):sat g w [A0,A1,A2,A3,A4,A5]:=BO (K:= [A0,A1,A2,A3,A4,A5]) h
theorem sat.t7(h:sat g w (A0::A1::A2::A3::A4::A5::A6::L)):sat g w [A0,A1,A2,A3,A4,A5,A6]:=BO (K:= [A0,A1,A2,A3,A4,A5,A6]) h
theorem sat.t8(h:sat g w (A0::A1::A2::A3::A4::A5::A6::A7::L)):sat g w [A0,A1,A2,A3,A4,A5,A6,A7]:=BO (K:= [A0,A1,A2,A3,A4,A5,A6,A7]) h
theorem sat.t9(h:sat g w (A0::A1::A2::A3::A4::A5::A6::A7::A8::L)):sat g w [A0,A1,A2,A3,A4,A5,A6,A7,A8]:=BO (K:= [A0,A1,A2,A3,A4,A5,A6,A7,A8]) h
theorem sat.t10(h:sat g w (A0::A1::A2::A3::A4::A5::A6::A7::A8::A9::L)):sat g w [A0,A1,A2,A3,A4,A5,A6,A7,A8,A9]:=BO (K:= [A0,A1,A2,A3,A4,A5,A6,A7,A8,A9]) h
theorem sat.t11(h:sat g w (A0::A1::A2::A3::A4::A5::A6::A7::A8::A9::A10::L)):sat g w [A0,A1,A2,A3,A4,A5,A6,A7,A8,A9,A10]:=BO (K:= [A0,A1,A2,A3,A4,A5,A6,A7,A8,A9,A10]) h
theorem sat.t12(h:sat g w (A0::A1::A2::A3::A4::A5::A6::A7::A8::A9::A10::A11::L)):sat g w [A0,A1,A2,A3,A4,A5,A6,A7,A8,A9,A10,A11]:=BO (K:= [A0,A1,A2,A3,A4,A5,A6,A7,A8,A9,A10,A11]) h
theorem sat.t13(h:sat g w (A0::A1::A2::A3::A4::A5::A6::A7::A8::A9::A10::A11::A12::L)):sat g w [A0,A1,A2,A3,A4,A5,A6,A7,A8,A9,A10,A11,A12]:=BO (K:= [A0,A1,A2,A3,A4,A5,A6,A7,A8,A9,A10,A11,A12]) h
theorem sat.t14(h:sat g w (A0::A1::A2::A3::A4::A5::A6::A7::A8::A9::A10::A11::A12::A13::L)):sat g w [A0,A1,A2,A3,A4,A5,A6,A7,A8,A9,A10,A11,A12,A13]:=BO (K:= [A0,A1,A2,A3,A4,A5,A6,A7,A8,A9,A10,A11,A12,A13]) h
theorem sat.t15(h:sat g w (A0::A1::A2::A3::A4::A5::A6::A7::A8::A9::A10::A11::A12::A13::A14::L)):sat g w [A0,A1,A2,A3,A4,A5,A6,A7,A8,A9,A10,A11,A12,A13,A14]:=BO (K:= [A0,A1,A2,A3,A4,A5,A6,A7,A8,A9,A10,A11,A12,A13,A14]) h
theorem sat.t16(h:sat g w (A0::A1::A2::A3::A4::A5::A6::A7::A8::A9::A10::A11::A12::A13::A14::A15::L)):sat g w [A0,A1,A2,A3,A4,A5,A6,A7,A8,A9,A10,A11,A12,A13,A14,A15]:=BO (K:= [A0,A1,A2,A3,A4,A5,A6,A7,A8,A9,A10,A11,A12,A13,A14,A15]) h
theorem sat.t19(h:sat g w (A0::A1::A2::A3::A4::A5::A6::A7::A8::A9::A10::A11::A12::A13::A14::A15::A16::A17::A18::L)):sat g w [A0,A1,A2,A3,A4,A5,A6,A7,A8,A9,A10,A11,A12,A13,A14,A15,A16,A17,A18]:=BO (K:= [A0,A1,A2,A3,A4,A5,A6,A7,A8,A9,A10,A11,A12,A13,A14,A15,A16,A17,A18]) h
theorem sat.t20(h:sat g w (A0::A1::A2::A3::A4::A5::A6::A7::A8::A9::A10::A11::A12::A13::A14::A15::A16::A17::A18::A19::L)):sat g w [A0,A1,A2,A3,A4,A5,A6,A7,A8,A9,A10,A11,A12,A13,A14,A15,A16,A17,A18,A19]:=BO (K:= [A0,A1,A2,A3,A4,A5,A6,A7,A8,A9,A10,A11,A12,A13,A14,A15,A16,A17,A18,A19]) h
theorem sat.t23(h:sat g w (A0::A1::A2::A3::A4::A5::A6::A7::A8::A9::A10::A11::A12::A13::A14::A15::A16::A17::A18::A19::A20::A21::A22::L)):sat g w [A0,A1,A2,A3,A4,A5,A6,A7,A8,A9,A10,A11,A12,A13,A14,A15,A16,A17,A18,A19,A20,A21,A22]:=BO (K:= [A0,A1,A2,A3,A4,A5,A6,A7,A8,A9,A10,A11,A12,A13,A14,A15,A16,A17,A18,A19,A20,A21,A22]) h
theorem sat.B(h:sat g w (A0::A1::L)):sat g w (A0::L):=Ar (Al (K:= [A0]) h)
theorem sat.C(h:sat g w (A0::A1::A2::L)):sat g w (A0::A1::L):=Ar (Al (K:= [A0,A1]) h)
theorem sat.D(h:sat g w (A0::A1::A2::A3::L)):sat g w (A0::A1::A2::L):=Ar (Al (K:= [A0,A1,A2]) h)
theorem sat.E(h:sat g w (A0::A1::A2::A3::A4::L)):sat g w (A0::A1::A2::A3::L):=Ar (Al (K:= [A0,A1,A2,A3]) h)
theorem sat.F(h:sat g w (A0::A1::A2::A3::A4::A5::L)):sat g w (A0::A1::A2::A3::A4::L):=Ar (Al (K:= [A0,A1,A2,A3,A4]) h)
theorem sat.J(h:sat g w (A0::A1::A2::A3::A4::A5::A6::A7::A8::A9::L)):sat g w (A0::A1::A2::A3::A4::A5::A6::A7::A8::L):=Ar (Al (K:= [A0,A1,A2,A3,A4,A5,A6,A7,A8]) h)
theorem sf1(h:sat g w (A0::A1::L)):sat g w (A1::A0::L):=Al (K:= [A0]) h
theorem sf2(h:sat g w (A0::A1::A2::L)):sat g w (A2::A0::A1::L):=Al (K:= [A0,A1]) h
theorem sf3(h:sat g w (A0::A1::A2::A3::L)):sat g w (A3::A0::A1::A2::L):=Al (K:= [A0,A1,A2]) h
theorem sf4(h:sat g w (A0::A1::A2::A3::A4::L)):sat g w (A4::A0::A1::A2::A3::L):=Al (K:= [A0,A1,A2,A3]) h
theorem sf5(h:sat g w (A0::A1::A2::A3::A4::A5::L)):sat g w (A5::A0::A1::A2::A3::A4::L):=Al (K:= [A0,A1,A2,A3,A4]) h
theorem O5(h:sat g w (A0::A1::A2::A3::A4::A5::A6::L)):sat g w (A6::A0::A1::A2::A3::A4::A5::L):=Al (K:= [A0,A1,A2,A3,A4,A5]) h
theorem sf7(h:sat g w (A0::A1::A2::A3::A4::A5::A6::A7::L)):sat g w (A7::A0::A1::A2::A3::A4::A5::A6::L):=Al (K:= [A0,A1,A2,A3,A4,A5,A6]) h
theorem yC(h:sat g w (A0::A1::A2::A3::A4::A5::A6::A7::A8::L)):sat g w (A8::A0::A1::A2::A3::A4::A5::A6::A7::L):=Al (K:= [A0,A1,A2,A3,A4,A5,A6,A7]) h
theorem sf9(h:sat g w (A0::A1::A2::A3::A4::A5::A6::A7::A8::A9::L)):sat g w (A9::A0::A1::A2::A3::A4::A5::A6::A7::A8::L):=Al (K:= [A0,A1,A2,A3,A4,A5,A6,A7,A8]) h
theorem AaG(h:sat g w (A0::A1::A2::A3::A4::A5::A6::A7::A8::A9::A10::L)):sat g w (A10::A0::A1::A2::A3::A4::A5::A6::A7::A8::A9::L):=Al (K:= [A0,A1,A2,A3,A4,A5,A6,A7,A8,A9]) h
theorem AaH(h:sat g w (A0::A1::A2::A3::A4::A5::A6::A7::A8::A9::A10::A11::L)):sat g w (A11::A0::A1::A2::A3::A4::A5::A6::A7::A8::A9::A10::L):=Al (K:= [A0,A1,A2,A3,A4,A5,A6,A7,A8,A9,A10]) h
theorem AaI(h:sat g w (A0::A1::A2::A3::A4::A5::A6::A7::A8::A9::A10::A11::A12::L)):sat g w (A12::A0::A1::A2::A3::A4::A5::A6::A7::A8::A9::A10::A11::L):=Al (K:= [A0,A1,A2,A3,A4,A5,A6,A7,A8,A9,A10,A11]) h
theorem AaJ(h:sat g w (A0::A1::A2::A3::A4::A5::A6::A7::A8::A9::A10::A11::A12::A13::L)):sat g w (A13::A0::A1::A2::A3::A4::A5::A6::A7::A8::A9::A10::A11::A12::L):=Al (K:= [A0,A1,A2,A3,A4,A5,A6,A7,A8,A9,A10,A11,A12]) h
theorem AaK(h:sat g w (A0::A1::A2::A3::A4::A5::A6::A7::A8::A9::A10::A11::A12::A13::A14::L)):sat g w (A14::A0::A1::A2::A3::A4::A5::A6::A7::A8::A9::A10::A11::A12::A13::L):=Al (K:= [A0,A1,A2,A3,A4,A5,A6,A7,A8,A9,A10,A11,A12,A13]) h
theorem tk2(h:sat g w (A0::A1::L)):sat g w [A0,A1]:=BO (K:= [A0,A1]) h
theorem tk3(h:sat g w (A0::A1::A2::L)):sat g w [A0,A1,A2]:=BO (K:= [A0,A1,A2]) h
theorem tk4(h:sat g w (A0::A1::A2::A3::L)):sat g w [A0,A1,A2,A3]:=BO (K:= [A0,A1,A2,A3]) h
theorem tk5(h:sat g w (A0::A1::A2::A3::A4::L)):sat g w [A0,A1,A2,A3,A4]:=BO (K:= [A0,A1,A2,A3,A4]) h
theorem tk6(h:sat g w (A0::A1::A2::A3::A4::A5::L)):sat g w [A0,A1,A2,A3,A4,A5]:=BO (K:= [A0,A1,A2,A3,A4,A5]) h
theorem yE(h:sat g w (A0::A1::A2::A3::A4::A5::A6::L)):sat g w [A0,A1,A2,A3,A4,A5,A6]:=BO (K:= [A0,A1,A2,A3,A4,A5,A6]) h
theorem tk8(h:sat g w (A0::A1::A2::A3::A4::A5::A6::A7::L)):sat g w [A0,A1,A2,A3,A4,A5,A6,A7]:=BO (K:= [A0,A1,A2,A3,A4,A5,A6,A7]) h
theorem tk9(h:sat g w (A0::A1::A2::A3::A4::A5::A6::A7::A8::L)):sat g w [A0,A1,A2,A3,A4,A5,A6,A7,A8]:=BO (K:= [A0,A1,A2,A3,A4,A5,A6,A7,A8]) h
theorem AaL(h:sat g w (A0::A1::A2::A3::A4::A5::A6::A7::A8::A9::L)):sat g w [A0,A1,A2,A3,A4,A5,A6,A7,A8,A9]:=BO (K:= [A0,A1,A2,A3,A4,A5,A6,A7,A8,A9]) h
theorem AaM(h:sat g w (A0::A1::A2::A3::A4::A5::A6::A7::A8::A9::A10::L)):sat g w [A0,A1,A2,A3,A4,A5,A6,A7,A8,A9,A10]:=BO (K:= [A0,A1,A2,A3,A4,A5,A6,A7,A8,A9,A10]) h
theorem AaN(h:sat g w (A0::A1::A2::A3::A4::A5::A6::A7::A8::A9::A10::A11::L)):sat g w [A0,A1,A2,A3,A4,A5,A6,A7,A8,A9,A10,A11]:=BO (K:= [A0,A1,A2,A3,A4,A5,A6,A7,A8,A9,A10,A11]) h
theorem AaO(h:sat g w (A0::A1::A2::A3::A4::A5::A6::A7::A8::A9::A10::A11::A12::L)):sat g w [A0,A1,A2,A3,A4,A5,A6,A7,A8,A9,A10,A11,A12]:=BO (K:= [A0,A1,A2,A3,A4,A5,A6,A7,A8,A9,A10,A11,A12]) h
theorem ap0(h:sat g w ([]++L)):sat g w L:=h
theorem B3(h:sat g w ([A0]++L)):sat g w (A0::L):=h
theorem CW(h:sat g w ([A0,A1]++L)):sat g w (A0::A1::L):=h
theorem MG(h:sat g w ([A0,A1,A2]++L)):sat g w (A0::A1::A2::L):=h
theorem Wx(h:sat g w ([A0,A1,A2,A3]++L)):sat g w (A0::A1::A2::A3::L):=h
theorem ap5(h:sat g w ([A0,A1,A2,A3,A4]++L)):sat g w (A0::A1::A2::A3::A4::L):=h
theorem ap6(h:sat g w ([A0,A1,A2,A3,A4,A5]++L)):sat g w (A0::A1::A2::A3::A4::A5::L):=h
theorem IW(h:sat g w ([A0,A1,A2,A3,A4,A5,A6]++L)):sat g w (A0::A1::A2::A3::A4::A5::A6::L):=h
end
end Go.Proofs.YtcgkoffnknpgjaaGreatDoor

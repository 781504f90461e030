/-
  Shorter forms still: what the kernel reckons is filled in by itself. No program in sight.
-/
import Derived.Test.YtcgkoffnknpgjaaGreatDoorShr
namespace Go.Proofs.YtcgkoffnknpgjaaGreatDoor
set_option linter.unusedVariables false
set_option linter.unusedSimpArgs false
abbrev e0(i:Nat):Ent:=⟨i,[],none⟩
abbrev e1(i:Nat)(v:Value):Ent:=⟨i,[],some v⟩
abbrev e2(i:Nat)(ls:List Value):Ent:=⟨i,ls,none⟩
theorem nC{w:World}:AllC w []:=AllC_nil w
theorem kC{w:World}{i:Nat}{a:Addr}{v:Value}{r:List Pt}(h:w.cell? a=some v)(hr:AllC w r):AllC w ((i,a,v)::r):=AllC_cons h hr
def isBlk(f:Func)(p:List Nat)(id:Nat):Bool:=match CA f p with | .block i _=>i==id|_=>false
section
variable {r : Option Nat} {P : Program} {Q : Exit → Act → World → Prop} {a : Act} {w : World} {f : Func} {p : List Nat} {ds : List Deferred} {n : Nat} {l : Fr} {c : Code}
theorem ySq(h:WP r P (CA f (p++ [0])) (Exit.then (WP r P (CA f (p++ [1])) Q) Q) a w)(e:isSeq f p=true:=by kernel_rfl):WP r P (CA f p) Q a w:=zSq e h
theorem yPl(is:List Nat)(h:PO P (RA f p) Q is (mkd ds n l) w)(e:isPln f p is=true:=by kernel_rfl):WP r P (CA f p) Q (mkd ds n l) w:=zPl is e h
theorem yCt(h:WP r P (CA f (p++ [0])) Q (mkd ds n l) w)(e:isCnd f p n l true=true:=by kernel_rfl):WP r P (CA f p) Q (mkd ds n l) w:=zCt e h
theorem yCf(h:WP r P (CA f (p++ [1])) Q (mkd ds n l) w)(e:isCnd f p n l false=true:=by kernel_rfl):WP r P (CA f p) Q (mkd ds n l) w:=zCf e h
theorem yBk(id:Nat)(h:WP r P (CA f (p++ [0])) (Exit.inBlock id Q) a w)(e:isBlk f p id=true:=by kernel_rfl):WP r P (CA f p) Q a w:=by
 rw[ca_app] at h
 unfold isBlk at e
 split at e
 · rename_i i x e1
   obtain rfl:i=id:=by simpa using e
   rw[e1] at h ⊢
   exact gi_blk rfl h
 · cases e
theorem ySk(h:Q .normal a w)(e:c= .skip:=by kernel_rfl):WP r P c Q a w:=gi_skp e h
theorem yRt(h:Q .ret a w)(e:c= .ret:=by kernel_rfl):WP r P c Q a w:=gi_rt e h
theorem yEx(id:Nat)(h:Q (.exit id) a w)(e:c= .exit id:=by kernel_rfl):WP r P c Q a w:=gi_ext e h
theorem yK(live:Fr)(hx: ∀lr,WP r P c Q (mkd ds n (live++lr)) w)(h:(live.map fun q=>lk l q.1)=live.map (fun q=>q.2):=by kernel_rfl):WP r P c Q (mkd ds n l) w:=fk_cut live h (fun a=>WP r P c Q a w) hx
end
section
variable {P : Program} {ops : Array Oper} {Q : Exit → Act → World → Prop} {ds : List Deferred} {n : Nat} {l : Fr} {w : World} {rest : List Nat}
theorem yB0(rest is:List Nat)(hd:Fr)(hr:PO P ops Q rest (mkd ds n (hd++l)) w)(h:chkB P ops n l (zEz is)=some (hd++l,[],[]):=by kernel_rfl):PO P ops Q (is++rest) (mkd ds n l) w:=zB0 rest is hd h hr
theorem yBb(rest:List Nat)(hd:Fr)(b:List Ent)(pts:List Pt)(eqs:List (Value×Value))(he:AllE eqs)(hc:AllC w pts)(hr:PO P ops Q rest (mkd ds n (hd++l)) w)(h:chkB P ops n l b=some (hd++l,pts,eqs):=by kernel_rfl):PO P ops Q (b.map (·.i)++rest) (mkd ds n l) w:=zBb rest hd b pts eqs h he hc hr
theorem yA{i:Nat}(hr:OP P (opA ops i) (mkd ds n l) w (PO P ops Q rest) Q)(h:chkA ops n l i=true:=by kernel_rfl):PO P ops Q (i::rest) (mkd ds n l) w:=plain_act h hr
theorem yD(t:Tr)(hd:Fr)(b:List Ent)(pts':List Pt)(eqs:List (Value×Value)){pts:List Pt}(he:AllE eqs)(hc:AllC w pts')(hr:RW P ops Q t (pts'++pts) (mkd ds n (hd++l)) w)(h:chkB P ops n l b=some (hd++l,pts',eqs):=by kernel_rfl):RW P ops Q (fls (b.map (·.i)) t) pts (mkd ds n l) w:=draw_batch b h he hc hr
end
section
variable {P : Program} {Q : Exit → Act → World → Prop} {g w : World} {n : Nat} {l : Fr} {o : Oper} {ds : List Deferred} {N : Act → World → Prop} {L : List Assn}
theorem yCl(d:Nat){f:FuncId}{args:List Value}{Pre F:List Assn}{Post:Value→List Assn→Prop}(hcf: ∀a w,(callFunc f a).run P w= .ok (.enter f a) w)(hT:HT P f args Pre Post)(hs:sat g w (Pre++F))
(k: ∀v K w',Post v K→sat g w' (K++F)→ ∃l',putF n l (some d) v=some l'∧N (mkd ds n l') w')(h:chkCall o n l=some (some d,f,args):=by kernel_rfl):OP P o (mkd ds n l) w N Q:=an_call h hcf hT hs k
theorem yNp(d t:Nat)(cs:List Value)(hs:sat g w L)(k: ∀r w',sat g w' (Cl r cs t::L)→N (mkd ds n ((d,pV r)::l)) w')(hr: ∀r,ansN P (execOp (fe n l) o) r=some (.value (pV r),.cells cs.toArray t (0,0)):=by intro _;kernel_rfl)(hd:o.dst=some d:=by kernel_rfl)(hn:Nat.blt d n=true:=by exact rfl):OP P o (mkd ds n l) w N Q:=
 an_new (fun r=>pV r) (fun _=>Obj.cells cs.toArray t (0,0)) hr hd hn hs k
theorem yS{b:Nat}{cs:List Value}{t:TypeId}(ks:List (Nat×Value))(cs':List Value)(hs:sat g w (Cl b cs t::L))(k: ∀w',sat g w' (Cl b cs' t::L)→N (mkd ds n l) w')(hr:ansS P (execOp (fe n l) o)=some (.skip,ks.map fun q=>((⟨b,q.1,none⟩:Addr),q.2)):=by kernel_rfl)(hd:o.dst=none:=by kernel_rfl)
 (hk:(ks.all fun q=>Nat.blt q.1 cs.length&&q.2.oneCell')=true:=by kernel_rfl)(hcs:setL cs ks=cs':=by kernel_rfl):OP P o (mkd ds n l) w N Q:=
 an_store ks hr hd (fun q hq=>by
  have:=List.all_eq_true.1 hk q hq
  rw[Bool.and_eq_true,nat_blt,decide_eq_true_eq] at this
  exact this) hcs hs k
end
theorem sat_sx{g w:World}{A B:Assn}{L:List Assn}(h:sat g w (A::B::L)):sat g w (B::A::L):=by
 obtain⟨s,Z,hZ,ok,pw⟩:=h
 match Z,hZ with
 |z1::z2::Z,hZ=>
  simp only[List.map_cons,List.cons.injEq] at hZ
  refine⟨s,z2::z1::Z,by simp[hZ.1,hZ.2.1,hZ.2.2],fun z hz=>ok z ?_,?_⟩
  · simp only[List.mem_cons] at hz ⊢
    rcases hz with h1|h1|h1
    · exact .inr (.inl h1)
    · exact .inl h1
    · exact .inr (.inr h1)
  · obtain⟨h1,h2⟩:=List.pairwise_cons.1 pw
    obtain⟨h3,h4⟩:=List.pairwise_cons.1 h2
    refine List.pairwise_cons.2 ⟨fun z hz=> ?_,List.pairwise_cons.2 ⟨fun z hz=>h1 z (List.mem_cons_of_mem _ hz),h4⟩⟩
    rcases List.mem_cons.1 hz with rfl |hz
    · exact(h1 z2 List.mem_cons_self).symm
    · exact h3 z hz
section
variable {g w : World}
theorem sat_mid{K L:List Assn}{A:Assn}(h:sat g w (K++A::L)):sat g w (A::(K++L)):=by
 have h1:=sat_rot (A:= [A]) (B:=star K::L) (sat_sx (sat_star h))
 have h2:sat g w (K++(L++ [A])):=sat_unstar h1
 rw[←List.append_assoc] at h2
 exact sat_rot h2
theorem sat_hd{K L:List Assn}(h:sat g w (K++L)):sat g w K:=sat_sel_tail (sat_star (sat_rot h))
variable {A0 A1 A2 A3 A4 A5 A6 A7 A8 A9 A10 A11 A12 A13 A14 A15 A16 A17 A18 A19 A20 A21 A22 A23 A24 A25 : Assn} {L : List Assn}
theorem sat.a(h:sat g w (A0::A1::L)):sat g w (A1::A0::L):=sat_mid (K:= [A0]) h
theorem sat.b(h:sat g w (A0::A1::A2::L)):sat g w (A2::A0::A1::L):=sat_mid (K:= [A0,A1]) h
theorem sat.c(h:sat g w (A0::A1::A2::A3::L)):sat g w (A3::A0::A1::A2::L):=sat_mid (K:= [A0,A1,A2]) h
theorem sat.d(h:sat g w (A0::A1::A2::A3::A4::L)):sat g w (A4::A0::A1::A2::A3::L):=sat_mid (K:= [A0,A1,A2,A3]) h
theorem sat.e(h:sat g w (A0::A1::A2::A3::A4::A5::L)):sat g w (A5::A0::A1::A2::A3::A4::L):=sat_mid (K:= [A0,A1,A2,A3,A4]) h
theorem sat.f(h:sat g w (A0::A1::A2::A3::A4::A5::A6::L)):sat g w (A6::A0::A1::A2::A3::A4::A5::L):=sat_mid (K:= [A0,A1,A2,A3,A4,A5]) h
theorem sat.x(h:sat g w (A0::A1::A2::A3::A4::A5::A6::A7::L)):sat g w (A7::A0::A1::A2::A3::A4::A5::A6::L):=sat_mid (K:= [A0,A1,A2,A3,A4,A5,A6]) h
theorem sat.h(h:sat g w (A0::A1::A2::A3::A4::A5::A6::A7::A8::L)):sat g w (A8::A0::A1::A2::A3::A4::A5::A6::A7::L):=sat_mid (K:= [A0,A1,A2,A3,A4,A5,A6,A7]) h
theorem sat.i(h:sat g w (A0::A1::A2::A3::A4::A5::A6::A7::A8::A9::L)):sat g w (A9::A0::A1::A2::A3::A4::A5::A6::A7::A8::L):=sat_mid (K:= [A0,A1,A2,A3,A4,A5,A6,A7,A8]) h
theorem sat.j(h:sat g w (A0::A1::A2::A3::A4::A5::A6::A7::A8::A9::A10::L)):sat g w (A10::A0::A1::A2::A3::A4::A5::A6::A7::A8::A9::L):=sat_mid (K:= [A0,A1,A2,A3,A4,A5,A6,A7,A8,A9]) h
theorem sat.k(h:sat g w (A0::A1::A2::A3::A4::A5::A6::A7::A8::A9::A10::A11::L)):sat g w (A11::A0::A1::A2::A3::A4::A5::A6::A7::A8::A9::A10::L):=sat_mid (K:= [A0,A1,A2,A3,A4,A5,A6,A7,A8,A9,A10]) h
theorem sat.l(h:sat g w (A0::A1::A2::A3::A4::A5::A6::A7::A8::A9::A10::A11::A12::L)):sat g w (A12::A0::A1::A2::A3::A4::A5::A6::A7::A8::A9::A10::A11::L):=sat_mid (K:= [A0,A1,A2,A3,A4,A5,A6,A7,A8,A9,A10,A11]) h
theorem sat.m(h:sat g w (A0::A1::A2::A3::A4::A5::A6::A7::A8::A9::A10::A11::A12::A13::L)):sat g w (A13::A0::A1::A2::A3::A4::A5::A6::A7::A8::A9::A10::A11::A12::L):=sat_mid (K:= [A0,A1,A2,A3,A4,A5,A6,A7,A8,A9,A10,A11,A12]) h
theorem sat.n(h:sat g w (A0::A1::A2::A3::A4::A5::A6::A7::A8::A9::A10::A11::A12::A13::A14::L)):sat g w (A14::A0::A1::A2::A3::A4::A5::A6::A7::A8::A9::A10::A11::A12::A13::L):=sat_mid (K:= [A0,A1,A2,A3,A4,A5,A6,A7,A8,A9,A10,A11,A12,A13]) h
theorem sat.p(h:sat g w (A0::A1::A2::A3::A4::A5::A6::A7::A8::A9::A10::A11::A12::A13::A14::A15::A16::L)):sat g w (A16::A0::A1::A2::A3::A4::A5::A6::A7::A8::A9::A10::A11::A12::A13::A14::A15::L):=sat_mid (K:= [A0,A1,A2,A3,A4,A5,A6,A7,A8,A9,A10,A11,A12,A13,A14,A15]) h
theorem sat.t1(h:sat g w (A0::L)):sat g w [A0]:=sat_hd (K:= [A0]) h
theorem sat.t2(h:sat g w (A0::A1::L)):sat g w [A0,A1]:=sat_hd (K:= [A0,A1]) h
theorem sat.t3(h:sat g w (A0::A1::A2::L)):sat g w [A0,A1,A2]:=sat_hd (K:= [A0,A1,A2]) h
theorem sat.t4(h:sat g w (A0::A1::A2::A3::L)):sat g w [A0,A1,A2,A3]:=sat_hd (K:= [A0,A1,A2,A3]) h
theorem sat.t5(h:sat g w (A0::A1::A2::A3::A4::L)):sat g w [A0,A1,A2,A3,A4]:=sat_hd (K:= [A0,A1,A2,A3,A4]) h
theorem sat.t6(h:sat g w (A0::A1::A2::A3::A4::A5::L)):sat g w [A0,A1,A2,A3,A4,A5]:=sat_hd (K:= [A0,A1,A2,A3,A4,A5]) h
theorem sat.t7(h:sat g w (A0::A1::A2::A3::A4::A5::A6::L)):sat g w [A0,A1,A2,A3,A4,A5,A6]:=sat_hd (K:= [A0,A1,A2,A3,A4,A5,A6]) h
theorem sat.t8(h:sat g w (A0::A1::A2::A3::A4::A5::A6::A7::L)):sat g w [A0,A1,A2,A3,A4,A5,A6,A7]:=sat_hd (K:= [A0,A1,A2,A3,A4,A5,A6,A7]) h
theorem sat.t9(h:sat g w (A0::A1::A2::A3::A4::A5::A6::A7::A8::L)):sat g w [A0,A1,A2,A3,A4,A5,A6,A7,A8]:=sat_hd (K:= [A0,A1,A2,A3,A4,A5,A6,A7,A8]) h
theorem sat.t10(h:sat g w (A0::A1::A2::A3::A4::A5::A6::A7::A8::A9::L)):sat g w [A0,A1,A2,A3,A4,A5,A6,A7,A8,A9]:=sat_hd (K:= [A0,A1,A2,A3,A4,A5,A6,A7,A8,A9]) h
theorem sat.t11(h:sat g w (A0::A1::A2::A3::A4::A5::A6::A7::A8::A9::A10::L)):sat g w [A0,A1,A2,A3,A4,A5,A6,A7,A8,A9,A10]:=sat_hd (K:= [A0,A1,A2,A3,A4,A5,A6,A7,A8,A9,A10]) h
theorem sat.t12(h:sat g w (A0::A1::A2::A3::A4::A5::A6::A7::A8::A9::A10::A11::L)):sat g w [A0,A1,A2,A3,A4,A5,A6,A7,A8,A9,A10,A11]:=sat_hd (K:= [A0,A1,A2,A3,A4,A5,A6,A7,A8,A9,A10,A11]) h
theorem sat.t13(h:sat g w (A0::A1::A2::A3::A4::A5::A6::A7::A8::A9::A10::A11::A12::L)):sat g w [A0,A1,A2,A3,A4,A5,A6,A7,A8,A9,A10,A11,A12]:=sat_hd (K:= [A0,A1,A2,A3,A4,A5,A6,A7,A8,A9,A10,A11,A12]) h
theorem sat.t14(h:sat g w (A0::A1::A2::A3::A4::A5::A6::A7::A8::A9::A10::A11::A12::A13::L)):sat g w [A0,A1,A2,A3,A4,A5,A6,A7,A8,A9,A10,A11,A12,A13]:=sat_hd (K:= [A0,A1,A2,A3,A4,A5,A6,A7,A8,A9,A10,A11,A12,A13]) h
theorem sat.t15(h:sat g w (A0::A1::A2::A3::A4::A5::A6::A7::A8::A9::A10::A11::A12::A13::A14::L)):sat g w [A0,A1,A2,A3,A4,A5,A6,A7,A8,A9,A10,A11,A12,A13,A14]:=sat_hd (K:= [A0,A1,A2,A3,A4,A5,A6,A7,A8,A9,A10,A11,A12,A13,A14]) h
theorem sat.t16(h:sat g w (A0::A1::A2::A3::A4::A5::A6::A7::A8::A9::A10::A11::A12::A13::A14::A15::L)):sat g w [A0,A1,A2,A3,A4,A5,A6,A7,A8,A9,A10,A11,A12,A13,A14,A15]:=sat_hd (K:= [A0,A1,A2,A3,A4,A5,A6,A7,A8,A9,A10,A11,A12,A13,A14,A15]) h
theorem sat.t17(h:sat g w (A0::A1::A2::A3::A4::A5::A6::A7::A8::A9::A10::A11::A12::A13::A14::A15::A16::L)):sat g w [A0,A1,A2,A3,A4,A5,A6,A7,A8,A9,A10,A11,A12,A13,A14,A15,A16]:=sat_hd (K:= [A0,A1,A2,A3,A4,A5,A6,A7,A8,A9,A10,A11,A12,A13,A14,A15,A16]) h
theorem sat.B(h:sat g w (A0::A1::L)):sat g w (A0::L):=sat_sel_tail (sat_mid (K:= [A0]) h)
theorem sat.C(h:sat g w (A0::A1::A2::L)):sat g w (A0::A1::L):=sat_sel_tail (sat_mid (K:= [A0,A1]) h)
theorem sat.D(h:sat g w (A0::A1::A2::A3::L)):sat g w (A0::A1::A2::L):=sat_sel_tail (sat_mid (K:= [A0,A1,A2]) h)
theorem sat.E(h:sat g w (A0::A1::A2::A3::A4::L)):sat g w (A0::A1::A2::A3::L):=sat_sel_tail (sat_mid (K:= [A0,A1,A2,A3]) h)
theorem sat.F(h:sat g w (A0::A1::A2::A3::A4::A5::L)):sat g w (A0::A1::A2::A3::A4::L):=sat_sel_tail (sat_mid (K:= [A0,A1,A2,A3,A4]) h)
theorem sat.J(h:sat g w (A0::A1::A2::A3::A4::A5::A6::A7::A8::A9::L)):sat g w (A0::A1::A2::A3::A4::A5::A6::A7::A8::L):=sat_sel_tail (sat_mid (K:= [A0,A1,A2,A3,A4,A5,A6,A7,A8]) h)
theorem sf1(h:sat g w (A0::A1::L)):sat g w (A1::A0::L):=sat_mid (K:= [A0]) h
theorem sf2(h:sat g w (A0::A1::A2::L)):sat g w (A2::A0::A1::L):=sat_mid (K:= [A0,A1]) h
theorem sf3(h:sat g w (A0::A1::A2::A3::L)):sat g w (A3::A0::A1::A2::L):=sat_mid (K:= [A0,A1,A2]) h
theorem sf4(h:sat g w (A0::A1::A2::A3::A4::L)):sat g w (A4::A0::A1::A2::A3::L):=sat_mid (K:= [A0,A1,A2,A3]) h
theorem sf5(h:sat g w (A0::A1::A2::A3::A4::A5::L)):sat g w (A5::A0::A1::A2::A3::A4::L):=sat_mid (K:= [A0,A1,A2,A3,A4]) h
theorem sf6(h:sat g w (A0::A1::A2::A3::A4::A5::A6::L)):sat g w (A6::A0::A1::A2::A3::A4::A5::L):=sat_mid (K:= [A0,A1,A2,A3,A4,A5]) h
theorem sf7(h:sat g w (A0::A1::A2::A3::A4::A5::A6::A7::L)):sat g w (A7::A0::A1::A2::A3::A4::A5::A6::L):=sat_mid (K:= [A0,A1,A2,A3,A4,A5,A6]) h
theorem sf8(h:sat g w (A0::A1::A2::A3::A4::A5::A6::A7::A8::L)):sat g w (A8::A0::A1::A2::A3::A4::A5::A6::A7::L):=sat_mid (K:= [A0,A1,A2,A3,A4,A5,A6,A7]) h
theorem sf9(h:sat g w (A0::A1::A2::A3::A4::A5::A6::A7::A8::A9::L)):sat g w (A9::A0::A1::A2::A3::A4::A5::A6::A7::A8::L):=sat_mid (K:= [A0,A1,A2,A3,A4,A5,A6,A7,A8]) h
theorem sf10(h:sat g w (A0::A1::A2::A3::A4::A5::A6::A7::A8::A9::A10::L)):sat g w (A10::A0::A1::A2::A3::A4::A5::A6::A7::A8::A9::L):=sat_mid (K:= [A0,A1,A2,A3,A4,A5,A6,A7,A8,A9]) h
theorem sf11(h:sat g w (A0::A1::A2::A3::A4::A5::A6::A7::A8::A9::A10::A11::L)):sat g w (A11::A0::A1::A2::A3::A4::A5::A6::A7::A8::A9::A10::L):=sat_mid (K:= [A0,A1,A2,A3,A4,A5,A6,A7,A8,A9,A10]) h
theorem sf12(h:sat g w (A0::A1::A2::A3::A4::A5::A6::A7::A8::A9::A10::A11::A12::L)):sat g w (A12::A0::A1::A2::A3::A4::A5::A6::A7::A8::A9::A10::A11::L):=sat_mid (K:= [A0,A1,A2,A3,A4,A5,A6,A7,A8,A9,A10,A11]) h
theorem sf13(h:sat g w (A0::A1::A2::A3::A4::A5::A6::A7::A8::A9::A10::A11::A12::A13::L)):sat g w (A13::A0::A1::A2::A3::A4::A5::A6::A7::A8::A9::A10::A11::A12::L):=sat_mid (K:= [A0,A1,A2,A3,A4,A5,A6,A7,A8,A9,A10,A11,A12]) h
theorem tk2(h:sat g w (A0::A1::L)):sat g w [A0,A1]:=sat_hd (K:= [A0,A1]) h
theorem tk3(h:sat g w (A0::A1::A2::L)):sat g w [A0,A1,A2]:=sat_hd (K:= [A0,A1,A2]) h
theorem tk4(h:sat g w (A0::A1::A2::A3::L)):sat g w [A0,A1,A2,A3]:=sat_hd (K:= [A0,A1,A2,A3]) h
theorem tk5(h:sat g w (A0::A1::A2::A3::A4::L)):sat g w [A0,A1,A2,A3,A4]:=sat_hd (K:= [A0,A1,A2,A3,A4]) h
theorem tk6(h:sat g w (A0::A1::A2::A3::A4::A5::L)):sat g w [A0,A1,A2,A3,A4,A5]:=sat_hd (K:= [A0,A1,A2,A3,A4,A5]) h
theorem tk7(h:sat g w (A0::A1::A2::A3::A4::A5::A6::L)):sat g w [A0,A1,A2,A3,A4,A5,A6]:=sat_hd (K:= [A0,A1,A2,A3,A4,A5,A6]) h
theorem tk8(h:sat g w (A0::A1::A2::A3::A4::A5::A6::A7::L)):sat g w [A0,A1,A2,A3,A4,A5,A6,A7]:=sat_hd (K:= [A0,A1,A2,A3,A4,A5,A6,A7]) h
theorem tk9(h:sat g w (A0::A1::A2::A3::A4::A5::A6::A7::A8::L)):sat g w [A0,A1,A2,A3,A4,A5,A6,A7,A8]:=sat_hd (K:= [A0,A1,A2,A3,A4,A5,A6,A7,A8]) h
theorem tk10(h:sat g w (A0::A1::A2::A3::A4::A5::A6::A7::A8::A9::L)):sat g w [A0,A1,A2,A3,A4,A5,A6,A7,A8,A9]:=sat_hd (K:= [A0,A1,A2,A3,A4,A5,A6,A7,A8,A9]) h
theorem tk11(h:sat g w (A0::A1::A2::A3::A4::A5::A6::A7::A8::A9::A10::L)):sat g w [A0,A1,A2,A3,A4,A5,A6,A7,A8,A9,A10]:=sat_hd (K:= [A0,A1,A2,A3,A4,A5,A6,A7,A8,A9,A10]) h
theorem tk13(h:sat g w (A0::A1::A2::A3::A4::A5::A6::A7::A8::A9::A10::A11::A12::L)):sat g w [A0,A1,A2,A3,A4,A5,A6,A7,A8,A9,A10,A11,A12]:=sat_hd (K:= [A0,A1,A2,A3,A4,A5,A6,A7,A8,A9,A10,A11,A12]) h
theorem ap0(h:sat g w ([]++L)):sat g w L:=h
theorem ap1(h:sat g w ([A0]++L)):sat g w (A0::L):=h
theorem ap2(h:sat g w ([A0,A1]++L)):sat g w (A0::A1::L):=h
theorem ap3(h:sat g w ([A0,A1,A2]++L)):sat g w (A0::A1::A2::L):=h
theorem ap4(h:sat g w ([A0,A1,A2,A3]++L)):sat g w (A0::A1::A2::A3::L):=h
theorem ap5(h:sat g w ([A0,A1,A2,A3,A4]++L)):sat g w (A0::A1::A2::A3::A4::L):=h
theorem ap7(h:sat g w ([A0,A1,A2,A3,A4,A5,A6]++L)):sat g w (A0::A1::A2::A3::A4::A5::A6::L):=h
end
end Go.Proofs.YtcgkoffnknpgjaaGreatDoor

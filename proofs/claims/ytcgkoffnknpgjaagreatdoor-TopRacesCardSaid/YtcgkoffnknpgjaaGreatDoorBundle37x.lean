/- Walks, printed by my generator t2.py. -/
import Derived.Test.YtcgkoffnknpgjaaGreatDoorBundle36x
namespace Go.Proofs.YtcgkoffnknpgjaaGreatDoor
set_option linter.unusedVariables false
set_option linter.unusedSimpArgs false
open Tryz
set_option maxHeartbeats 4000000
def UV(b n m:Nat)(A:List AM)(ob hb t gb p0:Nat)(ps:List Nat)(rs rg:Int):List AB:= [Cl b [pV ob,iV n,iV m,pV p0,sp ps 0,sp ps 1,sp ps 2,pV gb] 149,Cl ob [pV hb] 143,Cl hb (pV t::iV n::fl Ce F256) 237,Tb t n A,Cl gb [Value.bool true,iV 0,uV 0,iV 0,uV 0,iV 0,uV 0,iV 0,uV 0,iV 0,uV 0,iV 0,uV 0,iV 0,uV 0,iV 0,uV 0] 241,Cl p0 ([Value.bool true,iV 0,iV rs,uV rg]++(List.replicate 31 [iV 0,uV 0]).flatten) 244,Bs ([Value.bool true,iV 0]++(List.replicate 32 [iV 0,uV 0]).flatten) 244 ps]
def B2(b n m:Nat)(A:List AM):AB:=fun h=> ∃ob:Nat,∃hb:Nat,∃t:Nat,∃gb:Nat,∃p0:Nat,∃ps:List Nat,∃rs:Int,∃rg:Int,(m=ps.length+1)∧(m≤4)∧(1≤n)∧(n≤256)∧(AJ 1 A 0= [])∧Aj (UV b n m A ob hb t gb p0 ps rs rg) h
theorem ER{g w:World}{L_:List AB}{b:Nat}{n:Nat}{m:Nat}{A:List AM}(h:sat g w (B2 b n m A::L_)): ∃ob:Nat,∃hb:Nat,∃t:Nat,∃gb:Nat,∃a:Nat,∃ps:List Nat,∃rs:Int,∃rg:Int,(m=ps.length+1)∧(m≤4)∧(1≤n)∧(n≤256)∧(AJ 1 A 0= [])∧sat g w (UV b n m A ob hb t gb a ps rs rg++L_):=by
 obtain⟨⟨ob,hb,t,gb,a,ps,rs,rg⟩,hp,h2⟩:=Af (X:=Nat×Nat×Nat×Nat×Nat×(List Nat)×Int×Int) (p:=fun q_=>(m=q_.2.2.2.2.2.1.length+1)∧(m≤4)∧(1≤n)∧(n≤256)∧(AJ 1 A 0= [])) (B:=fun q_=>Aj (UV b n m A q_.1 q_.2.1 q_.2.2.1 q_.2.2.2.1 q_.2.2.2.2.1 q_.2.2.2.2.2.1 q_.2.2.2.2.2.2.1 q_.2.2.2.2.2.2.2)) h (fun _ hk=>by obtain⟨ob,hb,t,gb,a,ps,rs,rg,c,d,e,f,i,hk⟩:=hk;exact⟨(ob,hb,t,gb,a,ps,rs,rg),⟨c,d,e,f,i⟩,hk⟩)
 exact⟨ob,hb,t,gb,a,ps,rs,rg,hp.1,hp.2.1,hp.2.2.1,hp.2.2.2.1,hp.2.2.2.2,AK h2⟩
theorem BQ{g w:World}{L_:List AB}(b n m:Nat)(A:List AM)(ob hb t gb a:Nat)(ps:List Nat)(rs rg:Int)(c:m=ps.length+1)(d:m≤4)(e:1≤n)(f:n≤256)(i:AJ 1 A 0= [])(h:sat g w (UV b n m A ob hb t gb a ps rs rg++L_)):sat g w (B2 b n m A::L_):=AI (AO h) fun _ hk=>⟨ob,hb,t,gb,a,ps,rs,rg,c,d,e,f,i,hk⟩
def UW(b n m:Nat)(A:List AM)(s:Nat)(gn:Int)(ob hb t gb p0:Nat)(ps:List Nat)(rs rg:Int):List AB:= [Cl b [pV ob,iV n,iV m,pV p0,sp ps 0,sp ps 1,sp ps 2,pV gb] 149,Cl ob [pV hb] 143,Cl hb (pV t::iV n::fl Ce (F256.set s true)) 237,Tb t n A,Cl gb [Value.bool true,iV 0,uV 0,iV 0,uV 0,iV 0,uV 0,iV 0,uV 0,iV 0,uV 0,iV 0,uV 0,iV 0,uV 0,iV 0,uV 0] 241,Cl p0 ([Value.bool true,iV 0,iV rs,uV rg]++(List.replicate 31 [iV 0,uV 0]).flatten) 244,Bs ([Value.bool true,iV 0]++(List.replicate 32 [iV 0,uV 0]).flatten) 244 ps]
def BY(b n m:Nat)(A:List AM)(s:Nat)(gn:Int):AB:=fun h=> ∃ob:Nat,∃hb:Nat,∃t:Nat,∃gb:Nat,∃p0:Nat,∃ps:List Nat,∃rs:Int,∃rg:Int,(m=ps.length+1)∧(m≤4)∧(1≤n)∧(n≤256)∧(AJ 1 A 0= [(s,gn)])∧(s<n)∧(1≤gn)∧Aj (UW b n m A s gn ob hb t gb p0 ps rs rg) h
theorem D0{g w:World}{L_:List AB}{b:Nat}{n:Nat}{m:Nat}{A:List AM}{s:Nat}{gn:Int}(h:sat g w (BY b n m A s gn::L_)): ∃ob:Nat,∃hb:Nat,∃t:Nat,∃gb:Nat,∃a:Nat,∃ps:List Nat,∃rs:Int,∃rg:Int,(m=ps.length+1)∧(m≤4)∧(1≤n)∧(n≤256)∧(AJ 1 A 0= [(s,gn)])∧(s<n)∧(1≤gn)∧sat g w (UW b n m A s gn ob hb t gb a ps rs rg++L_):=by
 obtain⟨⟨ob,hb,t,gb,a,ps,rs,rg⟩,hp,h2⟩:=Af (X:=Nat×Nat×Nat×Nat×Nat×(List Nat)×Int×Int) (p:=fun q_=>(m=q_.2.2.2.2.2.1.length+1)∧(m≤4)∧(1≤n)∧(n≤256)∧(AJ 1 A 0= [(s,gn)])∧(s<n)∧(1≤gn)) (B:=fun q_=>Aj (UW b n m A s gn q_.1 q_.2.1 q_.2.2.1 q_.2.2.2.1 q_.2.2.2.2.1 q_.2.2.2.2.2.1 q_.2.2.2.2.2.2.1 q_.2.2.2.2.2.2.2)) h (fun _ hk=>by obtain⟨ob,hb,t,gb,a,ps,rs,rg,c,d,e,f,i,j,k,hk⟩:=hk;exact⟨(ob,hb,t,gb,a,ps,rs,rg),⟨c,d,e,f,i,j,k⟩,hk⟩)
 exact⟨ob,hb,t,gb,a,ps,rs,rg,hp.1,hp.2.1,hp.2.2.1,hp.2.2.2.1,hp.2.2.2.2.1,hp.2.2.2.2.2.1,hp.2.2.2.2.2.2,AK h2⟩
theorem Dl{g w:World}{L_:List AB}(b n m:Nat)(A:List AM)(s:Nat)(gn:Int)(ob hb t gb a:Nat)(ps:List Nat)(rs rg:Int)(c:m=ps.length+1)(d:m≤4)(e:1≤n)(f:n≤256)(i:AJ 1 A 0= [(s,gn)])(j:s<n)(k:1≤gn)(h:sat g w (UW b n m A s gn ob hb t gb a ps rs rg++L_)):sat g w (BY b n m A s gn::L_):=AI (AO h) fun _ hk=>⟨ob,hb,t,gb,a,ps,rs,rg,c,d,e,f,i,j,k,hk⟩
def UX(b n m:Nat)(A:List AM)(s:Nat)(gn:Int)(ob hb t gb p0:Nat)(ps:List Nat):List AB:= [Cl b [pV ob,iV n,iV m,pV p0,sp ps 0,sp ps 1,sp ps 2,pV gb] 149,Cl ob [pV hb] 143,Cl hb (pV t::iV n::fl Ce (F256.set s true)) 237,Tb t n A,Cl gb [Value.bool true,iV 0,uV 0,iV 0,uV 0,iV 0,uV 0,iV 0,uV 0,iV 0,uV 0,iV 0,uV 0,iV 0,uV 0,iV 0,uV 0] 241,Cl p0 ([Value.bool true,iV 1,iV s,uV gn]++(List.replicate 31 [iV 0,uV 0]).flatten) 244,Bs ([Value.bool true,iV 0]++(List.replicate 32 [iV 0,uV 0]).flatten) 244 ps]
def RY(b n m:Nat)(A:List AM)(s:Nat)(gn:Int):AB:=fun h=> ∃ob:Nat,∃hb:Nat,∃t:Nat,∃gb:Nat,∃p0:Nat,∃ps:List Nat,(m=ps.length+1)∧(m≤4)∧(1≤n)∧(n≤256)∧(AJ 1 A 0= [(s,gn)])∧(s<n)∧(1≤gn)∧Aj (UX b n m A s gn ob hb t gb p0 ps) h
theorem ZK{g w:World}{L_:List AB}{b:Nat}{n:Nat}{m:Nat}{A:List AM}{s:Nat}{gn:Int}(h:sat g w (RY b n m A s gn::L_)): ∃ob:Nat,∃hb:Nat,∃t:Nat,∃gb:Nat,∃a:Nat,∃ps:List Nat,(m=ps.length+1)∧(m≤4)∧(1≤n)∧(n≤256)∧(AJ 1 A 0= [(s,gn)])∧(s<n)∧(1≤gn)∧sat g w (UX b n m A s gn ob hb t gb a ps++L_):=by
 obtain⟨⟨ob,hb,t,gb,a,ps⟩,hp,h2⟩:=Af (X:=Nat×Nat×Nat×Nat×Nat×(List Nat)) (p:=fun q_=>(m=q_.2.2.2.2.2.length+1)∧(m≤4)∧(1≤n)∧(n≤256)∧(AJ 1 A 0= [(s,gn)])∧(s<n)∧(1≤gn)) (B:=fun q_=>Aj (UX b n m A s gn q_.1 q_.2.1 q_.2.2.1 q_.2.2.2.1 q_.2.2.2.2.1 q_.2.2.2.2.2)) h (fun _ hk=>by obtain⟨ob,hb,t,gb,a,ps,c,d,e,f,i,j,k,hk⟩:=hk;exact⟨(ob,hb,t,gb,a,ps),⟨c,d,e,f,i,j,k⟩,hk⟩)
 exact⟨ob,hb,t,gb,a,ps,hp.1,hp.2.1,hp.2.2.1,hp.2.2.2.1,hp.2.2.2.2.1,hp.2.2.2.2.2.1,hp.2.2.2.2.2.2,AK h2⟩
theorem Vv{g w:World}{L_:List AB}(b n m:Nat)(A:List AM)(s:Nat)(gn:Int)(ob hb t gb a:Nat)(ps:List Nat)(c:m=ps.length+1)(d:m≤4)(e:1≤n)(f:n≤256)(i:AJ 1 A 0= [(s,gn)])(j:s<n)(k:1≤gn)(h:sat g w (UX b n m A s gn ob hb t gb a ps++L_)):sat g w (RY b n m A s gn::L_):=AI (AO h) fun _ hk=>⟨ob,hb,t,gb,a,ps,c,d,e,f,i,j,k,hk⟩
theorem ZL{g w:World}{L_:List AB}{b n m:Nat}{A:List AM}(h:sat g w (B2 b n m A::L_)):AJ 1 A 0= []:=by
 obtain⟨_,_,_,_,_,_,_,_,_,_,_,_,h1,_⟩:=ER h
 exact h1
theorem HC{g w:World}{L_:List AB}{b n m:Nat}{A:List AM}{s:Nat}{gn:Int}(h:sat g w (BY b n m A s gn::L_)):AJ 1 A 0= [(s,gn)]∧s<n∧1≤gn:=by
 obtain⟨_,_,_,_,_,_,_,_,_,_,_,_,h1,h2,h3,_⟩:=D0 h
 exact⟨h1,h2,h3⟩
theorem B9(a b c d e:Nat)(f i j:Value)(k:Nat):HQ 110 [pV a] [Cl a [pV b,iV c,iV d,pV e,f,i,j,pV k] 149] (bT) [Cl a [pV b,iV c,iV d,pV e,f,i,j,pV k] 149]:=by
 refine AC func110 ntmps110 fun g w0 R l=>go [rd 1 6 0 0 1 l] ?_
 exact AD _ [] l
theorem Hx(b n m:Nat)(A:List AM):HQ 289 [pV b] [B2 b n m A] (.tuple #[iV n,iV m]) [B2 b n m A]:=by
 refine AC func289 ntmps289 fun g w0 R h0=> ?_
 obtain⟨c,i,j,d,e,a,k,l,o,p,q,s,t,u⟩:=ER h0
 have x:sat g _ (Cl b [pV c,iV n,iV m,pV e,sp a 0,sp a 1,sp a 2,pV d] 149::_):=u
 refine g0<|AF call110 (B9 b c n m e (sp a 0) (sp a 1) (sp a 2) d) x fun _ y=>g0<|dw (AE [0,1,2,3,4,5,6,7,8,9] Tr.nil) y fun B f=>go [rd 3 3 0 1 1 f,rd 3 7 0 2 1 f] ?_
 have z:sat g _ (B2 b n m A::_):=BQ b n m A c i j d e a k l o p q s t f
 exact AD (.tuple #[iV n,iV m]) [] z
theorem C3(b n m:Nat)(A:List AM)(s:Nat)(gn:Int):HQ 289 [pV b] [BY b n m A s gn] (.tuple #[iV n,iV m]) [BY b n m A s gn]:=by
 refine AC func289 ntmps289 fun g w0 R h0=> ?_
 obtain⟨c,i,j,d,e,a,k,l,o,p,q,t,u,x,y,z⟩:=D0 h0
 have B:sat g _ (Cl b [pV c,iV n,iV m,pV e,sp a 0,sp a 1,sp a 2,pV d] 149::_):=z
 refine g0<|AF call110 (B9 b c n m e (sp a 0) (sp a 1) (sp a 2) d) B fun _ C=>g0<|dw (AE [0,1,2,3,4,5,6,7,8,9] Tr.nil) C fun E f=>go [rd 3 3 0 1 1 f,rd 3 7 0 2 1 f] ?_
 have D:sat g _ (BY b n m A s gn::_):=Dl b n m A s gn c i j d e a k l o p q t u x y f
 exact AD (.tuple #[iV n,iV m]) [] D
theorem Vx(a:Nat):HQ 498 [pV a] [Cl a [bT,iV 0,uV 0,iV 0,uV 0,iV 0,uV 0,iV 0,uV 0,iV 0,uV 0,iV 0,uV 0,iV 0,uV 0,iV 0,uV 0] 241] (.slice none 0 0) [Cl a [bT,iV 0,uV 0,iV 0,uV 0,iV 0,uV 0,iV 0,uV 0,iV 0,uV 0,iV 0,uV 0,iV 0,uV 0,iV 0,uV 0] 241]:=by
 refine AC func498 ntmps498 fun g w0 R b=>go [rd 1 6 0 1 16 b,.s 1 8]<|AS (.bool true) (Nw (x:=Ot 9) (y:=Ot 10) (t:=239) (xs:= #[iV 0,uV 0,iV 0,uV 0,iV 0,uV 0,iV 0,uV 0,iV 0,uV 0,iV 0,uV 0,iV 0,uV 0,iV 0,uV 0]) kr kr kr kr kr kr kr _)<|g0 ?_
 exact AD _ [] b
theorem pI(b n m:Nat)(A:List AM)(s:Nat)(gn:Int):HQ 484 [pV b] [BY b n m A s gn] (.slice none 0 0) [BY b n m A s gn]:=by
 refine AC func484 ntmps484 fun g w0 R h0=> ?_
 obtain⟨e,j,k,c,f,a,l,o,p,q,t,u,x,y,z,B⟩:=D0 h0
 have C:sat g _ (Cl b [pV e,iV n,iV m,pV f,sp a 0,sp a 1,sp a 2,pV c] 149::_):=B
 refine g0<|AF call110 (B9 b e n m f (sp a 0) (sp a 1) (sp a 2) c) C fun _ i=> ?_
 have D:=i.d.t8
 refine go [rd 3 3 0 7 1 i]<|AF call498 (Vx c) D fun G E=>g0 ?_
 have F:sat g _ (BY b n m A s gn::_):=Dl b n m A s gn e j k c f a l o p q t u x y z E.d.d.d.d.t8
 exact AD _ [] F
theorem Ka(f d e:Nat)(i:List AM)(_:0≤(d:Int)-1)(_:0≤ -(d:Int)+256):HT prog 111 [pV f] [Cl f (pV e::iV d::fl Ce F256) 237,Tb e d i] (fun v K=> ∃k:Nat,∃j:Nat,v=pV k∧K= [Cl f (pV e::iV d::fl Ce F256) 237,Tb e d i,Cl k (pV j::iV d::fl Ce F256) 237,Tb j d i]):=by
 refine AC func111 ntmps111 fun g w0 R h0=>g0<|AF call173 (Ej f e d) h0 fun _ l=>go [.s 3 2]<|AS (.agg (pV e::iV d::fl Ce F256).toArray) (EZ (x:=Ot 8) kr 0 l rfl _ rfl underlying237 (by rw[EQ List.length_replicate];kernel_rfl) kr) ?_
 refine nP 237 (pO::iV 0::fl Ce F256) l (fun k _ o=> ?_)
 refine AH ?_
 refine Ea (t:=237) (x:=Ot 3) (y:=Ot 9) (cs:=(pV e::iV d::fl Ce F256)) kr kr o (by rw[EQ List.length_replicate];kernel_rfl) (by rw[EQ List.length_replicate,EQ List.length_replicate]) (Y7 rfl rfl) kr kr ?_
 intro _ m
 refine Gq ?_
 have p:=m.b.t4
 refine go [rd 4 3 1 0 1 m]<|cP call120 (EN e d i) p ?_
 rintro v K _ (⟨j,rfl,rfl⟩) q
 have u:=(CW q).b.t5
 refine g0 ?_
 refine AH ?_
 refine Bc [(0,pV j)] (cs':=(pV j::iV d::fl Ce F256)) kr kr (G5 ⟨⟨by rw[EQ List.length_replicate];omega,rfl⟩,trivial⟩) rfl u ?_
 intro _ z
 refine Gq<|g0 ?_
 exact en _ [] ⟨_,_,rfl,⟨k,j,rfl,rfl⟩,z.a.c.t5⟩
theorem ZM(b n m:Nat)(A:List AM):HT prog 266 [pV b] [B2 b n m A] (fun v K=> ∃k:Nat,∃t2:Nat,v=pV k∧K= [B2 b n m A,Cl k (pV t2::iV n::fl Ce F256) 237,Tb t2 n A]):=by
 refine AC func266 ntmps266 fun g w0 R h0=> ?_
 obtain⟨e,l,o,f,i,a,p,q,s,t,u,x,y,z⟩:=ER h0
 have B:sat g _ (Cl b [pV e,iV n,iV m,pV i,sp a 0,sp a 1,sp a 2,pV f] 149::_):=z
 refine g0<|AF call110 (B9 b e n m i (sp a 0) (sp a 1) (sp a 2) f) B fun _ j=> ?_
 have C:=j.c.c.t8
 refine go [rd 3 3 0 0 1 j,rd 3 6 1 0 1 j]<|cP call111 (Ka l n o A om om) C ?_
 rintro v K I (⟨D,E,rfl,rfl⟩) F
 have G:=Wx F
 refine g0 ?_
 have H:sat g _ (B2 b n m A::_):=BQ b n m A e l o f i a p q s t u x y G.h.h.h.d.d.h.h.t10
 exact en _ [] ⟨_,_,rfl,⟨D,E,rfl,rfl⟩,H⟩
theorem SV(i d e f:Nat)(j:List AM)(_:0≤(d:Int)-1)(_:0≤ -(d:Int)+256)(_:0≤ -(f:Int)+255):HT prog 111 [pV i] [Cl i (pV e::iV d::fl Ce (F256.set f true)) 237,Tb e d j] (fun v K=> ∃l:Nat,∃k:Nat,v=pV l∧K= [Cl i (pV e::iV d::fl Ce (F256.set f true)) 237,Tb e d j,Cl l (pV k::iV d::fl Ce (F256.set f true)) 237,Tb k d j]):=by
 refine AC func111 ntmps111 fun g w0 R h0=>g0<|AF call173 (Ek i f e d) h0 fun _ m=>go [.s 3 2]<|AS (.agg (pV e::iV d::fl Ce (F256.set f true)).toArray) (EZ (x:=Ot 8) kr 0 m rfl _ rfl underlying237 (by rw[EQ GJ];kernel_rfl) kr) ?_
 refine nP 237 (pO::iV 0::fl Ce F256) m (fun l _ p=> ?_)
 refine AH ?_
 refine Ea (t:=237) (x:=Ot 3) (y:=Ot 9) (cs:=(pV e::iV d::fl Ce (F256.set f true))) kr kr p (by rw[EQ GJ];kernel_rfl) (by rw[EQ GJ,EQ List.length_replicate]) (Y7 rfl rfl) kr kr ?_
 intro _ o
 refine Gq ?_
 have q:=o.b.t4
 refine go [rd 4 3 1 0 1 o]<|cP call120 (EN e d j) q ?_
 rintro v K _ (⟨k,rfl,rfl⟩) u
 have z:=(CW u).b.t5
 refine g0 ?_
 refine AH ?_
 refine Bc [(0,pV k)] (cs':=(pV k::iV d::fl Ce (F256.set f true))) kr kr (G5 ⟨⟨by rw[EQ GJ];omega,rfl⟩,trivial⟩) rfl z ?_
 intro _ A
 refine Gq<|g0 ?_
 exact en _ [] ⟨_,_,rfl,⟨l,k,rfl,rfl⟩,A.a.c.t5⟩
theorem Kb(b n m:Nat)(A:List AM)(s:Nat)(gn:Int):HT prog 266 [pV b] [BY b n m A s gn] (fun v K=> ∃k:Nat,∃t2:Nat,v=pV k∧K= [BY b n m A s gn,Cl k (pV t2::iV n::fl Ce (F256.set s true)) 237,Tb t2 n A]):=by
 refine AC func266 ntmps266 fun g w0 R h0=> ?_
 obtain⟨e,l,o,f,i,a,p,q,t,u,x,y,z,B,C,D⟩:=D0 h0
 have E:sat g _ (Cl b [pV e,iV n,iV m,pV i,sp a 0,sp a 1,sp a 2,pV f] 149::_):=D
 refine g0<|AF call110 (B9 b e n m i (sp a 0) (sp a 1) (sp a 2) f) E fun _ j=> ?_
 have F:=j.c.c.t8
 refine go [rd 3 3 0 0 1 j,rd 3 6 1 0 1 j]<|cP call111 (SV l n o s A om om om) F ?_
 rintro v K M (⟨G,H,rfl,rfl⟩) I
 have J:=Wx I
 refine g0 ?_
 have L:sat g _ (BY b n m A s gn::_):=Dl b n m A s gn e l o f i a p q t u x y z B C J.h.h.h.d.d.h.h.t10
 exact en _ [] ⟨_,_,rfl,⟨G,H,rfl,rfl⟩,L⟩
theorem El(a e f c d:Nat)(j k l:Value)(m:Nat)(_:0≤(c:Int)-1):HQ 162 [pV a,iV 0] [Cl a [pV e,iV f,iV c,pV d,j,k,l,pV m] 149] (.tuple #[pV d,iV 0]) [Cl a [pV e,iV f,iV c,pV d,j,k,l,pV m] 149]:=by
 refine AC func162 ntmps162 fun g w0 R h0=>g0<|AF call110 (B9 a e f c d j k l m) h0 fun _ o=>go [rd 3 7 0 2 1 o,.v 3 8 (oF (0≥(c:Int))),.s 5 4]<|AS (.pointer (some ⟨a,3,none⟩)) (AA (x:=Ot 24) (i:=Ot 22) (b:=a) (off:=3) (z:=0) kr underlying147 1 kr 0 kr kr om om 3 om _)<|go [rd 5 5 0 3 1 o] ?_
 exact AD _ [] o
theorem QH(a c:Nat):HQ 148 [pV a,pV c] [Cl c [bT] 4,Cl a [iV 0] 3] (iV 0) [Cl c [bT] 4,Cl a [iV 0] 3]:=by
 refine AC func148 ntmps148 fun g w0 R d=>go [rd 1 0 1 0 1 d,rd 1 1 0 0 1 d]<|AP call149 Mn d fun _ e=>g0<|nP 234 [iV 0,iV 0,uV 0,iV 0,uV 0,iV 0,uV 0,iV 0,uV 0,bF] e (fun _ _ f=> ?_)
 refine sA [iV 0,iV 0,uV 0,iV 0,uV 0,iV 0,uV 0,iV 0,uV 0,bT] f fun _ i=>g0 ?_
 exact AD _ [] i.b.b.t4.c.b.b.t3
theorem Em(a:Nat)(b c:Int):HQ 174 [pV a] [Cl a ([bT,iV 0,iV b,uV c]++(List.replicate 31 [iV 0,uV 0]).flatten) 244] (bT) [Cl a ([bT,iV 0,iV b,uV c]++(List.replicate 31 [iV 0,uV 0]).flatten) 244]:=by
 refine AC func174 ntmps174 fun g w0 R d=>go [rd 1 6 0 0 1 d] ?_
 exact AD _ [] d
theorem Kc(a:Nat)(c d:Int):HQ 319 [pV a] [Cl a ([bT,iV 0,iV c,uV d]++(List.replicate 31 [iV 0,uV 0]).flatten) 244] (.slice (some ⟨a,2,none⟩) 0 32) [Cl a ([bT,iV 0,iV c,uV d]++(List.replicate 31 [iV 0,uV 0]).flatten) 244]:=by
 refine AC func319 ntmps319 fun g w0 R h0=>g0<|AF call174 (Em a c d) h0 fun _ f=>g0<|dw (AE [0,1,2,3,4,5,6,7,8] Tr.nil) f fun _ e=>go [rd 3 6 0 1 1 e,.s 3 7]<|lw (.slice (some ⟨a,2,none⟩) 0 32) (fun _=>Cz (x:=Ot 8) (lo:=none) (hi:=(some (Ot 12))) (b:=a) (off:=2) kr underlying242 2 kr 0 0 0 0 kr rfl (show fe _ _ (Ot 12)=_ from by kernel_rfl) om om om om 2 (by split<;>omega) 0 32 om om _)<|g0 ?_
 exact AD _ [] e
theorem Vy(a:Nat)(b c:Int):HQ 228 [pV a] [Cl a ([bT,iV 0,iV b,uV c]++(List.replicate 31 [iV 0,uV 0]).flatten) 244] (iV 0) [Cl a ([bT,iV 0,iV b,uV c]++(List.replicate 31 [iV 0,uV 0]).flatten) 244]:=by
 refine AC func228 ntmps228 fun g w0 R h0=>g0<|AF call319 (Kc a b c) h0 fun _ d=>g0 ?_
 exact AD _ [] d
theorem Nx(l m o p i j a q:Nat)(s t u:Value)(y d e:Nat)(k:List AM)(c:Nat)(f:Int)(z:By k=some (c,f))(_:0≤ -(a:Int)+256)(_:0≤(a:Int)-(c:Int)-1):HQ 150 [pV l,pV m,pV o] [Cl o [bT] 4,Cl m [iV 0] 3,Cl i [pV j,iV a,iV q,pV p,s,t,u,pV y] 149,Cl l [pV i] 75,Cl j [pV d] 143,Cl d (pV e::iV a::fl Ce F256) 237,Tb e a k] (.tuple #[.agg #[iV c,uV f],iV 0]) [Cl o [bT] 4,Cl m [iV 0] 3,Cl i [pV j,iV a,iV q,pV p,s,t,u,pV y] 149,Cl l [pV i] 75,Cl j [pV d] 143,Cl d (pV e::iV a::fl Ce (F256.set c true)) 237,Tb e a (Ap k)]:=by
 refine AC func150 ntmps150 fun g w0 R h0=>g0<|nP 203 [iV 0,uV 0] h0 (fun _ _ C=> ?_)
 refine g0<|dw (AE [0,1,2,3,4,5,6,7,8] (Tr.an 9 (AE [10,11] (Tr.an 12 (Tr.fl 13 Tr.nil))))) C fun _ A=> ?_
 have D:=A.x.x.t9
 refine go [rd 1 0 4 0 1 A,rd 1 3 3 0 1 A,rd 1 6 5 0 1 A,rd 1 7 2 0 1 A,rd 1 8 1 0 1 A]<|FN call151 (ZI d e a k c f z om om om) D fun _ E=>⟨kd [],?_⟩
 have F:=E.b.t9
 refine g0<|sB [iV c,uV f] F fun _ B=>⟨kd [],?_⟩
 refine g0 ?_
 exact AD (.tuple #[.agg #[iV c,uV f],iV 0]) [rd 0 0 0 0 2 B] B.b.b.x.x.x.x.x.t9.h.x.x.x.x.x.x.x.t8
theorem QI(e c:Nat)(d f j:Int)(_:0≤ -(c:Int)+255)(_:0≤d-1):HQ 229 [pV e,.agg #[iV c,uV d]] [Cl e ([bT,iV 0,iV f,uV j]++(List.replicate 31 [iV 0,uV 0]).flatten) 244] (.tuple #[iV 0,iV 0]) [Cl e ([bT,iV 1,iV c,uV d]++(List.replicate 31 [iV 0,uV 0]).flatten) 244]:=by
 refine AC func229 ntmps229 fun g w0 R h0=>g0<|nP 203 [iV c,uV d] h0 (fun _ _ p=> ?_)
 have q:=p.a.t3
 refine g0<|AF call174 (Em e f j) q fun _ k=>go [rd 3 1 1 0 1 k,.v 3 2 (oF ((c:Int)<0)),rd 3 5 1 0 1 k,.v 3 6 (oF ((c:Int)≥256)),rd 3 10 1 1 1 k,.v 3 11 (DR d 0),rd 5 3 0 1 1 k]<|dw (AE [0,1,2,3,4,5,6,7,8] (Tr.an 9 Tr.nil)) k fun _ l=>go [rd 7 4 0 1 1 l,rd 7 5 1 0 2 l,.s 7 8]<|lw (.pointer (some ⟨e,2,none⟩)) (fun _=>AA (x:=Ot 37) (i:=Ot 34) (b:=e) (off:=2) (z:=0) kr underlying242 2 kr 0 kr kr om om 2 om _)<|sG [(2,iV c),(3,uV d)] ([bT,iV 0,iV c,uV d]++(List.replicate 31 [iV 0,uV 0]).flatten) l fun _ m=>⟨kd [],?_⟩
 refine go [rd 8 3 0 1 1 m]<|sP [(1,iV 1)] ([bT,iV 1,iV c,uV d]++(List.replicate 31 [iV 0,uV 0]).flatten) m fun _ o=>go [rd 9 3 0 1 1 o] ?_
 exact AD _ [] o.B.t2
theorem QJ(k l m t o b p j:Nat)(u y z:Value)(A q s:Nat)(B:List AM)(C D:Int)(e:Nat)(f:Int)(E:By B=some (e,f))(_:0≤(p:Int)-1)(_:0≤ -(b:Int)+256)(_:0≤(b:Int)-(e:Int)-1)(_:0≤f-1):HQ 147 [pV k,iV 0,.func (Fn.func 148) #[] #[pV l,pV m],.func (Fn.func 150) #[] #[pV t,pV l,pV m]] [Cl m [bT] 4,Cl l [iV 0] 3,Cl t [pV k] 75,Cl k [pV o,iV b,iV p,pV j,u,y,z,pV A] 149,Cl o [pV q] 143,Cl q (pV s::iV b::fl Ce F256) 237,Tb s b B,Cl j ([bT,iV 0,iV C,uV D]++(List.replicate 31 [iV 0,uV 0]).flatten) 244] (.tuple #[.agg #[iV e,uV f],iV 0]) [Cl m [bT] 4,Cl l [iV 0] 3,Cl t [pV k] 75,Cl k [pV o,iV b,iV p,pV j,u,y,z,pV A] 149,Cl o [pV q] 143,Cl q (pV s::iV b::fl Ce (F256.set e true)) 237,Tb s b (Ap B),Cl j ([bT,iV 1,iV e,uV f]++(List.replicate 31 [iV 0,uV 0]).flatten) 244]:=by
 refine AC func147 ntmps147 fun g w0 R h0=>g0<|nP 203 [iV 0,uV 0] h0 (fun _ _ I=> ?_)
 have J:=I.d.t10
 refine g0<|AF call162 (El k o b p j u y z A om) J fun _ L=> ?_
 have M:=L.c.c.t10
 refine g0<|DF call148 (QH l m) M fun _ N=> ?_
 have O:=N.h.t10
 refine g0<|AF call228 (Vy j C D) O fun _ P=> ?_
 have Q:=P.h.h.h.h.x.x.x.t10
 refine g0<|cP call150 (Nx t l m j k o b p u y z A q s B e f E om om) Q ?_
 rintro v K _ (⟨rfl,rfl⟩) S
 have T:=IW S
 refine g0<|nP 203 [iV 0,uV 0] T (fun _ _ U=> ?_)
 refine sA [iV e,uV f] U fun _ F=> ?_
 have V:=F.h.t11
 refine go [rd 11 1 0 0 2 F]<|AF call229 (QI j e f C D om om) V fun _ G=> ?_
 have W:=G.i.t11
 refine go [rd 14 0 1 0 2 G]<|sA [iV e,uV f] W fun _ H=>g0 ?_
 exact AD (.tuple #[.agg #[iV e,uV f],iV 0]) [rd 0 0 0 0 2 H] H.a.i.i.i.h.i.i.i.t11.j.h.h.h.h.h.h.h.h.t9
theorem ZN(b n m:Nat)(A:List AM)(s:Nat)(gn:Int)(hT:By A=some (s,gn)):HQ 91 [pV b,iV 0,iV 0,bT] [B2 b n m A] (.tuple #[.agg #[iV s,uV gn],iV 0]) [RY b n m (Ap A) s gn]:=by
 refine AC func91 ntmps91 fun g w0 R h0=> ?_
 obtain⟨k,p,q,l,o,f,B,C,D,E,F,G,H,I⟩:=ER h0
 have t:sat g _ (Cl b [pV k,iV n,iV m,pV o,sp f 0,sp f 1,sp f 2,pV l] 149::_):=I
 have u:=DJ (j:=3) t rfl
 have hs_:s<n:=by have h_:=(Gi hT).2.2.2;rw[u.1] at h_;exact h_
 have hg_:=(u.2.2.2 _ (List.mem_of_getElem? (Gi hT).2.2.1)).2.2
 have c:=hg_.1;have d:=hg_.2;dsimp only at c d
 refine g0<|nP 75 [pV b] t (fun J _ L=> ?_)
 refine nP 3 [iV 0] L (fun M _ N=> ?_)
 refine nP 4 [bT] N (fun x _ O=> ?_)
 refine nP 203 [iV 0,uV 0] O (fun V _ y=> ?_)
 have P:=y.i.h.h.h.h.h.h.h.t12
 refine go [rd 1 0 3 0 1 y]<|cP call147 (QJ b M x J k n m o (sp f 0) (sp f 1) (sp f 2) l p q A B C s gn hT om om om om) P ?_
 rintro v K W (⟨rfl,rfl⟩) Q
 have S:sat g _ (Cl x [bT] 4::_):=Q
 have T:=S.h.t12
 refine g0<|sA [iV s,uV gn] T fun X z=>g0 ?_
 have Y:=Gi hT
 have U:sat g _ (RY b n m (Ap A) s gn::_):=Vv b n m (Ap A) s gn k p q l o f D E F G (gO hT H) hs_ om z.j.i.j.j.j.j.j.t12
 exact AD (.tuple #[.agg #[iV s,uV gn],iV 0]) [rd 0 0 0 0 2 z] U.e.a.t2
theorem Ny(a b:Nat)(c:Int):HQ 174 [pV a] [Cl a ([bT,iV 1,iV b,uV c]++(List.replicate 31 [iV 0,uV 0]).flatten) 244] (bT) [Cl a ([bT,iV 1,iV b,uV c]++(List.replicate 31 [iV 0,uV 0]).flatten) 244]:=by
 refine AC func174 ntmps174 fun g w0 R d=>go [rd 1 6 0 0 1 d] ?_
 exact AD _ [] d
theorem SW(c d:Nat)(e:Int):HQ 234 [pV c,iV 0] [Cl c ([bT,iV 1,iV d,uV e]++(List.replicate 31 [iV 0,uV 0]).flatten) 244] (.tuple #[.agg #[iV d,uV e],iV 0]) [Cl c ([bT,iV 1,iV d,uV e]++(List.replicate 31 [iV 0,uV 0]).flatten) 244]:=by
 refine AC func234 ntmps234 fun g w0 R h0=>g0<|nP 203 [iV 0,uV 0] h0 (fun _ _ k=> ?_)
 have l:=k.a.t3
 refine g0<|AF call174 (Ny c d e) l fun _ f=>go [rd 3 7 0 1 1 f,.s 5 4]<|AS (.pointer (some ⟨c,2,none⟩)) (AA (x:=Ot 26) (i:=Ot 24) (b:=c) (off:=2) (z:=0) kr underlying242 2 kr 0 kr kr om om 2 om _) ?_
 have m:=f.a.t3
 refine go [rd 5 5 0 2 2 f]<|sA [iV d,uV e] m fun _ j=>g0 ?_
 exact AD (.tuple #[.agg #[iV d,uV e],iV 0]) [rd 0 0 0 0 2 j] j.a.t3.b.a.t2
theorem QK(c e:Nat)(f:Int):HQ 163 [pV c,iV 0] [Cl c ([bT,iV 1,iV e,uV f]++(List.replicate 31 [iV 0,uV 0]).flatten) 244] (.tuple #[.agg #[iV e,uV f],iV 0]) [Cl c ([bT,iV 0,iV e,uV f]++(List.replicate 31 [iV 0,uV 0]).flatten) 244]:=by
 refine AC func163 ntmps163 fun g w0 R h0=>g0<|nP 203 [iV 0,uV 0] h0 (fun _ _ m=> ?_)
 have o:=m.a.t3
 refine g0<|AF call234 (SW c e f) o fun _ p=>g0<|nP 203 [iV 0,uV 0] p (fun _ _ q=> ?_)
 refine sA [iV e,uV f] q fun _ t=>g0<|dw (AE [0,1,2,3,4,5,6,7,8,9,10,11,12,13,14,15,16,17,18] (Tr.an 19 Tr.nil)) t fun _ i=>go [rd 4 7 1 1 1 i,.s 4 8]<|lw (.slice (some ⟨c,2,none⟩) 1 32) (fun _=>Cz (x:=Ot 20) (lo:=(some (Ot 21))) (hi:=(some (Ot 25))) (b:=c) (off:=2) kr underlying242 2 kr 0 1 0 1 kr (show fe _ _ (Ot 21)=_ from by kernel_rfl) (show fe _ _ (Ot 25)=_ from by kernel_rfl) om om om om 2 (by split<;>omega) 1 32 om om _)<|go [rd 4 17 1 1 1 i,.s 4 18]<|lw (.slice (some ⟨c,4,none⟩) 0 31) (fun _=>Cz (x:=Ot 29) (lo:=(some (Ot 31))) (hi:=(some (Ot 35))) (b:=c) (off:=2) kr underlying242 2 kr 1 1 1 1 kr (show fe _ _ (Ot 31)=_ from by kernel_rfl) (show fe _ _ (Ot 35)=_ from by kernel_rfl) om om om om 4 ((if_neg om).trans om) 0 31 om om _) ?_
 have u:=i.a.t4
 refine AH ?_
 refine ZD (d:=37) (sz:=2) (x:=Ot 26) (y:=Ot 36) (o1:=2) (n1:=1) (c1:=32) (o2:=4) (c2:=31) kr kr rfl underlying392 kr u kr kr (by first|decide|simp) ?_
 intro _ j
 refine⟨kd [],DE ?_⟩
 refine go [rd 5 3 0 1 1 j]<|sP [(1,iV 0)] ([bT,iV 0,iV e,uV f]++(List.replicate 31 [iV 0,uV 0]).flatten) j fun _ k=> ?_
 have z:=k.b.t4
 refine go [rd 6 0 1 0 2 k]<|sA [iV e,uV f] z fun _ l=>g0 ?_
 exact AD (.tuple #[.agg #[iV e,uV f],iV 0]) [rd 0 0 0 0 2 l] l.a.t4.c.a.t2
theorem QL(b n m:Nat)(A:List AM)(s:Nat)(gn:Int):HQ 100 [pV b,iV 0,iV 0] [RY b n m A s gn] (.tuple #[.agg #[iV s,uV gn],iV 0]) [BY b n m A s gn]:=by
 refine AC func100 ntmps100 fun g w0 R h0=> ?_
 obtain⟨e,k,l,i,d,c,o,p,q,t,u,y,z,C⟩:=ZK h0
 have D:sat g _ (Cl b [pV e,iV n,iV m,pV d,sp c 0,sp c 1,sp c 2,pV i] 149::_):=C
 refine g0<|nP 203 [iV 0,uV 0] D (fun M _ E=> ?_)
 have F:=E.a.t9
 refine g0<|AF call162 (El b e n m d (sp c 0) (sp c 1) (sp c 2) i om) F fun _ G=> ?_
 have H:=G.f.t9
 refine g0<|AF call163 (QK d s gn) H fun _ I=> ?_
 have J:=I.b.t9
 refine g0<|sA [iV s,uV gn] J fun N j=>g0 ?_
 have L:sat g _ (BY b n m A s gn::_):=Dl b n m A s gn e k l i d c s gn o p q t u y z j.x.b.x.x.x.x.x.t9
 exact AD (.tuple #[.agg #[iV s,uV gn],iV 0]) [rd 0 0 0 0 2 j] L.B.t2
theorem Kd(b ob n m a gb:Nat)(ps:List Nat)(jj pj:Nat)(hpj:ps[jj]? =some pj)(_:0≤(m:Int)-(jj:Int)-2)(_:0≤ -(jj:Int)+2):HQ 162 [pV b,iV ((jj:Int)+1)] [Cl b [pV ob,iV n,iV m,pV a,sp ps 0,sp ps 1,sp ps 2,pV gb] 149] (.tuple #[pV pj,iV 0]) [Cl b [pV ob,iV n,iV m,pV a,sp ps 0,sp ps 1,sp ps 2,pV gb] 149]:=by
 refine AC func162 ntmps162 fun g w0 R h0=>g0<|AF call110 (B9 b ob n m a (sp ps 0) (sp ps 1) (sp ps 2) gb) h0 fun _ c=>go [.v 3 1 (oF ((jj:Int)+1<0)),rd 3 7 0 2 1 c,.v 3 8 (oF ((jj:Int)+1≥(m:Int))),.s 5 4]<|AS (.pointer (some ⟨b,jj+4,none⟩)) (AA (x:=Ot 24) (i:=Ot 22) (b:=b) (off:=3) (z:=((jj:Int)+1)) kr underlying147 1 kr (jj+1) kr kr om om (jj+4) om _)<|go [.r 5 5 b (jj+4) [pV pj] ⟨AL c 0 rfl (gJ hpj om om),trivial⟩] ?_
 exact AD _ [] c
theorem SX(a:Nat):HT prog 398 [.slice (some ⟨a,2,none⟩) 0 32] [] (fun v K=> ∃b:Option Addr,∃c:Nat,v= .slice b 0 c∧K= [Sl 203 2 b 0 c (fl He [])]):=by
 refine AC func398 ntmps398 fun g w0 R h0=>g0<|nG (fun q_=> .slice (some ⟨q_,0,none⟩) 0 0) 203 [] h0 (fun d l f=>⟨kd [],?_⟩)
 have i:sat g _ (Sl 203 2 (some ⟨d,0,none⟩) 0 0 (fl He [])::_):=HO f rfl om
 refine g0 ?_
 refine AH ?_
 refine aA 7 2 (Ot 5) (Ot 6) (.agg #[iV 0,uV 0]) (some ⟨d,0,none⟩) 0 0 0 32 (⟨a,2,none⟩) 16 underlying392 i [] rfl (fun j u hj=>by cases hj) (G5 trivial) 0 ?_
 intro b c m k
 have e:sat g _ (Sl 203 2 b 0 c (fl He [])::_):=sI k
 obtain⟨o,p⟩:=BH e
 refine B1<|g0 ?_
 exact en _ [] ⟨_,_,rfl,⟨b,c,rfl,rfl⟩,e⟩
theorem Fi(b:Nat)(c d:Int):HT prog 343 [pV b] [Cl b ([bT,iV 0,iV c,uV d]++(List.replicate 31 [iV 0,uV 0]).flatten) 244] (fun v K=> ∃e:Option Addr,∃f:Nat,v= .slice e 0 f∧K= [Cl b ([bT,iV 0,iV c,uV d]++(List.replicate 31 [iV 0,uV 0]).flatten) 244,Sl 203 2 e 0 f (fl He [])]):=by
 refine AC func343 ntmps343 fun g w0 R h0=>g0<|AF call319 (Kc b c d) h0 fun _ i=>cP call398 (SX b) i ?_
 rintro v K _ (⟨e,f,rfl,rfl⟩) j
 have k:=B3 j
 refine g0 ?_
 exact en _ [] ⟨_,_,rfl,⟨e,f,rfl,rfl⟩,k.a.t3⟩
theorem ZO(b n m:Nat)(A:List AM):HT prog 265 [pV b,iV 0] [B2 b n m A] (fun v K=> ∃p:Option Addr,∃c:Nat,v= .tuple #[.slice p 0 c,iV 0]∧K= [B2 b n m A]):=by
 refine AC func265 ntmps265 fun g w0 R h0=> ?_
 obtain⟨i,o,q,j,f,d,k,l,s,t,u,y,z,C⟩:=ER h0
 have D:sat g _ (Cl b [pV i,iV n,iV m,pV f,sp d 0,sp d 1,sp d 2,pV j] 149::_):=C
 refine g0<|AF call162 (El b i n m f (sp d 0) (sp d 1) (sp d 2) j om) D fun _ E=> ?_
 have F:=E.e.t8
 refine g0<|cP call343 (Fi f k l) F ?_
 rintro v K M (⟨G,H,rfl,rfl⟩) I
 have J:=CW I
 refine g0 ?_
 have L:sat g _ (B2 b n m A::_):=BQ b n m A i o q j f d k l s t u y z J.x.a.x.x.x.x.x.t9
 exact en _ [] ⟨_,_,rfl,⟨G,H,rfl,rfl⟩,L.B.t2⟩
theorem ZP(b n m:Nat)(A:List AM)(jj:Nat)(_:0≤(m:Int)-(jj:Int)-2):HT prog 265 [pV b,iV ((jj:Int)+1)] [B2 b n m A] (fun v K=> ∃p:Option Addr,∃c:Nat,v= .tuple #[.slice p 0 c,iV 0]∧K= [B2 b n m A]):=by
 refine AC func265 ntmps265 fun g w0 R h0=> ?_
 obtain⟨i,l,o,j,k,e,q,s,y,z,C,D,E,F⟩:=ER h0
 have G:sat g _ (Cl b [pV i,iV n,iV m,pV k,sp e 0,sp e 1,sp e 2,pV j] 149::_):=F
 obtain⟨pj,hpj⟩: ∃b,e[jj]? =some b:=⟨_,List.getElem?_eq_getElem om⟩
 have H:sat g w0 [Cl pj ([bT,iV 0]++(List.replicate 32 [iV 0,uV 0]).flatten) 244,Bs ([bT,iV 0]++(List.replicate 32 [iV 0,uV 0]).flatten) 244 (e.take jj),Bs ([bT,iV 0]++(List.replicate 32 [iV 0,uV 0]).flatten) 244 (e.drop (jj+1)),Cl b [pV i,iV n,iV m,pV k,sp e 0,sp e 1,sp e 2,pV j] 149,Cl i [pV l] 143,Cl l (pV o::iV n::fl Ce F256) 237,Tb o n A,Cl j [bT,iV 0,uV 0,iV 0,uV 0,iV 0,uV 0,iV 0,uV 0,iV 0,uV 0,iV 0,uV 0,iV 0,uV 0,iV 0,uV 0] 241,Cl k ([bT,iV 0,iV q,uV s]++(List.replicate 31 [iV 0,uV 0]).flatten) 244,R]:=Rx hpj G.f.t8
 have I:=H.c.t10
 refine g0<|AF call162 (Kd b i n m k j e jj pj hpj om om) I fun _ J=> ?_
 have L:=J.a.t10
 refine g0<|cP call343 (Fi pj 0 0) L ?_
 rintro v K M (⟨t,u,rfl,rfl⟩) N
 have O:=CW N
 refine g0 ?_
 have P:sat g M [Bs ([bT,iV 0]++(List.replicate 32 [iV 0,uV 0]).flatten) 244 e,Sl 203 2 t 0 u (fl He []),Cl b [pV i,iV n,iV m,pV k,sp e 0,sp e 1,sp e 2,pV j] 149,Cl i [pV l] 143,Cl l (pV o::iV n::fl Ce F256) 237,Tb o n A,Cl j [bT,iV 0,uV 0,iV 0,uV 0,iV 0,uV 0,iV 0,uV 0,iV 0,uV 0,iV 0,uV 0,iV 0,uV 0,iV 0,uV 0] 241,Cl k ([bT,iV 0,iV q,uV s]++(List.replicate 31 [iV 0,uV 0]).flatten) 244,R]:=Ry hpj O.d.d.b.t11
 have Q:sat g _ (B2 b n m A::_):=BQ b n m A i l o j k e q s y z C D E P.x.x.x.x.x.x.t9
 exact en _ [] ⟨_,_,rfl,⟨t,u,rfl,rfl⟩,Q.B.t2⟩
theorem gR(b n m:Nat)(A:List AM)(j:Nat)(_:0≤(m:Int)-(j:Int)-1):HT prog 265 [pV b,iV j] [B2 b n m A] (fun v K=> ∃(p:Option Addr) (c:Nat),v=.tuple #[.slice p 0 c,iV 0]∧K= [B2 b n m A]):=by
 cases j with
 |zero=>exact ZO b n m A
 |succ jj=>exact ZP b n m A jj om
theorem ZQ(b n m:Nat)(A:List AM)(s:Nat)(gn:Int):HT prog 265 [pV b,iV 0] [BY b n m A s gn] (fun v K=> ∃p:Option Addr,∃c:Nat,v= .tuple #[.slice p 0 c,iV 0]∧K= [BY b n m A s gn]):=by
 refine AC func265 ntmps265 fun g w0 R h0=> ?_
 obtain⟨i,o,q,j,f,d,k,l,t,u,y,z,C,D,E,F⟩:=D0 h0
 have G:sat g _ (Cl b [pV i,iV n,iV m,pV f,sp d 0,sp d 1,sp d 2,pV j] 149::_):=F
 refine g0<|AF call162 (El b i n m f (sp d 0) (sp d 1) (sp d 2) j om) G fun _ H=> ?_
 have I:=H.e.t8
 refine g0<|cP call343 (Fi f k l) I ?_
 rintro v K P (⟨J,L,rfl,rfl⟩) M
 have N:=CW M
 refine g0 ?_
 have O:sat g _ (BY b n m A s gn::_):=Dl b n m A s gn i o q j f d k l t u y z C D E N.x.a.x.x.x.x.x.t9
 exact en _ [] ⟨_,_,rfl,⟨J,L,rfl,rfl⟩,O.B.t2⟩
theorem ZR(b n m:Nat)(A:List AM)(s:Nat)(gn:Int)(jj:Nat)(_:0≤(m:Int)-(jj:Int)-2):HT prog 265 [pV b,iV ((jj:Int)+1)] [BY b n m A s gn] (fun v K=> ∃p:Option Addr,∃c:Nat,v= .tuple #[.slice p 0 c,iV 0]∧K= [BY b n m A s gn]):=by
 refine AC func265 ntmps265 fun g w0 R h0=> ?_
 obtain⟨i,l,o,j,k,e,q,t,z,C,D,E,F,G,H,I⟩:=D0 h0
 have J:sat g _ (Cl b [pV i,iV n,iV m,pV k,sp e 0,sp e 1,sp e 2,pV j] 149::_):=I
 obtain⟨pj,hpj⟩: ∃b,e[jj]? =some b:=⟨_,List.getElem?_eq_getElem om⟩
 have L:sat g w0 [Cl pj ([bT,iV 0]++(List.replicate 32 [iV 0,uV 0]).flatten) 244,Bs ([bT,iV 0]++(List.replicate 32 [iV 0,uV 0]).flatten) 244 (e.take jj),Bs ([bT,iV 0]++(List.replicate 32 [iV 0,uV 0]).flatten) 244 (e.drop (jj+1)),Cl b [pV i,iV n,iV m,pV k,sp e 0,sp e 1,sp e 2,pV j] 149,Cl i [pV l] 143,Cl l (pV o::iV n::fl Ce (F256.set s true)) 237,Tb o n A,Cl j [bT,iV 0,uV 0,iV 0,uV 0,iV 0,uV 0,iV 0,uV 0,iV 0,uV 0,iV 0,uV 0,iV 0,uV 0,iV 0,uV 0] 241,Cl k ([bT,iV 0,iV q,uV t]++(List.replicate 31 [iV 0,uV 0]).flatten) 244,R]:=Rx hpj J.f.t8
 have M:=L.c.t10
 refine g0<|AF call162 (Kd b i n m k j e jj pj hpj om om) M fun _ N=> ?_
 have O:=N.a.t10
 refine g0<|cP call343 (Fi pj 0 0) O ?_
 rintro v K P (⟨u,y,rfl,rfl⟩) Q
 have S:=CW Q
 refine g0 ?_
 have T:sat g P [Bs ([bT,iV 0]++(List.replicate 32 [iV 0,uV 0]).flatten) 244 e,Sl 203 2 u 0 y (fl He []),Cl b [pV i,iV n,iV m,pV k,sp e 0,sp e 1,sp e 2,pV j] 149,Cl i [pV l] 143,Cl l (pV o::iV n::fl Ce (F256.set s true)) 237,Tb o n A,Cl j [bT,iV 0,uV 0,iV 0,uV 0,iV 0,uV 0,iV 0,uV 0,iV 0,uV 0,iV 0,uV 0,iV 0,uV 0,iV 0,uV 0] 241,Cl k ([bT,iV 0,iV q,uV t]++(List.replicate 31 [iV 0,uV 0]).flatten) 244,R]:=Ry hpj S.d.d.b.t11
 have U:sat g _ (BY b n m A s gn::_):=Dl b n m A s gn i l o j k e q t z C D E F G H T.x.x.x.x.x.x.t9
 exact en _ [] ⟨_,_,rfl,⟨u,y,rfl,rfl⟩,U.B.t2⟩
theorem gS(b n m:Nat)(A:List AM)(s:Nat)(gn:Int)(j:Nat)(_:0≤(m:Int)-(j:Int)-1):HT prog 265 [pV b,iV j] [BY b n m A s gn] (fun v K=> ∃(p:Option Addr) (c:Nat),v=.tuple #[.slice p 0 c,iV 0]∧K= [BY b n m A s gn]):=by
 cases j with
 |zero=>exact ZQ b n m A s gn
 |succ jj=>exact ZR b n m A s gn jj om
theorem gT(b n m:Nat)(A:List AM)(s:Nat)(gn:Int):HQ 436 [pV b,.agg #[iV s,uV gn]] [BY b n m A s gn] (.tuple #[.agg #[iV 0,iV 0,uV 0,iV 0,uV 0,iV 0,uV 0,iV 0,uV 0,bT],iV 0]) [BY b n m A s gn]:=by
 refine AC func436 ntmps436 fun g w0 R h0=> ?_
 obtain⟨i,l,o,j,k,d,t,u,y,z,B,C,p,D,E,F⟩:=D0 h0
 have G:sat g _ (Cl b [pV i,iV n,iV m,pV k,sp d 0,sp d 1,sp d 2,pV j] 149::_):=F
 refine g0<|nP 203 [iV s,uV gn] G (fun Q _ H=> ?_)
 refine nP 234 [iV 0,iV 0,uV 0,iV 0,uV 0,iV 0,uV 0,iV 0,uV 0,bF] H (fun S _ I=> ?_)
 have J:=I.b.t10
 refine g0<|AF call110 (B9 b i n m k (sp d 0) (sp d 1) (sp d 2) j) J fun _ L=>g0<|dw (AE [0,1,2,3,4,5,6,7] (Tr.an 8 (AE [9,10] (Tr.an 11 (Tr.fl 12 Tr.nil))))) L fun _ f=> ?_
 have M:=f.e.e.t10
 refine go [rd 3 3 0 0 1 f,rd 3 6 3 0 1 f,rd 3 7 2 0 2 f]<|FN call465 (gQ l o n A s gn p om om om) M fun _ N=>⟨kd [],?_⟩
 have O:=N.c.t10
 refine g0<|sB [iV 0,iV 0,uV 0,iV 0,uV 0,iV 0,uV 0,iV 0,uV 0,bT] O fun T q=>⟨kd [],?_⟩
 refine g0 ?_
 have P:sat g _ (BY b n m A s gn::_):=Dl b n m A s gn i l o j k d t u y z B C p D E q.h.h.h.e.e.h.x.t10
 exact AD _ [rd 0 0 0 0 10 q] P.c.a.t2
theorem ZS(b n m:Nat)(A:List AM)(s:Nat)(gn:Int):HQ 446 [pV b,.agg #[iV s,uV gn]] [BY b n m A s gn] (iV 0) [B2 b n m (Ak A s gn)]:=by
 refine AC func446 ntmps446 fun g w0 R h0=> ?_
 obtain⟨i,l,o,j,k,c,q,t,u,y,z,C,p,M,N,D⟩:=D0 h0
 have E:sat g _ (Cl b [pV i,iV n,iV m,pV k,sp c 0,sp c 1,sp c 2,pV j] 149::_):=D
 refine g0<|nP 203 [iV s,uV gn] E (fun O _ F=> ?_)
 have G:=F.a.t9
 refine g0<|AF call110 (B9 b i n m k (sp c 0) (sp c 1) (sp c 2) j) G fun _ H=>g0<|dw (AE [0,1,2,3,4,5,6,7] (Tr.an 8 (Tr.fl 9 Tr.nil))) H fun _ e=> ?_
 have I:=e.d.d.t9
 refine go [rd 3 3 0 0 1 e,rd 3 6 2 0 1 e,rd 3 7 1 0 2 e]<|FN call468 (ZJ l o n A s gn p om om om) I fun P J=>⟨kd [],?_⟩
 refine g0 ?_
 have L:sat g _ (B2 b n m (Ak A s gn)::_):=BQ b n m (Ak A s gn) i l o j k c q t u y z C (gP p) J.x.x.x.d.d.x.f.t9
 exact AD _ [] L.B.t2
theorem gU(n:Nat)(gn:Int)(_:0≤(n:Int)-1)(_:0≤ -(n:Int)+256)(_:0≤gn-1)(_:0≤ -gn+4294967295):HT prog 59 [iV n,uV gn] [] (fun v K=> ∃a:Nat,∃t2:Nat,v= .tuple #[pV a,iV 0]∧K= [Cl a (pV t2::iV n::fl Ce F256) 237,Tb t2 n (List.replicate n (0,gn))]):=by
 refine AC func59 ntmps59 fun g w0 R h0=>go [.v 1 1 (oF ((n:Int)<1)),.v 1 4 (oF ((n:Int)>256)),.v 1 8 (oF (gn<1))]<|cP call67 (Hi n om gn om) h0 ?_
 rintro v K _ (⟨b,rfl,rfl⟩) c
 have d:=B3 c
 refine g0<|nP 237 (pV b::iV n::fl Ce F256) d (fun e _ f=> ?_)
 refine g0 ?_
 exact en _ [] ⟨_,_,rfl,⟨e,b,rfl,rfl⟩,f⟩
theorem SY:HT prog 60 [] [] (fun v K=> ∃a:Nat,v=pV a∧K= [Cl a [bT,iV 0,uV 0,iV 0,uV 0,iV 0,uV 0,iV 0,uV 0,iV 0,uV 0,iV 0,uV 0,iV 0,uV 0,iV 0,uV 0] 241]):=by
 refine AC func60 ntmps60 fun g w0 R h0=>g0<|nP 241 [bT,iV 0,uV 0,iV 0,uV 0,iV 0,uV 0,iV 0,uV 0,iV 0,uV 0,iV 0,uV 0,iV 0,uV 0,iV 0,uV 0] h0 (fun a _ b=> ?_)
 refine g0 ?_
 exact en _ [] ⟨_,_,rfl,⟨a,rfl,rfl⟩,b⟩
theorem Fj:HT prog 61 [] [] (fun v K=> ∃a:Nat,v=pV a∧K= [Cl a ([bT,iV 0]++(List.replicate 32 [iV 0,uV 0]).flatten) 244]):=by
 refine AC func61 ntmps61 fun g w0 R h0=>g0<|nP 244 ([bT,iV 0]++(List.replicate 32 [iV 0,uV 0]).flatten) h0 (fun a _ b=> ?_)
 refine g0 ?_
 exact en _ [] ⟨_,_,rfl,⟨a,rfl,rfl⟩,b⟩
theorem gV(n m:Nat)(gn:Int)(_:0≤(n:Int)-1)(_:0≤ -(n:Int)+256)(_:0≤(m:Int)-1)(_:0≤ -(m:Int)+4)(_:0≤gn-1)(_:0≤ -gn+4294967295):HT prog 28 [iV n,iV m,uV gn] [] (fun v K=> ∃b:Nat,v= .tuple #[pV b,iV 0]∧K= [B2 b n m (List.replicate n (0,gn))]):=by
 refine AC func28 ntmps28 fun g w0 R h0=>g0<|cP call59 (gU n gn om om om om) h0 ?_
 rintro v K _ (⟨o,q,rfl,rfl⟩) I
 have J:=CW I
 refine go [.v 2 4 (oF ((m:Int)<1)),.v 2 8 (oF ((m:Int)>4))]<|nP 143 [pV o] J (fun j _ L=> ?_)
 refine g0<|cP call60 SY L ?_
 rintro v K _ (⟨k,rfl,rfl⟩) M
 have N:=B3 M
 refine g0<|nP 149 [pV j,iV n,iV m,pO,pO,pO,pO,pV k] N (fun e _ O=> ?_)
 refine g0<|DS 39<|go [.v 6 0 (oT (0<(m:Int)))]<|dw (AE [0,1,3,4] (Tr.an 2 (Tr.fl 5 (Tr.an 6 Tr.nil)))) O fun _ P=>g0<|cG call61 Fj P ?_
 rintro v K _ (⟨l,rfl,rfl⟩) Q
 have S:=B3 Q
 refine⟨kd [],?_⟩
 refine lw (.pointer (some ⟨e,3,none⟩)) (fun _=>AA (x:=Ot 44) (i:=Ot 41) (b:=e) (off:=3) (z:=0) kr underlying147 1 kr 0 kr kr om om 3 om _)<|sG [(3,pV l)] [pV j,iV n,iV m,pV l,pO,pO,pO,pV k] S.a.t7 fun T B=>⟨kd [],?_⟩
 refine g0<|Bm<|go [.s 6 0] ?_
 by_cases C:1<(m:Int)
 ·
  refine go [.v 6 0 (oT _ C)]<|dw (AE [0,1,3,4] (Tr.an 2 (Tr.fl 5 (Tr.an 6 Tr.nil)))) B fun _ U=>g0<|cG call61 Fj U ?_
  rintro v K _ (⟨d,rfl,rfl⟩) V
  have W:=B3 V
  refine⟨kd [],?_⟩
  refine lw (.pointer (some ⟨e,4,none⟩)) (fun _=>AA (x:=Ot 44) (i:=Ot 41) (b:=e) (off:=3) (z:=1) kr underlying147 1 kr 1 kr kr om om 4 om _)<|sG [(4,pV d)] [pV j,iV n,iV m,pV l,pV d,pO,pO,pV k] W.a.t8 fun D E=>⟨kd [],?_⟩
  refine g0<|Bm<|go [.s 6 0] ?_
  by_cases F:2<(m:Int);rotate_left
  ·
   refine go [.v 6 0 (oF _ F)]<|up<|g0 ?_
   have X:=Ic (cs:=([bT,iV 0]++(List.replicate 32 [iV 0,uV 0]).flatten)) (t:=244) E
   have Y:sat g D [Bs ([bT,iV 0]++(List.replicate 32 [iV 0,uV 0]).flatten) 244 [d],Cl e [pV j,iV n,iV m,pV l,pV d,pO,pO,pV k] 149,Cl l ([bT,iV 0]++(List.replicate 32 [iV 0,uV 0]).flatten) 244,Cl k [bT,iV 0,uV 0,iV 0,uV 0,iV 0,uV 0,iV 0,uV 0,iV 0,uV 0,iV 0,uV 0,iV 0,uV 0,iV 0,uV 0] 241,Cl j [pV o] 143,Cl o (pV q::iV n::fl Ce F256) 237,Tb q n (List.replicate n (0,gn)),R]:=EA X.b.t9
   have Z:sat g D [Cl e [pV j,iV n,iV m,pV l,sp [d] 0,sp [d] 1,sp [d] 2,pV k] 149,Cl j [pV o] 143,Cl o (pV q::iV n::fl Ce F256) 237,Tb q n (List.replicate n (0,gn)),Cl k [bT,iV 0,uV 0,iV 0,uV 0,iV 0,uV 0,iV 0,uV 0,iV 0,uV 0,iV 0,uV 0,iV 0,uV 0,iV 0,uV 0] 241,Cl l ([bT,iV 0]++(List.replicate 32 [iV 0,uV 0]).flatten) 244,Bs ([bT,iV 0]++(List.replicate 32 [iV 0,uV 0]).flatten) 244 [d],R]:=Y.b.c.f.f.f.f.t8
   have aa:sat g _ (B2 e n m (List.replicate n (0,gn))::_):=BQ e n m (List.replicate n (0,gn)) j o q k l [d] 0 0 (by rw[show ([d]:List Nat).length=1 from rfl];omega) om om om (GL _ om _ _) Z
   exact en _ [] ⟨_,_,rfl,⟨e,rfl,rfl⟩,aa⟩
  refine go [.v 6 0 (oT _ F)]<|dw (AE [0,1,3,4] (Tr.an 2 (Tr.fl 5 (Tr.an 6 Tr.nil)))) E fun _ ab=>g0<|cG call61 Fj ab ?_
  rintro v K _ (⟨p,rfl,rfl⟩) ac
  have ad:=B3 ac
  refine⟨kd [],?_⟩
  refine lw (.pointer (some ⟨e,5,none⟩)) (fun _=>AA (x:=Ot 44) (i:=Ot 41) (b:=e) (off:=3) (z:=2) kr underlying147 1 kr 2 kr kr om om 5 om _)<|sG [(5,pV p)] [pV j,iV n,iV m,pV l,pV d,pV p,pO,pV k] ad.a.t9 fun A G=>⟨kd [],?_⟩
  refine g0<|Bm<|go [.s 6 0] ?_
  by_cases H:3<(m:Int)
  ·
   refine go [.v 6 0 (oT _ H)]<|dw (AE [0,1,3,4] (Tr.an 2 (Tr.fl 5 (Tr.an 6 Tr.nil)))) G fun _ ae=>g0<|cG call61 Fj ae ?_
   rintro v K _ (⟨u,rfl,rfl⟩) af
   have ag:=B3 af
   refine⟨kd [],?_⟩
   refine lw (.pointer (some ⟨e,6,none⟩)) (fun _=>AA (x:=Ot 44) (i:=Ot 41) (b:=e) (off:=3) (z:=3) kr underlying147 1 kr 3 kr kr om om 6 om _)<|sG [(6,pV u)] [pV j,iV n,iV m,pV l,pV d,pV p,pV u,pV k] ag.a.t10 fun y ah=>⟨kd [],?_⟩
   refine g0<|Bm<|go [.v 6 0 (oF (4<(m:Int)))]<|up<|g0 ?_
   have ai:=Ic (cs:=([bT,iV 0]++(List.replicate 32 [iV 0,uV 0]).flatten)) (t:=244) ah
   have aj:sat g y [Bs ([bT,iV 0]++(List.replicate 32 [iV 0,uV 0]).flatten) 244 [u],Cl e [pV j,iV n,iV m,pV l,pV d,pV p,pV u,pV k] 149,Cl p ([bT,iV 0]++(List.replicate 32 [iV 0,uV 0]).flatten) 244,Cl d ([bT,iV 0]++(List.replicate 32 [iV 0,uV 0]).flatten) 244,Cl l ([bT,iV 0]++(List.replicate 32 [iV 0,uV 0]).flatten) 244,Cl k [bT,iV 0,uV 0,iV 0,uV 0,iV 0,uV 0,iV 0,uV 0,iV 0,uV 0,iV 0,uV 0,iV 0,uV 0,iV 0,uV 0] 241,Cl j [pV o] 143,Cl o (pV q::iV n::fl Ce F256) 237,Tb q n (List.replicate n (0,gn)),R]:=EA ai.b.t11
   have ak:sat g y [Bs ([bT,iV 0]++(List.replicate 32 [iV 0,uV 0]).flatten) 244 [p,u],Cl e [pV j,iV n,iV m,pV l,pV d,pV p,pV u,pV k] 149,Cl d ([bT,iV 0]++(List.replicate 32 [iV 0,uV 0]).flatten) 244,Cl l ([bT,iV 0]++(List.replicate 32 [iV 0,uV 0]).flatten) 244,Cl k [bT,iV 0,uV 0,iV 0,uV 0,iV 0,uV 0,iV 0,uV 0,iV 0,uV 0,iV 0,uV 0,iV 0,uV 0,iV 0,uV 0] 241,Cl j [pV o] 143,Cl o (pV q::iV n::fl Ce F256) 237,Tb q n (List.replicate n (0,gn)),R]:=EA aj.b.t10
   have al:sat g y [Bs ([bT,iV 0]++(List.replicate 32 [iV 0,uV 0]).flatten) 244 [d,p,u],Cl e [pV j,iV n,iV m,pV l,pV d,pV p,pV u,pV k] 149,Cl l ([bT,iV 0]++(List.replicate 32 [iV 0,uV 0]).flatten) 244,Cl k [bT,iV 0,uV 0,iV 0,uV 0,iV 0,uV 0,iV 0,uV 0,iV 0,uV 0,iV 0,uV 0,iV 0,uV 0,iV 0,uV 0] 241,Cl j [pV o] 143,Cl o (pV q::iV n::fl Ce F256) 237,Tb q n (List.replicate n (0,gn)),R]:=EA ak.b.t9
   have am:sat g y [Cl e [pV j,iV n,iV m,pV l,sp [d,p,u] 0,sp [d,p,u] 1,sp [d,p,u] 2,pV k] 149,Cl j [pV o] 143,Cl o (pV q::iV n::fl Ce F256) 237,Tb q n (List.replicate n (0,gn)),Cl k [bT,iV 0,uV 0,iV 0,uV 0,iV 0,uV 0,iV 0,uV 0,iV 0,uV 0,iV 0,uV 0,iV 0,uV 0,iV 0,uV 0] 241,Cl l ([bT,iV 0]++(List.replicate 32 [iV 0,uV 0]).flatten) 244,Bs ([bT,iV 0]++(List.replicate 32 [iV 0,uV 0]).flatten) 244 [d,p,u],R]:=al.b.c.f.f.f.f.t8
   have ao:sat g _ (B2 e n m (List.replicate n (0,gn))::_):=BQ e n m (List.replicate n (0,gn)) j o q k l [d,p,u] 0 0 (by rw[show ([d,p,u]:List Nat).length=3 from rfl];omega) om om om (GL _ om _ _) am
   exact en _ [] ⟨_,_,rfl,⟨e,rfl,rfl⟩,ao⟩
  refine go [.v 6 0 (oF _ H)]<|up<|g0 ?_
  have ap:=Ic (cs:=([bT,iV 0]++(List.replicate 32 [iV 0,uV 0]).flatten)) (t:=244) G
  have aq:sat g A [Bs ([bT,iV 0]++(List.replicate 32 [iV 0,uV 0]).flatten) 244 [p],Cl e [pV j,iV n,iV m,pV l,pV d,pV p,pO,pV k] 149,Cl d ([bT,iV 0]++(List.replicate 32 [iV 0,uV 0]).flatten) 244,Cl l ([bT,iV 0]++(List.replicate 32 [iV 0,uV 0]).flatten) 244,Cl k [bT,iV 0,uV 0,iV 0,uV 0,iV 0,uV 0,iV 0,uV 0,iV 0,uV 0,iV 0,uV 0,iV 0,uV 0,iV 0,uV 0] 241,Cl j [pV o] 143,Cl o (pV q::iV n::fl Ce F256) 237,Tb q n (List.replicate n (0,gn)),R]:=EA ap.b.t10
  have ar:sat g A [Bs ([bT,iV 0]++(List.replicate 32 [iV 0,uV 0]).flatten) 244 [d,p],Cl e [pV j,iV n,iV m,pV l,pV d,pV p,pO,pV k] 149,Cl l ([bT,iV 0]++(List.replicate 32 [iV 0,uV 0]).flatten) 244,Cl k [bT,iV 0,uV 0,iV 0,uV 0,iV 0,uV 0,iV 0,uV 0,iV 0,uV 0,iV 0,uV 0,iV 0,uV 0,iV 0,uV 0] 241,Cl j [pV o] 143,Cl o (pV q::iV n::fl Ce F256) 237,Tb q n (List.replicate n (0,gn)),R]:=EA aq.b.t9
  have au:sat g A [Cl e [pV j,iV n,iV m,pV l,sp [d,p] 0,sp [d,p] 1,sp [d,p] 2,pV k] 149,Cl j [pV o] 143,Cl o (pV q::iV n::fl Ce F256) 237,Tb q n (List.replicate n (0,gn)),Cl k [bT,iV 0,uV 0,iV 0,uV 0,iV 0,uV 0,iV 0,uV 0,iV 0,uV 0,iV 0,uV 0,iV 0,uV 0,iV 0,uV 0] 241,Cl l ([bT,iV 0]++(List.replicate 32 [iV 0,uV 0]).flatten) 244,Bs ([bT,iV 0]++(List.replicate 32 [iV 0,uV 0]).flatten) 244 [d,p],R]:=ar.b.c.f.f.f.f.t8
  have av:sat g _ (B2 e n m (List.replicate n (0,gn))::_):=BQ e n m (List.replicate n (0,gn)) j o q k l [d,p] 0 0 (by rw[show ([d,p]:List Nat).length=2 from rfl];omega) om om om (GL _ om _ _) au
  exact en _ [] ⟨_,_,rfl,⟨e,rfl,rfl⟩,av⟩
 refine go [.v 6 0 (oF _ C)]<|up<|g0 ?_
 have aw:=Ic (cs:=([bT,iV 0]++(List.replicate 32 [iV 0,uV 0]).flatten)) (t:=244) B
 have ax:sat g T [Cl e [pV j,iV n,iV m,pV l,sp [] 0,sp [] 1,sp [] 2,pV k] 149,Cl j [pV o] 143,Cl o (pV q::iV n::fl Ce F256) 237,Tb q n (List.replicate n (0,gn)),Cl k [bT,iV 0,uV 0,iV 0,uV 0,iV 0,uV 0,iV 0,uV 0,iV 0,uV 0,iV 0,uV 0,iV 0,uV 0,iV 0,uV 0] 241,Cl l ([bT,iV 0]++(List.replicate 32 [iV 0,uV 0]).flatten) 244,Bs ([bT,iV 0]++(List.replicate 32 [iV 0,uV 0]).flatten) 244 [],R]:=aw.b.c.f.f.f.f.t8
 have ay:sat g _ (B2 e n m (List.replicate n (0,gn))::_):=BQ e n m (List.replicate n (0,gn)) j o q k l [] 0 0 (by rw[show ([]:List Nat).length=0 from rfl];omega) om om om (GL _ om _ _) ax
 exact en _ [] ⟨_,_,rfl,⟨e,rfl,rfl⟩,ay⟩
def gW(b n m:Nat)(ph cy sn:Int)(ck pt sk:Nat)(p:Option Addr)(c:Nat)(qs:List Nat)(zz yy:Int):List AB:= [Cl b [iV n,iV m,pV ck,pV pt,pV sk,Value.slice p m c] 250,Cl ck [iV ph,iV m,iV cy,Value.bool (decide (0<sn)),Value.bool (decide (1<sn)),Value.bool (decide (2<sn)),Value.bool (decide (3<sn)),Value.bool (decide (0<(m:Int))),Value.bool (decide (1<(m:Int))),Value.bool (decide (2<(m:Int))),Value.bool (decide (3<(m:Int)))] 340,Cl pt ([iV n]++List.replicate 256 (yV 0)) 336,Cl sk ([Value.bool false,iV 0,iV zz]++List.replicate 65 (iV 0)) 344,Sl 257 1 p m c (fl KY qs),Bs (List.replicate 64 (iV 0)++ [iV yy,iV 0,iV 0,Value.bool true]) 346 qs]
def Mr(b n m:Nat)(ph cy sn:Int):AB:=fun h=> ∃ck:Nat,∃pt:Nat,∃sk:Nat,∃p:Option Addr,∃c:Nat,∃qs:List Nat,∃zz:Int,∃yy:Int,(qs.length=m)∧(1≤m)∧(m≤4)∧(1≤n)∧(n≤256)∧(1≤zz∧zz≤64)∧(1≤yy∧yy≤64)∧Aj (gW b n m ph cy sn ck pt sk p c qs zz yy) h
theorem Bq{g w:World}{L_:List AB}{b:Nat}{n:Nat}{m:Nat}{ph:Int}{cy:Int}{sn:Int}(h:sat g w (Mr b n m ph cy sn::L_)): ∃ck:Nat,∃pt:Nat,∃sk:Nat,∃p:Option Addr,∃c:Nat,∃qs:List Nat,∃zz:Int,∃yy:Int,(qs.length=m)∧(1≤m)∧(m≤4)∧(1≤n)∧(n≤256)∧(1≤zz∧zz≤64)∧(1≤yy∧yy≤64)∧sat g w (gW b n m ph cy sn ck pt sk p c qs zz yy++L_):=by
 obtain⟨⟨ck,pt,sk,p,c,qs,zz,yy⟩,hp,h2⟩:=Af (X:=Nat×Nat×Nat×(Option Addr)×Nat×(List Nat)×Int×Int) (p:=fun q_=>(q_.2.2.2.2.2.1.length=m)∧(1≤m)∧(m≤4)∧(1≤n)∧(n≤256)∧(1≤q_.2.2.2.2.2.2.1∧q_.2.2.2.2.2.2.1≤64)∧(1≤q_.2.2.2.2.2.2.2∧q_.2.2.2.2.2.2.2≤64)) (B:=fun q_=>Aj (gW b n m ph cy sn q_.1 q_.2.1 q_.2.2.1 q_.2.2.2.1 q_.2.2.2.2.1 q_.2.2.2.2.2.1 q_.2.2.2.2.2.2.1 q_.2.2.2.2.2.2.2)) h (fun _ hk=>by obtain⟨ck,pt,sk,p,c,qs,zz,yy,a,d,e,f,i,j,k,hk⟩:=hk;exact⟨(ck,pt,sk,p,c,qs,zz,yy),⟨a,d,e,f,i,j,k⟩,hk⟩)
 exact⟨ck,pt,sk,p,c,qs,zz,yy,hp.1,hp.2.1,hp.2.2.1,hp.2.2.2.1,hp.2.2.2.2.1,hp.2.2.2.2.2.1,hp.2.2.2.2.2.2,AK h2⟩
theorem BR{g w:World}{L_:List AB}(b n m:Nat)(ph cy sn:Int)(ck pt sk:Nat)(p:Option Addr)(c:Nat)(qs:List Nat)(zz yy:Int)(a:qs.length=m)(d:1≤m)(e:m≤4)(f:1≤n)(i:n≤256)(j:1≤zz∧zz≤64)(k:1≤yy∧yy≤64)(h:sat g w (gW b n m ph cy sn ck pt sk p c qs zz yy++L_)):sat g w (Mr b n m ph cy sn::L_):=AI (AO h) fun _ hk=>⟨ck,pt,sk,p,c,qs,zz,yy,a,d,e,f,i,j,k,hk⟩
theorem JF(f a:Nat)(i:Int)(b c d e:Bool)(_:0≤(a:Int)-1):HQ 232 [pV f] [Cl f [iV 1,iV a,iV i,.bool b,.bool c,.bool d,.bool e,.bool b,.bool c,.bool d,.bool e] 340] (bT) [Cl f [iV 1,iV a,iV i,.bool b,.bool c,.bool d,.bool e,.bool b,.bool c,.bool d,.bool e] 340]:=by
 refine AC func232 ntmps232 fun g w0 R j=>go [rd 1 6 0 1 1 j,.v 1 7 (oT ((a:Int)>0))] ?_
 exact AD _ [] j
theorem Hy(e f:Nat)(i:Int)(a b c d:Bool):HQ 394 [pV e] [Cl e [iV 1,iV f,iV i,.bool a,.bool b,.bool c,.bool d,.bool a,.bool b,.bool c,.bool d] 340] (bT) [Cl e [iV 1,iV f,iV i,.bool a,.bool b,.bool c,.bool d,.bool a,.bool b,.bool c,.bool d] 340]:=by
 refine AC func394 ntmps394 fun g w0 R j=>go [rd 1 3 0 0 1 j] ?_
 exact AD _ [] j
theorem UY(b m:Nat)(cy:Int)(a c d e:Bool)(_:0≤(m:Int)-1)(_:0≤ -(m:Int)+4):HQ 466 [pV b] [Cl b [iV 1,iV m,iV cy,.bool a,.bool c,.bool d,.bool e,.bool a,.bool c,.bool d,.bool e] 340] (bT) [Cl b [iV 1,iV m,iV cy,.bool a,.bool c,.bool d,.bool e,.bool a,.bool c,.bool d,.bool e] 340]:=by
 refine AC func466 ntmps466 fun g w0 R h0=>g0<|dw (Tr.fl 0 (Tr.an 1 (AE [2,3] (Tr.an 4 (AE [5,6,7,8,9,10,11,12,13,14,15,16,17] Tr.nil))))) h0 fun _ i=>g0<|BZ call232 (JF b m cy a c d e om) i fun _ j=>⟨kd [],?_⟩
 refine g0<|BZ call394 (Hy b m cy a c d e) j fun _ f=>⟨kd [],?_⟩
 refine go [rd 1 10 0 3 4 f,rd 1 14 0 7 4 f,.s 1 15]<|lw (.bool true) (fun _=>Nw (x:=Ot 13) (y:=Ot 17) (t:=338) (xs:= #[.bool a,.bool c,.bool d,.bool e]) kr kr kr kr kr kr kr _)<|g0 ?_
 exact AD _ [] f
theorem QM(b a:Nat)(c:Int)(d e f i j k l m:Bool)(_:0≤(a:Int)-1):HQ 232 [pV b] [Cl b [iV 1,iV a,iV c,.bool d,.bool e,.bool f,.bool i,.bool j,.bool k,.bool l,.bool m] 340] (bT) [Cl b [iV 1,iV a,iV c,.bool d,.bool e,.bool f,.bool i,.bool j,.bool k,.bool l,.bool m] 340]:=by
 refine AC func232 ntmps232 fun g w0 R o=>go [rd 1 6 0 1 1 o,.v 1 7 (oT ((a:Int)>0))] ?_
 exact AD _ [] o
theorem SZ(b c a:Nat)(d:Int)(e f i j k l m o:Bool)(_:0≤(a:Int)-(c:Int)-1):HQ 326 [pV b,iV c] [Cl b [iV 1,iV a,iV d,.bool e,.bool f,.bool i,.bool j,.bool k,.bool l,.bool m,.bool o] 340] (iV 0) [Cl b [iV 1,iV a,iV d,.bool e,.bool f,.bool i,.bool j,.bool k,.bool l,.bool m,.bool o] 340]:=by
 refine AC func326 ntmps326 fun g w0 R h0=>g0<|AF call232 (QM b a d e f i j k l m o om) h0 fun _ p=>go [.v 3 1 (oF ((c:Int)<0)),rd 3 7 0 1 1 p,.v 3 8 (oF ((c:Int)≥(a:Int)))] ?_
 exact AD _ [] p
theorem Nz(a b:Nat)(c:Int)(d e f i j k l m:Bool):HQ 394 [pV a] [Cl a [iV 1,iV b,iV c,.bool d,.bool e,.bool f,.bool i,.bool j,.bool k,.bool l,.bool m] 340] (bT) [Cl a [iV 1,iV b,iV c,.bool d,.bool e,.bool f,.bool i,.bool j,.bool k,.bool l,.bool m] 340]:=by
 refine AC func394 ntmps394 fun g w0 R o=>go [rd 1 3 0 0 1 o] ?_
 exact AD _ [] o
theorem ZT(b m:Nat)(cy:Int)(j:Nat)(a c d e:Bool)(_:0≤(m:Int)-1)(_:0≤ -(m:Int)+4)(_:0≤(m:Int)-(j:Int)-1):HQ 332 [pV b,iV j] [Cl b [iV 1,iV m,iV cy,.bool (decide (0<(j:Int))),.bool (decide (1<(j:Int))),.bool (decide (2<(j:Int))),.bool (decide (3<(j:Int))),.bool a,.bool c,.bool d,.bool e] 340] (.tuple #[bT,iV 0]) [Cl b [iV 1,iV m,iV cy,.bool (decide (0<(j:Int)+1)),.bool (decide (1<(j:Int)+1)),.bool (decide (2<(j:Int)+1)),.bool (decide (3<(j:Int)+1)),.bool a,.bool c,.bool d,.bool e] 340]:=by
 refine AC func332 ntmps332 fun g w0 R h0=>g0<|AF call326 (SZ b j m cy (decide (0<(j:Int))) (decide (1<(j:Int))) (decide (2<(j:Int))) (decide (3<(j:Int))) a c d e om) h0 fun _ k=>g0<|AF call394 (Nz b m cy (decide (0<(j:Int))) (decide (1<(j:Int))) (decide (2<(j:Int))) (decide (3<(j:Int))) a c d e) k fun _ f=>go [.s 6 4]<|AS (.pointer (some ⟨b,j+3,none⟩)) (AA (x:=Ot 20) (i:=Ot 18) (b:=b) (off:=3) (z:=(j:Int)) kr underlying338 1 kr j kr kr om om (j+3) om _)<|go [.r 6 5 b (j+3) [bF] ⟨AL f 0 rfl (kZ (j:=j) rfl om om),trivial⟩,.s 7 4]<|AS (.pointer (some ⟨b,j+3,none⟩)) (AA (x:=Ot 27) (i:=Ot 25) (b:=b) (off:=3) (z:=(j:Int)) kr underlying338 1 kr j kr kr om om (j+3) om _) ?_
 refine AH ?_
 refine Bc [(j+3,bT)] (cs':= [iV 1,iV m,iV cy,.bool (decide (0<(j:Int)+1)),.bool (decide (1<(j:Int)+1)),.bool (decide (2<(j:Int)+1)),.bool (decide (3<(j:Int)+1)),.bool a,.bool c,.bool d,.bool e]) kr kr (lA (j:=j) om om) (ZC (j:=j) rfl om om) f ?_
 intro _ l
 refine Gq<|g0 ?_
 exact AD _ [] l
theorem JG(f a:Nat)(i:Int)(b c d e:Bool)(_:0≤(a:Int)-1):HQ 232 [pV f] [Cl f [iV 2,iV a,iV i,.bool b,.bool c,.bool d,.bool e,.bool b,.bool c,.bool d,.bool e] 340] (bT) [Cl f [iV 2,iV a,iV i,.bool b,.bool c,.bool d,.bool e,.bool b,.bool c,.bool d,.bool e] 340]:=by
 refine AC func232 ntmps232 fun g w0 R j=>go [rd 1 6 0 1 1 j,.v 1 7 (oT ((a:Int)>0))] ?_
 exact AD _ [] j
theorem Hz(e f:Nat)(i:Int)(a b c d:Bool):HQ 394 [pV e] [Cl e [iV 2,iV f,iV i,.bool a,.bool b,.bool c,.bool d,.bool a,.bool b,.bool c,.bool d] 340] (bT) [Cl e [iV 2,iV f,iV i,.bool a,.bool b,.bool c,.bool d,.bool a,.bool b,.bool c,.bool d] 340]:=by
 refine AC func394 ntmps394 fun g w0 R j=>go [rd 1 3 0 0 1 j,rd 1 9 0 0 1 j] ?_
 exact AD _ [] j
theorem UZ(b m:Nat)(cy:Int)(a c d e:Bool)(_:0≤(m:Int)-1)(_:0≤ -(m:Int)+4):HQ 466 [pV b] [Cl b [iV 2,iV m,iV cy,.bool a,.bool c,.bool d,.bool e,.bool a,.bool c,.bool d,.bool e] 340] (bT) [Cl b [iV 2,iV m,iV cy,.bool a,.bool c,.bool d,.bool e,.bool a,.bool c,.bool d,.bool e] 340]:=by
 refine AC func466 ntmps466 fun g w0 R h0=>g0<|dw (Tr.fl 0 (Tr.an 1 (AE [2,3] (Tr.an 4 (AE [5,6,7,8,9,10,11,12,13,14,15,16,17] Tr.nil))))) h0 fun _ i=>g0<|BZ call232 (JG b m cy a c d e om) i fun _ j=>⟨kd [],?_⟩
 refine g0<|BZ call394 (Hz b m cy a c d e) j fun _ f=>⟨kd [],?_⟩
 refine go [rd 1 10 0 3 4 f,rd 1 14 0 7 4 f,.s 1 15]<|lw (.bool true) (fun _=>Nw (x:=Ot 13) (y:=Ot 17) (t:=338) (xs:= #[.bool a,.bool c,.bool d,.bool e]) kr kr kr kr kr kr kr _)<|g0 ?_
 exact AD _ [] f
theorem N0(b a:Nat)(c:Int)(d e f:Bool)(_:0≤(a:Int)-1):HQ 232 [pV b] [Cl b [iV 2,iV a,iV c,bF,bF,bF,bF,bT,.bool d,.bool e,.bool f] 340] (bT) [Cl b [iV 2,iV a,iV c,bF,bF,bF,bF,bT,.bool d,.bool e,.bool f] 340]:=by
 refine AC func232 ntmps232 fun g w0 R i=>go [rd 1 6 0 1 1 i,.v 1 7 (oT ((a:Int)>0))] ?_
 exact AD _ [] i
theorem LU(a b:Nat)(c:Int)(d e f:Bool):HQ 394 [pV a] [Cl a [iV 2,iV b,iV c,bF,bF,bF,bF,bT,.bool d,.bool e,.bool f] 340] (bT) [Cl a [iV 2,iV b,iV c,bF,bF,bF,bF,bT,.bool d,.bool e,.bool f] 340]:=by
 refine AC func394 ntmps394 fun g w0 R i=>go [rd 1 3 0 0 1 i,rd 1 9 0 0 1 i] ?_
 exact AD _ [] i
theorem gY(b m:Nat)(cy:Int)(a c d:Bool)(_:0≤(m:Int)-1)(_:0≤ -(m:Int)+4):HQ 466 [pV b] [Cl b [iV 2,iV m,iV cy,bF,bF,bF,bF,bT,.bool a,.bool c,.bool d] 340] (bF) [Cl b [iV 2,iV m,iV cy,bF,bF,bF,bF,bT,.bool a,.bool c,.bool d] 340]:=by
 refine AC func466 ntmps466 fun g w0 R h0=>g0<|dw (Tr.fl 0 (Tr.an 1 (AE [2,3] (Tr.an 4 (AE [5,6,7,8,9,10,11,12,13,14,15,16,17] Tr.nil))))) h0 fun _ f=>g0<|BZ call232 (N0 b m cy a c d om) f fun _ i=>⟨kd [],?_⟩
 refine g0<|BZ call394 (LU b m cy a c d) i fun _ e=>⟨kd [],?_⟩
 refine go [rd 1 10 0 3 4 e,rd 1 14 0 7 4 e,.s 1 15]<|lw (.bool false) (fun _=>gL (x:=Ot 13) (y:=Ot 17) (t:=338) (xs:= #[.bool false,.bool false,.bool false,.bool false]) (ys:= #[.bool true,.bool a,.bool c,.bool d]) kr kr kr kr kr kr kr [.bool false,.bool false,.bool false,.bool false] [.bool true,.bool a,.bool c,.bool d] kr kr (by intro h_;cases congrArg (fun l_:List Lit=>l_[0]?) h_) _) ?_
 refine g0 ?_
 exact AD _ [] e
theorem N1(b a:Nat)(c:Int)(d e f i j k l m:Bool)(_:0≤(a:Int)-1):HQ 232 [pV b] [Cl b [iV 2,iV a,iV c,.bool d,.bool e,.bool f,.bool i,.bool j,.bool k,.bool l,.bool m] 340] (bT) [Cl b [iV 2,iV a,iV c,.bool d,.bool e,.bool f,.bool i,.bool j,.bool k,.bool l,.bool m] 340]:=by
 refine AC func232 ntmps232 fun g w0 R o=>go [rd 1 6 0 1 1 o,.v 1 7 (oT ((a:Int)>0))] ?_
 exact AD _ [] o
theorem QN(b c a:Nat)(d:Int)(e f i j k l m o:Bool)(_:0≤(a:Int)-(c:Int)-1):HQ 326 [pV b,iV c] [Cl b [iV 2,iV a,iV d,.bool e,.bool f,.bool i,.bool j,.bool k,.bool l,.bool m,.bool o] 340] (iV 0) [Cl b [iV 2,iV a,iV d,.bool e,.bool f,.bool i,.bool j,.bool k,.bool l,.bool m,.bool o] 340]:=by
 refine AC func326 ntmps326 fun g w0 R h0=>g0<|AF call232 (N1 b a d e f i j k l m o om) h0 fun _ p=>go [.v 3 1 (oF ((c:Int)<0)),rd 3 7 0 1 1 p,.v 3 8 (oF ((c:Int)≥(a:Int)))] ?_
 exact AD _ [] p
theorem LV(a b:Nat)(c:Int)(d e f i j k l m:Bool):HQ 394 [pV a] [Cl a [iV 2,iV b,iV c,.bool d,.bool e,.bool f,.bool i,.bool j,.bool k,.bool l,.bool m] 340] (bT) [Cl a [iV 2,iV b,iV c,.bool d,.bool e,.bool f,.bool i,.bool j,.bool k,.bool l,.bool m] 340]:=by
 refine AC func394 ntmps394 fun g w0 R o=>go [rd 1 3 0 0 1 o,rd 1 9 0 0 1 o] ?_
 exact AD _ [] o
theorem ZU(b m:Nat)(cy:Int)(j:Nat)(a c d e:Bool)(_:0≤(m:Int)-1)(_:0≤ -(m:Int)+4)(_:0≤(m:Int)-(j:Int)-1):HQ 332 [pV b,iV j] [Cl b [iV 2,iV m,iV cy,.bool (decide (0<(j:Int))),.bool (decide (1<(j:Int))),.bool (decide (2<(j:Int))),.bool (decide (3<(j:Int))),.bool a,.bool c,.bool d,.bool e] 340] (.tuple #[bT,iV 0]) [Cl b [iV 2,iV m,iV cy,.bool (decide (0<(j:Int)+1)),.bool (decide (1<(j:Int)+1)),.bool (decide (2<(j:Int)+1)),.bool (decide (3<(j:Int)+1)),.bool a,.bool c,.bool d,.bool e] 340]:=by
 refine AC func332 ntmps332 fun g w0 R h0=>g0<|AF call326 (QN b j m cy (decide (0<(j:Int))) (decide (1<(j:Int))) (decide (2<(j:Int))) (decide (3<(j:Int))) a c d e om) h0 fun _ k=>g0<|AF call394 (LV b m cy (decide (0<(j:Int))) (decide (1<(j:Int))) (decide (2<(j:Int))) (decide (3<(j:Int))) a c d e) k fun _ f=>go [.s 6 4]<|AS (.pointer (some ⟨b,j+3,none⟩)) (AA (x:=Ot 20) (i:=Ot 18) (b:=b) (off:=3) (z:=(j:Int)) kr underlying338 1 kr j kr kr om om (j+3) om _)<|go [.r 6 5 b (j+3) [bF] ⟨AL f 0 rfl (kZ (j:=j) rfl om om),trivial⟩,.s 7 4]<|AS (.pointer (some ⟨b,j+3,none⟩)) (AA (x:=Ot 27) (i:=Ot 25) (b:=b) (off:=3) (z:=(j:Int)) kr underlying338 1 kr j kr kr om om (j+3) om _) ?_
 refine AH ?_
 refine Bc [(j+3,bT)] (cs':= [iV 2,iV m,iV cy,.bool (decide (0<(j:Int)+1)),.bool (decide (1<(j:Int)+1)),.bool (decide (2<(j:Int)+1)),.bool (decide (3<(j:Int)+1)),.bool a,.bool c,.bool d,.bool e]) kr kr (lA (j:=j) om om) (ZC (j:=j) rfl om om) f ?_
 intro _ l
 refine Gq<|g0 ?_
 exact AD _ [] l
theorem BB(c a b d e f:Nat)(i:Option Addr)(j:Nat)(_:0≤(a:Int)-1):HQ 152 [pV c] [Cl c [iV a,iV b,pV d,pV e,pV f,.slice i b j] 250] (bT) [Cl c [iV a,iV b,pV d,pV e,pV f,.slice i b j] 250]:=by
 refine AC func152 ntmps152 fun g w0 R k=>go [rd 1 6 0 0 1 k,.v 1 7 (oT ((a:Int)>0))] ?_
 exact AD _ [] k
theorem CB(b a:Nat)(c d:Int)(e f i j k l m o:Bool)(_:0≤(a:Int)-1):HQ 232 [pV b] [Cl b [iV c,iV a,iV d,.bool e,.bool f,.bool i,.bool j,.bool k,.bool l,.bool m,.bool o] 340] (bT) [Cl b [iV c,iV a,iV d,.bool e,.bool f,.bool i,.bool j,.bool k,.bool l,.bool m,.bool o] 340]:=by
 refine AC func232 ntmps232 fun g w0 R p=>go [rd 1 6 0 1 1 p,.v 1 7 (oT ((a:Int)>0))] ?_
 exact AD _ [] p
theorem BM(a b:Nat)(c d:Int)(e f i j k l m o:Bool)(_:0≤(b:Int)-1):HQ 153 [pV a] [Cl a [iV c,iV b,iV d,.bool e,.bool f,.bool i,.bool j,.bool k,.bool l,.bool m,.bool o] 340] (iV c) [Cl a [iV c,iV b,iV d,.bool e,.bool f,.bool i,.bool j,.bool k,.bool l,.bool m,.bool o] 340]:=by
 refine AC func153 ntmps153 fun g w0 R h0=>g0<|AF call232 (CB a b c d e f i j k l m o om) h0 fun _ p=>go [rd 3 3 0 0 1 p] ?_
 exact AD _ [] p
theorem CI(b n m:Nat)(cy ph sn:Int):HQ 291 [pV b] [Mr b n m ph cy sn] (iV ph) [Mr b n m ph cy sn]:=by
 refine AC func291 ntmps291 fun g w0 R h0=> ?_
 obtain⟨c,d,e,f,i,k,l,o,p,q,s,t,u,x,y,z⟩:=Bq h0
 have A:sat g _ (Cl b [iV n,iV m,pV c,pV d,pV e,.slice f m i] 250::_):=z
 refine g0<|AF call152 (BB b n m c d e f i om) A fun _ j=> ?_
 have B:=j.a.t7
 refine go [rd 3 3 0 2 1 j]<|AF call153 (BM c m ph cy (decide (0<sn)) (decide (1<sn)) (decide (2<sn)) (decide (3<sn)) (decide (0<(m:Int))) (decide (1<(m:Int))) (decide (2<(m:Int))) (decide (3<(m:Int))) om) B fun E C=>g0 ?_
 have D:sat g _ (Mr b n m ph cy sn::_):=BR b n m ph cy sn c d e f i k l o p q s t u x y C.a.t7
 exact AD _ [] D
theorem LW(a b:Nat)(d c:Int)(e f i j k l m o:Bool)(_:0≤(b:Int)-1):HQ 397 [pV a] [Cl a [iV d,iV b,iV c,.bool e,.bool f,.bool i,.bool j,.bool k,.bool l,.bool m,.bool o] 340] (iV c) [Cl a [iV d,iV b,iV c,.bool e,.bool f,.bool i,.bool j,.bool k,.bool l,.bool m,.bool o] 340]:=by
 refine AC func397 ntmps397 fun g w0 R h0=>g0<|AF call232 (CB a b d c e f i j k l m o om) h0 fun _ p=>go [rd 3 3 0 2 1 p] ?_
 exact AD _ [] p
theorem yW(b n m:Nat)(cy ph sn:Int):HQ 342 [pV b] [Mr b n m ph cy sn] (iV cy) [Mr b n m ph cy sn]:=by
 refine AC func342 ntmps342 fun g w0 R h0=> ?_
 obtain⟨c,d,e,f,i,k,l,o,p,q,s,t,u,x,y,z⟩:=Bq h0
 have A:sat g _ (Cl b [iV n,iV m,pV c,pV d,pV e,.slice f m i] 250::_):=z
 refine g0<|AF call152 (BB b n m c d e f i om) A fun _ j=> ?_
 have B:=j.a.t7
 refine go [rd 3 3 0 2 1 j]<|AF call397 (LW c m ph cy (decide (0<sn)) (decide (1<sn)) (decide (2<sn)) (decide (3<sn)) (decide (0<(m:Int))) (decide (1<(m:Int))) (decide (2<(m:Int))) (decide (3<(m:Int))) om) B fun E C=>g0 ?_
 have D:sat g _ (Mr b n m ph cy sn::_):=BR b n m ph cy sn c d e f i k l o p q s t u x y C.a.t7
 exact AD _ [] D
theorem DN(b a:Nat)(_:0≤(a:Int)-1):HQ 246 [pV b] [Cl b ([iV a]++List.replicate 256 (yV 0)) 336] (bT) [Cl b ([iV a]++List.replicate 256 (yV 0)) 336]:=by
 refine AC func246 ntmps246 fun g w0 R c=>go [sF 1 6 0 0 1 c,.v 1 7 (oT ((a:Int)>0))] ?_
 exact AD _ [] c
theorem Sa(b c d e:Nat)(_:0≤ -(c:Int)+255):HQ 488 [.pointer (some ⟨b,c+1,none⟩),pV d] [Cl b ([iV e]++List.replicate 256 (yV 0)) 336,Cl d [iV 0] 3] (iV 0) [Cl b ([iV e]++List.replicate 256 (yV 0)) 336,Cl d [iV 0] 3]:=by
 refine AC func488 ntmps488 fun g w0 R f=> ?_
 have i:=f.a.t3
 refine go [.r 1 2 b (c+1) [yV 0] ⟨AL f 0 rfl (ZB (H:= [iV e]) (by show 1≤_;omega) (by show _<1+256;omega)),trivial⟩,.v 1 3 (CD 0)] ?_
 refine sA [iV 0] i fun _ j=>g0 ?_
 exact AD _ [] j.a.t3
theorem QO(d:Nat)(c:Int)(f e:Nat)(_:0≤c)(_:0≤(e:Int)-c-1)(_:0≤ -c+255):HQ 323 [pV d,iV c,.func (Fn.func 488) #[] #[pV f]] [Cl f [iV 0] 3,Cl d ([iV e]++List.replicate 256 (yV 0)) 336] (iV 0) [Cl f [iV 0] 3,Cl d ([iV e]++List.replicate 256 (yV 0)) 336]:=by
 refine AC func323 ntmps323 fun g w0 R h0=> ?_
 have k:=h0.a.t3
 refine g0<|AF call246 (DN d e om) k fun _ j=> ?_
 obtain⟨kk13,m⟩: ∃z_:Nat,c=(z_:Int):=⟨(c).toNat,by omega⟩
 refine go [.v 3 1 (oF (c<0)),sF 3 7 0 0 1 j,.v 3 8 (oF (c≥(e:Int))),.s 5 5]<|AS (.pointer (some ⟨d,kk13+1,none⟩)) (AA (x:=Ot 26) (i:=Ot 24) (b:=d) (off:=1) (z:=c) kr underlying334 1 kr kk13 kr kr om om (kk13+1) om _)<|DF call488 (Sa d kk13 f e om) j fun _ l=>g0 ?_
 exact AD _ [] l.a.t3
theorem Vz(c:Nat)(b:Int)(d:Nat)(_:0≤b)(_:0≤(d:Int)-b-1)(_:0≤ -b+255):HQ 464 [pV c,iV b] [Cl c ([iV d]++List.replicate 256 (yV 0)) 336] (.tuple #[iV 0,iV 0]) [Cl c ([iV d]++List.replicate 256 (yV 0)) 336]:=by
 refine AC func464 ntmps464 fun g w0 R h0=>g0<|nP 3 [iV 0] h0 (fun f _ i=> ?_)
 refine sA [iV 0] i fun _ j=>g0<|DF call323 (QO c b f d om om om) j fun _ e=>go [rd 3 0 0 0 1 e] ?_
 exact AD _ [] e.a.t3.b.a.t2
theorem H0(b n m:Nat)(cy ph sn sl:Int)(_:0≤sl)(_:0≤(n:Int)-sl-1):HQ 434 [pV b,iV sl] [Mr b n m ph cy sn] (.tuple #[bF,iV 0]) [Mr b n m ph cy sn]:=by
 refine AC func434 ntmps434 fun g w0 R h0=> ?_
 obtain⟨c,a,d,e,f,j,k,l,o,p,q,s,t,u,x,y⟩:=Bq h0
 have z:sat g _ (Cl b [iV n,iV m,pV c,pV a,pV d,.slice e m f] 250::_):=y
 refine g0<|AF call152 (BB b n m c a d e f om) z fun _ i=> ?_
 have A:=i.b.t7
 refine go [rd 3 3 0 3 1 i]<|AF call464 (Vz a sl n om om om) A fun D B=>g0 ?_
 have C:sat g _ (Mr b n m ph cy sn::_):=BR b n m ph cy sn c a d e f j k l o p q s t u x B.b.b.t7
 exact AD _ [] C
theorem QP(b a c:Nat)(_:0≤(a:Int)-1):HQ 323 [pV b,iV a,.func (Fn.func 488) #[] #[pV c]] [Cl b ([iV a]++List.replicate 256 (yV 0)) 336] (iV 3) [Cl b ([iV a]++List.replicate 256 (yV 0)) 336]:=by
 refine AC func323 ntmps323 fun g w0 R h0=>g0<|AF call246 (DN b a om) h0 fun _ d=>go [.v 3 1 (oF ((a:Int)<0)),sF 3 7 0 0 1 d,.v 3 8 (oT ((a:Int)≥(a:Int)))] ?_
 exact AD _ [] d
theorem V0(c b:Nat)(_:0≤(b:Int)-1):HQ 464 [pV c,iV b] [Cl c ([iV b]++List.replicate 256 (yV 0)) 336] (.tuple #[iV 0,iV 3]) [Cl c ([iV b]++List.replicate 256 (yV 0)) 336]:=by
 refine AC func464 ntmps464 fun g w0 R h0=>g0<|nP 3 [iV 0] h0 (fun e _ f=> ?_)
 refine sA [iV 0] f fun _ i=> ?_
 have j:=i.a.t3
 refine g0<|AF call323 (QP c b e om) j fun _ d=>go [rd 3 0 1 0 1 d] ?_
 exact AD _ [] d.B.t2
theorem ZV(b n m:Nat)(cy ph sn:Int):HQ 434 [pV b,iV n] [Mr b n m ph cy sn] (.tuple #[bF,iV 3]) [Mr b n m ph cy sn]:=by
 refine AC func434 ntmps434 fun g w0 R h0=> ?_
 obtain⟨c,a,d,e,f,j,k,l,o,p,q,s,t,u,x,y⟩:=Bq h0
 have z:sat g _ (Cl b [iV n,iV m,pV c,pV a,pV d,.slice e m f] 250::_):=y
 refine g0<|AF call152 (BB b n m c a d e f om) z fun _ i=> ?_
 have A:=i.b.t7
 refine go [rd 3 3 0 3 1 i]<|AF call464 (V0 a n om) A fun D B=>g0 ?_
 have C:sat g _ (Mr b n m ph cy sn::_):=BR b n m ph cy sn c a d e f j k l o p q s t u x B.b.b.t7
 exact AD _ [] C
theorem Ke(b c a:Nat)(_:0≤ -(c:Int)+255):HQ 492 [.pointer (some ⟨b,c+1,none⟩)] [Cl b ([iV a]++List.replicate 256 (yV 0)) 336] (iV 0) [Cl b ([iV a]++List.replicate 256 (yV 0)) 336]:=by
 refine AC func492 ntmps492 fun g w0 R h0=>g0 ?_
 refine AH ?_
 refine Bc [(c+1,yV 0)] (cs':=([iV a]++List.replicate 256 (yV 0))) kr kr (gN rfl om) (gH (H:= [iV a]) (by show 1≤_;omega) (by show _<1+256;omega)) h0 ?_
 intro _ d
 refine Gq<|g0 ?_
 exact AD _ [] d
theorem QQ(c:Nat)(a:Int)(d:Nat)(_:0≤a)(_:0≤(d:Int)-a-1)(_:0≤ -a+255):HQ 323 [pV c,iV a,.func (Fn.func 492) #[] #[]] [Cl c ([iV d]++List.replicate 256 (yV 0)) 336] (iV 0) [Cl c ([iV d]++List.replicate 256 (yV 0)) 336]:=by
 refine AC func323 ntmps323 fun g w0 R h0=>g0<|AF call246 (DN c d om) h0 fun _ e=> ?_
 obtain⟨kk12,j⟩: ∃z_:Nat,a=(z_:Int):=⟨(a).toNat,by omega⟩
 refine go [.v 3 1 (oF (a<0)),sF 3 7 0 0 1 e,.v 3 8 (oF (a≥(d:Int))),.s 5 5]<|AS (.pointer (some ⟨c,kk12+1,none⟩)) (AA (x:=Ot 26) (i:=Ot 24) (b:=c) (off:=1) (z:=a) kr underlying334 1 kr kk12 kr kr om om (kk12+1) om _)<|AF call492 (Ke c kk12 d om) e fun _ f=>g0 ?_
 exact AD _ [] f
theorem LX(b:Nat)(a:Int)(c:Nat)(_:0≤a)(_:0≤(c:Int)-a-1)(_:0≤ -a+255):HQ 469 [pV b,iV a] [Cl b ([iV c]++List.replicate 256 (yV 0)) 336] (iV 0) [Cl b ([iV c]++List.replicate 256 (yV 0)) 336]:=by
 refine AC func469 ntmps469 fun g w0 R h0=>g0<|AF call323 (QQ b a c om om om) h0 fun _ d=>g0 ?_
 exact AD _ [] d
theorem pJ(b n m:Nat)(cy ph sn sl:Int)(_:0≤sl)(_:0≤(n:Int)-sl-1):HQ 447 [pV b,iV sl] [Mr b n m ph cy sn] (iV 0) [Mr b n m ph cy sn]:=by
 refine AC func447 ntmps447 fun g w0 R h0=> ?_
 obtain⟨c,a,d,e,f,j,k,l,o,p,q,s,t,u,x,y⟩:=Bq h0
 have z:sat g _ (Cl b [iV n,iV m,pV c,pV a,pV d,.slice e m f] 250::_):=y
 refine g0<|AF call152 (BB b n m c a d e f om) z fun _ i=> ?_
 have A:=i.b.t7
 refine go [rd 3 3 0 3 1 i]<|AF call469 (LX a sl n om om om) A fun D B=>g0 ?_
 have C:sat g _ (Mr b n m ph cy sn::_):=BR b n m ph cy sn c a d e f j k l o p q s t u x B.b.b.t7
 exact AD _ [] C
theorem uL(b n m:Nat)(cy sn sl gn:Int)(_:0≤sl)(_:0≤(n:Int)-sl-1)(_:0≤gn-1):HQ 93 [pV b,.agg #[iV sl,uV gn]] [Mr b n m 0 cy sn] (iV 0) [Mr b n m 0 cy sn]:=by
 refine AC func93 ntmps93 fun g w0 R h0=> ?_
 obtain⟨i,j,k,l,o,p,q,s,t,u,x,y,z,A,C,D⟩:=Bq h0
 have E:sat g _ (Cl b [iV n,iV m,pV i,pV j,pV k,.slice l m o] 250::_):=D
 refine g0<|nP 203 [iV sl,uV gn] E (fun M _ F=> ?_)
 have G:=F.a.t8
 refine g0<|AF call152 (BB b n m i j k l o om) G fun _ H=>g0<|dw (AE [0,1,2,3,4,5,6,7,8,9,10,11,12,13,14,15,16,17] Tr.nil) H fun _ c=> ?_
 have I:=c.b.t8
 refine go [rd 3 1 1 0 1 c,.v 3 2 (oF (sl<0)),rd 3 5 1 0 1 c,rd 3 9 0 0 1 c,.v 3 10 (oF (sl≥(n:Int))),rd 3 14 1 1 1 c,.v 3 15 (DR gn 0),rd 5 3 0 2 1 c]<|AF call153 (BM i m 0 cy (decide (0<sn)) (decide (1<sn)) (decide (2<sn)) (decide (3<sn)) (decide (0<(m:Int))) (decide (1<(m:Int))) (decide (2<(m:Int))) (decide (3<(m:Int))) om) I fun N J=>g0 ?_
 have L:sat g _ (Mr b n m 0 cy sn::_):=BR b n m 0 cy sn i j k l o p q s t u x y z A C J.f.f.f.f.d.e.t8
 exact AD _ [] L.B.t2
theorem V1(c a b:Nat)(yy:Int):IT prog 490 [pV c,pV a] 0 (fun _=> [iV 0]) [Cl c [iV 64] 3,Cl a [pV b] 257,Cl b (List.replicate 64 (iV 0)++ [iV yy,iV 0,iV 0,Value.bool true]) 346]:=by
 refine PP 34 (fun k_=>([(0,.func (Fn.yield k_) #[] #[]),(1,pV c),(2,pV a)]:Fr)) func490 kr ntmps490 rfl (fun _=>rfl) ?_
 intro g w0 R k_ J_ E_ hY h0
 have h1:sat g _ (J_ 0::_):=h0
 change WP _ _ (CA f490 []) _ (mk 34 ([(0,.func (Fn.yield k_) #[] #[]),(1,pV c),(2,pV a)]:Fr)) _
 refine LH ?_
 refine XJ (id:=0) (ops:=RA f490 [0]) (Tr.fl 0 (Tr.fl 1 (Tr.fl 2 (Tr.fl 3 (Tr.fl 4 (Tr.fl 5 (Tr.fl 6 Tr.nil))))))) kr kr kr kr kr (fun _ _ d _ _ h=>by cases d<;>exact h) h1 ?_
 intro w2 e
 refine yD _ [(11,iV 0),(10,iV 0),(9,iV 0),(8,.pointer (some ⟨b,66,none⟩)),(7,pV b),(6,pV b),(5,iV 64)] [e2 0 [iV 64],e2 1 [pV b],e0 2,e0 3,e2 4 [iV 0],e1 5 (iV 0),e0 6] [(4,⟨b,66,none⟩,iV 0),(1,⟨a,0,none⟩,pV b),(0,⟨c,0,none⟩,iV 64)] [(iV (if 0<64 then 0 else 64),iV 0)] ⟨(BE (if_pos om)),trivial⟩ (kC (AL e 3 rfl rfl) (kC (AL e 2 rfl rfl) (kC (AL e 1 rfl rfl) nC))) ?_
 refine yK [(0,.func (Fn.yield k_) #[] #[]),(2,pV a),(10,iV 0),(11,iV 0)] fun f=> ?_
 refine rZ 0 ?_
 refine NJ (x:=CA f490 [1,0,0]) 40 kr ?_
 refine LH ?_
 refine Wv [0] ?_
 refine sC [] [0] [(12,bF)] (.mk ?_)
 refine yK [(0,.func (Fn.yield k_) #[] #[]),(2,pV a),(10,iV 0),(11,iV 0),(12,bF)] fun i=> ?_
 refine LH ?_
 refine mC ?_
 refine xP 0 ?_
 repeat (first|simp only[Exit.inBlock]|simp only[Exit.then])
 refine HS [] (.tuple #[]) [] kr (by intro q hq;cases hq) ⟨⟨_,rfl⟩,?_⟩
 have he_:0=0:=rfl
 exact .inl (he_▸e)
theorem GM(b:Nat)(a:Int)(_:0≤a-1):HQ 248 [pV b] [Cl b (List.replicate 64 (iV 0)++ [iV a,iV 0,iV 0,bT]) 346] (bT) [Cl b (List.replicate 64 (iV 0)++ [iV a,iV 0,iV 0,bT]) 346]:=by
 refine AC func248 ntmps248 fun g w0 R c=>go [rd 1 6 0 64 1 c,.v 1 7 (oT (a>0))] ?_
 exact AD _ [] c
theorem N2(a:Nat):HT prog 467 [pV a,iV 64] [] (fun v K=> ∃b:Nat,∃c:Nat,v= .func (Fn.func 490) #[] #[pV b,pV c]∧K= [Cl b [iV 64] 3,Cl c [pV a] 257]):=by
 refine AC func467 ntmps467 fun g w0 R h0=>g0<|nP 257 [pV a] h0 (fun c _ d=> ?_)
 refine nP 3 [iV 64] d (fun b _ e=> ?_)
 refine g0 ?_
 exact en _ [] ⟨_,_,rfl,⟨b,c,rfl,rfl⟩,e⟩
theorem ZW(b:Nat)(yy:Int)(_:0≤yy-1)(_:0≤ -yy+64):HQ 441 [pV b,iV 64] [Cl b (List.replicate 64 (iV 0)++ [iV yy,iV 0,iV 0,bT]) 346] (.tuple #[.slice none 0 0,iV 0]) [Cl b (List.replicate 64 (iV 0)++ [iV yy,iV 0,iV 0,bT]) 346]:=by
 refine AC func441 ntmps441 fun g w0 R h0=>g0<|AF call248 (GM b yy om) h0 fun _ k=>g0<|nP 134 [.slice none 0 0] k (fun D _ l=> ?_)
 refine g0<|cP call467 (N2 b) l ?_
 rintro v K _ (⟨m,o,rfl,rfl⟩) p
 have q:=(CW p).c.b.b.t5
 refine g0 ?_
 refine kN (N:=0) (fun i K=>K= []) (fun c _ K=>False) call490 (V1 m o b yy) rfl q ?_ ?_ ?_
 · intro i_ hi_;exact absurd hi_ (Nat.not_lt_zero _)
 ·
  rintro D21 E K_ ⟨rfl⟩ u
  have z:sat g _ (pt D21 (Obj.deferred (some []))::_):=u
  refine g0<|dw (AE [0,1,2,3,4,5,6,7,8,9,10,11,12,13,14] (Tr.an 15 Tr.nil)) z fun _ d=>go [rd 9 4 3 65 1 d,rd 9 5 4 0 1 d,rd 9 11 3 64 1 d,.s 9 12]<|lw (iV 0) (fun _=>Bh (t:=3) (x:=Ot 30) (y:=Ot 34) kr 0 yy kr kr om 0 (KZ _) _) ?_
  have A:=d.c.t6
  refine g0<|sG [(65,iV 0)] (List.replicate 64 (iV 0)++ [iV yy,iV 0,iV 0,bT]) A fun _ B=>⟨kd [],?_⟩
  refine g0<|dw (AE [0,1,2,3,4,5,6,7,8] (Tr.an 9 Tr.nil)) B fun _ f=>go [rd 10 3 0 66 1 f,rd 10 4 4 0 1 f]<|sG [(66,iV 0)] (List.replicate 64 (iV 0)++ [iV yy,iV 0,iV 0,bT]) f fun _ j=>⟨kd [],?_⟩
  refine go [rd 11 0 4 0 1 j] ?_
  refine LM (.tuple #[.slice none 0 0,iV 0]) j.a.t6 (fun _ _=> []) (fun _ C=> ?_) [] []
  exact⟨_,_,rfl,⟨rfl,rfl⟩,C.a.t6.e.a.t2⟩
 intro _ _ _ _ _ _ hf_;exact hf_.elim
theorem V2(b:Nat)(yy:Int)(_:0≤yy-1)(_:0≤ -yy+64):HQ 442 [pV b] [Cl b (List.replicate 64 (iV 0)++ [iV yy,iV 0,iV 0,bT]) 346] (.tuple #[]) [Cl b (List.replicate 64 (iV 0)++ [iV yy,iV 0,iV 0,bT]) 346]:=by
 refine AC func442 ntmps442 fun g w0 R h0=>g0<|AF call248 (GM b yy om) h0 fun _ a=>g0<|sP [(67,bT)] (List.replicate 64 (iV 0)++ [iV yy,iV 0,iV 0,bT]) a fun _ c=>g0 ?_
 exact AD _ [] c
theorem ZX(b:Nat)(yy:Int)(i:Nat)(qs:List Nat)(hb:qs[i]? =some b)(a:0≤yy-1)(c:0≤ -yy+64):HQ 441 [pV b,iV 64] [Bs (List.replicate 64 (iV 0)++ [iV yy,iV 0,iV 0,bT]) 346 qs] (.tuple #[.slice none 0 0,iV 0]) [Bs (List.replicate 64 (iV 0)++ [iV yy,iV 0,iV 0,bT]) 346 qs]:=UT (Q:=fun v=>v=.tuple #[.slice none 0 0,iV 0]) (ZW b yy a c) hb
theorem gZ(b:Nat)(yy:Int)(i:Nat)(qs:List Nat)(hb:qs[i]? =some b)(a:0≤yy-1)(c:0≤ -yy+64):HQ 442 [pV b] [Bs (List.replicate 64 (iV 0)++ [iV yy,iV 0,iV 0,bT]) 346 qs] (.tuple #[]) [Bs (List.replicate 64 (iV 0)++ [iV yy,iV 0,iV 0,bT]) 346 qs]:=UT (Q:=fun v=>v=.tuple #[]) (V2 b yy a c) hb
theorem V3(i a:Nat)(b:Int)(j k l m c d e f:Bool):HQ 457 [pV i,iV 1] [Cl i [iV 0,iV a,iV b,.bool j,.bool k,.bool l,.bool m,.bool c,.bool d,.bool e,.bool f] 340] (.tuple #[]) [Cl i [iV 1,iV a,iV b,bF,bF,bF,bF,.bool c,.bool d,.bool e,.bool f] 340]:=by
 refine AC func457 ntmps457 fun g w0 R h0=>g0<|sP [(0,iV 1)] [iV 1,iV a,iV b,.bool j,.bool k,.bool l,.bool m,.bool c,.bool d,.bool e,.bool f] h0 fun _ o=>g0<|sP [(3,bF),(4,bF),(5,bF),(6,bF)] [iV 1,iV a,iV b,bF,bF,bF,bF,.bool c,.bool d,.bool e,.bool f] o fun _ p=>g0 ?_
 exact AD _ [] p
theorem N3(a b:Nat)(c:Int)(j k l m d e f i:Bool)(_:0≤(b:Int)-1):HQ 427 [pV a] [Cl a [iV 0,iV b,iV c,.bool j,.bool k,.bool l,.bool m,.bool d,.bool e,.bool f,.bool i] 340] (iV 0) [Cl a [iV 1,iV b,iV c,bF,bF,bF,bF,.bool d,.bool e,.bool f,.bool i] 340]:=by
 refine AC func427 ntmps427 fun g w0 R h0=>g0<|AF call232 (CB a b 0 c j k l m d e f i om) h0 fun _ o=>go [rd 3 3 0 0 1 o]<|AF call457 (V3 a b c j k l m d e f i) o fun _ p=>g0 ?_
 exact AD _ [] p
theorem pK(b n m:Nat)(cy sn:Int):HQ 389 [pV b] [Mr b n m 0 cy sn] (iV 0) [Mr b n m 1 cy 0]:=by
 refine AC func389 ntmps389 fun g w0 R h0=> ?_
 obtain⟨c,d,e,f,i,j,k,l,p,q,s,t,u,x,y,z⟩:=Bq h0
 have A:sat g _ (Cl b [iV n,iV m,pV c,pV d,pV e,.slice f m i] 250::_):=z
 refine g0<|AF call152 (BB b n m c d e f i om) A fun _ o=> ?_
 have B:=o.a.t7
 refine go [rd 3 3 0 2 1 o]<|AF call427 (N3 c m cy (decide (0<sn)) (decide (1<sn)) (decide (2<sn)) (decide (3<sn)) (decide (0<(m:Int))) (decide (1<(m:Int))) (decide (2<(m:Int))) (decide (3<(m:Int))) om) B fun C D=>g0 ?_
 have E:sat g C [Cl b [iV n,iV m,pV c,pV d,pV e,.slice f m i] 250,Cl c [iV 1,iV m,iV cy,.bool (decide (0<0)),.bool (decide (1<0)),.bool (decide (2<0)),.bool (decide (3<0)),.bool (decide (0<(m:Int))),.bool (decide (1<(m:Int))),.bool (decide (2<(m:Int))),.bool (decide (3<(m:Int)))] 340,Cl d ([iV n]++List.replicate 256 (yV 0)) 336,Cl e ([bF,iV 0,iV k]++List.replicate 65 (iV 0)) 344,Sl 257 1 f m i (fl KY j),Bs (List.replicate 64 (iV 0)++ [iV l,iV 0,iV 0,bT]) 346 j,R]:=D.a.t7
 have F:sat g _ (Mr b n m 1 cy 0::_):=BR b n m 1 cy 0 c d e f i j k l p q s t u x y E
 exact AD _ [] F
theorem N4(d e b c f i:Nat)(j:Option Addr)(k:Nat)(l:Int)(m o p q s t u x:Bool)(_:0≤(e:Int)-1)(_:0≤(b:Int)-1):HQ 291 [pV d] [Cl d [iV e,iV b,pV c,pV f,pV i,.slice j b k] 250,Cl c [iV 4,iV b,iV l,.bool m,.bool o,.bool p,.bool q,.bool s,.bool t,.bool u,.bool x] 340] (iV 4) [Cl d [iV e,iV b,pV c,pV f,pV i,.slice j b k] 250,Cl c [iV 4,iV b,iV l,.bool m,.bool o,.bool p,.bool q,.bool s,.bool t,.bool u,.bool x] 340]:=by
 refine AC func291 ntmps291 fun g w0 R h0=>g0<|AF call152 (BB d e b c f i j k om) h0 fun _ y=> ?_
 have z:=y.a.t3
 refine go [rd 3 3 0 2 1 y]<|AF call153 (BM c b 4 l m o p q s t u x om) z fun _ A=>g0 ?_
 exact AD _ [] A.a.t3
theorem N5(c d a b e f:Nat)(i:Option Addr)(j:Nat)(k:Int)(l m o p q s t u:Bool)(_:0≤(d:Int)-1)(_:0≤(a:Int)-1):HQ 437 [pV c] [Cl c [iV d,iV a,pV b,pV e,pV f,.slice i a j] 250,Cl b [iV 4,iV a,iV k,.bool l,.bool m,.bool o,.bool p,.bool q,.bool s,.bool t,.bool u] 340] (bT) [Cl c [iV d,iV a,pV b,pV e,pV f,.slice i a j] 250,Cl b [iV 4,iV a,iV k,.bool l,.bool m,.bool o,.bool p,.bool q,.bool s,.bool t,.bool u] 340]:=by
 refine AC func437 ntmps437 fun g w0 R h0=>g0<|DF call291 (N4 c d a b e f i j k l m o p q s t u om om) h0 fun _ x=>g0 ?_
 exact AD _ [] x
theorem LY(a b:Nat)(c:Int)(d e f i j k l m:Bool):HQ 394 [pV a] [Cl a [iV 4,iV b,iV c,.bool d,.bool e,.bool f,.bool i,.bool j,.bool k,.bool l,.bool m] 340] (bF) [Cl a [iV 4,iV b,iV c,.bool d,.bool e,.bool f,.bool i,.bool j,.bool k,.bool l,.bool m] 340]:=by
 refine AC func394 ntmps394 fun g w0 R o=>go [rd 1 3 0 0 1 o,rd 1 9 0 0 1 o] ?_
 exact AD _ [] o
theorem V5(i a:Nat)(b:Int)(j k l m c d e f:Bool):HQ 457 [pV i,iV 5] [Cl i [iV 4,iV a,iV b,.bool j,.bool k,.bool l,.bool m,.bool c,.bool d,.bool e,.bool f] 340] (.tuple #[]) [Cl i [iV 5,iV a,iV b,bF,bF,bF,bF,.bool c,.bool d,.bool e,.bool f] 340]:=by
 refine AC func457 ntmps457 fun g w0 R h0=>g0<|sP [(0,iV 5)] [iV 5,iV a,iV b,.bool j,.bool k,.bool l,.bool m,.bool c,.bool d,.bool e,.bool f] h0 fun _ o=>g0<|sP [(3,bF),(4,bF),(5,bF),(6,bF)] [iV 5,iV a,iV b,bF,bF,bF,bF,.bool c,.bool d,.bool e,.bool f] o fun _ p=>g0 ?_
 exact AD _ [] p
theorem V6(a b:Nat)(c:Int)(j k l m d e f i:Bool)(_:0≤(b:Int)-1):HQ 438 [pV a] [Cl a [iV 4,iV b,iV c,.bool j,.bool k,.bool l,.bool m,.bool d,.bool e,.bool f,.bool i] 340] (iV 0) [Cl a [iV 5,iV b,iV c,bF,bF,bF,bF,.bool d,.bool e,.bool f,.bool i] 340]:=by
 refine AC func438 ntmps438 fun g w0 R h0=>g0<|AF call232 (CB a b 4 c j k l m d e f i om) h0 fun _ p=>go [rd 3 3 0 0 1 p]<|AF call394 (LY a b c j k l m d e f i) p fun _ o=>go [rd 7 3 0 0 1 o,rd 9 4 0 0 1 o,.s 9 6]<|AS (iV 5) (Bh (t:=3) (x:=Ot 39) (y:=(Operand.const (iV 6))) kr 5 6 kr kr om 5 dc _)<|AF call457 (V5 a b c j k l m d e f i) o fun _ q=>g0 ?_
 exact AD _ [] q
theorem uM(b n m:Nat)(cy sn:Int):HQ 408 [pV b] [Mr b n m 4 cy sn] (iV 0) [Mr b n m 5 cy 0]:=by
 refine AC func408 ntmps408 fun g w0 R h0=> ?_
 obtain⟨c,d,e,f,i,j,k,l,q,s,t,u,x,y,z,A⟩:=Bq h0
 have B:sat g _ (Cl b [iV n,iV m,pV c,pV d,pV e,.slice f m i] 250::_):=A
 refine g0<|AF call152 (BB b n m c d e f i om) B fun _ C=>g0<|DF call437 (N5 b n m c d e f i cy (decide (0<sn)) (decide (1<sn)) (decide (2<sn)) (decide (3<sn)) (decide (0<(m:Int))) (decide (1<(m:Int))) (decide (2<(m:Int))) (decide (3<(m:Int))) om om) C fun _ o=> ?_
 have D:=o.a.t7
 refine go [rd 5 3 0 2 1 o]<|AF call438 (V6 c m cy (decide (0<sn)) (decide (1<sn)) (decide (2<sn)) (decide (3<sn)) (decide (0<(m:Int))) (decide (1<(m:Int))) (decide (2<(m:Int))) (decide (3<(m:Int))) om) D fun _ p=>go [rd 6 6 1 2 1 p]<|AF call153 (BM c m 5 cy false false false false (decide (0<(m:Int))) (decide (1<(m:Int))) (decide (2<(m:Int))) (decide (3<(m:Int))) om) p fun E F=>g0 ?_
 have G:sat g E [Cl b [iV n,iV m,pV c,pV d,pV e,.slice f m i] 250,Cl c [iV 5,iV m,iV cy,.bool (decide (0<0)),.bool (decide (1<0)),.bool (decide (2<0)),.bool (decide (3<0)),.bool (decide (0<(m:Int))),.bool (decide (1<(m:Int))),.bool (decide (2<(m:Int))),.bool (decide (3<(m:Int)))] 340,Cl d ([iV n]++List.replicate 256 (yV 0)) 336,Cl e ([bF,iV 0,iV k]++List.replicate 65 (iV 0)) 344,Sl 257 1 f m i (fl KY j),Bs (List.replicate 64 (iV 0)++ [iV l,iV 0,iV 0,bT]) 346 j,R]:=F.a.t7
 have H:sat g _ (Mr b n m 5 cy 0::_):=BR b n m 5 cy 0 c d e f i j k l q s t u x y z G
 exact AD _ [] H
theorem N6(d e b c f i:Nat)(j:Option Addr)(k:Nat)(l:Int)(m o p q s t u x:Bool)(_:0≤(e:Int)-1)(_:0≤(b:Int)-1):HQ 291 [pV d] [Cl d [iV e,iV b,pV c,pV f,pV i,.slice j b k] 250,Cl c [iV 5,iV b,iV l,.bool m,.bool o,.bool p,.bool q,.bool s,.bool t,.bool u,.bool x] 340] (iV 5) [Cl d [iV e,iV b,pV c,pV f,pV i,.slice j b k] 250,Cl c [iV 5,iV b,iV l,.bool m,.bool o,.bool p,.bool q,.bool s,.bool t,.bool u,.bool x] 340]:=by
 refine AC func291 ntmps291 fun g w0 R h0=>g0<|AF call152 (BB d e b c f i j k om) h0 fun _ y=> ?_
 have z:=y.a.t3
 refine go [rd 3 3 0 2 1 y]<|AF call153 (BM c b 5 l m o p q s t u x om) z fun _ A=>g0 ?_
 exact AD _ [] A.a.t3
theorem N7(c d a b e f:Nat)(i:Option Addr)(j:Nat)(k:Int)(l m o p q s t u:Bool)(_:0≤(d:Int)-1)(_:0≤(a:Int)-1):HQ 437 [pV c] [Cl c [iV d,iV a,pV b,pV e,pV f,.slice i a j] 250,Cl b [iV 5,iV a,iV k,.bool l,.bool m,.bool o,.bool p,.bool q,.bool s,.bool t,.bool u] 340] (bT) [Cl c [iV d,iV a,pV b,pV e,pV f,.slice i a j] 250,Cl b [iV 5,iV a,iV k,.bool l,.bool m,.bool o,.bool p,.bool q,.bool s,.bool t,.bool u] 340]:=by
 refine AC func437 ntmps437 fun g w0 R h0=>g0<|DF call291 (N6 c d a b e f i j k l m o p q s t u om om) h0 fun _ x=>g0 ?_
 exact AD _ [] x
theorem LZ(a b:Nat)(c:Int)(d e f i j k l m:Bool):HQ 394 [pV a] [Cl a [iV 5,iV b,iV c,.bool d,.bool e,.bool f,.bool i,.bool j,.bool k,.bool l,.bool m] 340] (bF) [Cl a [iV 5,iV b,iV c,.bool d,.bool e,.bool f,.bool i,.bool j,.bool k,.bool l,.bool m] 340]:=by
 refine AC func394 ntmps394 fun g w0 R o=>go [rd 1 3 0 0 1 o,rd 1 9 0 0 1 o] ?_
 exact AD _ [] o
theorem V7(i a:Nat)(b:Int)(j k l m c d e f:Bool):HQ 457 [pV i,iV 0] [Cl i [iV 5,iV a,iV (b+1),.bool j,.bool k,.bool l,.bool m,.bool c,.bool d,.bool e,.bool f] 340] (.tuple #[]) [Cl i [iV 0,iV a,iV (b+1),bF,bF,bF,bF,.bool c,.bool d,.bool e,.bool f] 340]:=by
 refine AC func457 ntmps457 fun g w0 R h0=>g0<|sP [(0,iV 0)] [iV 0,iV a,iV (b+1),.bool j,.bool k,.bool l,.bool m,.bool c,.bool d,.bool e,.bool f] h0 fun _ o=>g0<|sP [(3,bF),(4,bF),(5,bF),(6,bF)] [iV 0,iV a,iV (b+1),bF,bF,bF,bF,.bool c,.bool d,.bool e,.bool f] o fun _ p=>g0 ?_
 exact AD _ [] p
theorem V8(c b:Nat)(a:Int)(j k l m d e f i:Bool)(_:0≤(b:Int)-1)(_:0≤a+9223372036854775809)(_:0≤ -a+9223372036854775806):HQ 438 [pV c] [Cl c [iV 5,iV b,iV a,.bool j,.bool k,.bool l,.bool m,.bool d,.bool e,.bool f,.bool i] 340] (iV 0) [Cl c [iV 0,iV b,iV (a+1),bF,bF,bF,bF,.bool d,.bool e,.bool f,.bool i] 340]:=by
 refine AC func438 ntmps438 fun g w0 R h0=>g0<|AF call232 (CB c b 5 a j k l m d e f i om) h0 fun _ p=>go [rd 3 3 0 0 1 p]<|AF call394 (LZ c b a j k l m d e f i) p fun _ o=>go [rd 7 3 0 0 1 o,rd 8 3 0 2 1 o,.v 8 4 (CD (a+1))]<|sP [(2,iV (a+1))] [iV 5,iV b,iV (a+1),.bool j,.bool k,.bool l,.bool m,.bool d,.bool e,.bool f,.bool i] o fun _ q=>go [rd 9 4 0 0 1 q,.s 9 6]<|AS (iV 0) (Bh (t:=3) (x:=Ot 39) (y:=(Operand.const (iV 6))) kr 6 6 kr kr om 0 dc _)<|AF call457 (V7 c b a j k l m d e f i) q fun _ u=>g0 ?_
 exact AD _ [] u
theorem N8(c d:Nat)(_:0≤(d:Int)-1):HQ 439 [pV c] [Cl c ([iV d]++List.replicate 256 (yV 0)) 336] (.tuple #[]) [Cl c ([iV d]++List.replicate 256 (yV 0)) 336]:=by
 refine AC func439 ntmps439 fun g w0 R h0=>g0<|AF call246 (DN c d om) h0 fun _ e=>go [.s 1 3]<|AS (.slice (some ⟨c,1,none⟩) 256 256) (Cz (x:=Ot 6) (lo:=none) (hi:=none) (b:=c) (off:=1) kr underlying334 1 kr 0 256 0 256 kr rfl rfl om om om om 1 (by split<;>omega) 256 256 om om _) ?_
 refine AH ?_
 refine Vs (x:=Ot 7) (a:=iV d) (z:=yV 0) (m:=256) kr kr underlying403 kr rfl rfl dc e kr ?_
 intro _ f
 refine Gq<|g0 ?_
 exact AD _ [] f
theorem Fk(b:Nat)(a:Int)(_:0≤a-1):HQ 247 [pV b] [Cl b ([bF,iV 0,iV a]++List.replicate 65 (iV 0)) 344] (bT) [Cl b ([bF,iV 0,iV a]++List.replicate 65 (iV 0)) 344]:=by
 refine AC func247 ntmps247 fun g w0 R c=>go [rd 1 6 0 2 1 c,.v 1 7 (oT (a>0))] ?_
 exact AD _ [] c
theorem N9(b:Nat)(a:Int)(_:0≤a-1):HQ 440 [pV b] [Cl b ([bF,iV 0,iV a]++List.replicate 65 (iV 0)) 344] (.tuple #[]) [Cl b ([bF,iV 0,iV a]++List.replicate 65 (iV 0)) 344]:=by
 refine AC func440 ntmps440 fun g w0 R h0=>g0<|AF call247 (Fk b a om) h0 fun _ c=>g0<|sP [(3,iV 0)] ([bF,iV 0,iV a]++List.replicate 65 (iV 0)) c fun _ d=>g0<|sP [(0,bF),(1,iV 0)] ([bF,iV 0,iV a]++List.replicate 65 (iV 0)) d fun _ e=>g0 ?_
 exact AD _ [] e
theorem hC(b n m:Nat)(cy sn:Int)(_:0≤cy)(_:0≤ -cy+1000000):HQ 408 [pV b] [Mr b n m 5 cy sn] (iV 0) [Mr b n m 0 (cy+1) 0]:=by
 refine AC func408 ntmps408 fun g w0 R h0=> ?_
 obtain⟨p,q,t,f,l,u,z,y,N,O,P,Q,S,T,U,V⟩:=Bq h0
 have W:sat g _ (Cl b [iV n,iV m,pV p,pV q,pV t,.slice f m l] 250::_):=V
 refine g0<|AF call152 (BB b n m p q t f l om) W fun _ X=>g0<|DF call437 (N7 b n m p q t f l cy (decide (0<sn)) (decide (1<sn)) (decide (2<sn)) (decide (3<sn)) (decide (0<(m:Int))) (decide (1<(m:Int))) (decide (2<(m:Int))) (decide (3<(m:Int))) om om) X fun _ F=> ?_
 have Y:=F.a.t7
 refine go [rd 5 3 0 2 1 F]<|AF call438 (V8 p m cy (decide (0<sn)) (decide (1<sn)) (decide (2<sn)) (decide (3<sn)) (decide (0<(m:Int))) (decide (1<(m:Int))) (decide (2<(m:Int))) (decide (3<(m:Int))) om om om) Y fun _ G=>go [rd 6 6 1 2 1 G]<|AF call153 (BM p m 0 (cy+1) false false false false (decide (0<(m:Int))) (decide (1<(m:Int))) (decide (2<(m:Int))) (decide (3<(m:Int))) om) G fun _ H=> ?_
 have Z:=H.b.t7
 refine go [rd 8 3 1 3 1 H]<|AF call439 (N8 q n om) Z fun _ I=> ?_
 have aa:=I.c.t7
 refine go [rd 9 3 2 4 1 I]<|AF call440 (N9 t z om) aa fun _ J=>go [rd 10 3 3 5 1 J] ?_
 refine Jc (fun mz_ a w=> ∃i:Nat,∃lr:Fr,mz_=m-i∧(i≤m)∧a=mk 54 (([(43,.slice f m l),(44,iV m),(45,iV i)]:Fr)++lr)∧sat g w [Cl t ([bF,iV 0,iV z]++List.replicate 65 (iV 0)) 344,Cl q ([iV n]++List.replicate 256 (yV 0)) 336,Cl p [iV 0,iV m,iV (cy+1),bF,bF,bF,bF,.bool (decide (0<(m:Int))),.bool (decide (1<(m:Int))),.bool (decide (2<(m:Int))),.bool (decide (3<(m:Int)))] 340,Cl b [iV n,iV m,pV p,pV q,pV t,.slice f m l] 250,Sl 257 1 f m l (fl KY u),Bs (List.replicate 64 (iV 0)++ [iV y,iV 0,iV 0,bT]) 346 u,R]) (m-0) ⟨0,_,rfl,(Nat.zero_le _),(Ck [.k 43 (.slice f m l),.k 44 (iV m),.o 45 (oJ .i64 0 (0:Int))]),J⟩ ?_
 rintro aj ak ab ⟨i,al,rfl,hi_,rfl,B⟩
 refine ga<|go [.s 11 0] ?_
 by_cases L:(i:Int)<(m:Int)
 ·
  obtain⟨C,M⟩:=Av (j:=4) B rfl om
  refine go [.v 11 0 (oT _ L),.s 12 0]<|AS (.pointer (some ⟨C,i,none⟩)) (Ft (Ot 43) (Ot 45) f C 0 (i:Int) m l underlying248 1 i M i) ?_
  have D:=B.d.t7
  have ac:=Ca GK dc D
  obtain⟨A,E⟩: ∃x,u[i]? =some x:=⟨_,List.getElem?_eq_getElem (by rw[ac];omega)⟩
  have ad:=D.e.t7
  refine go [.r 12 1 C i [pV A] ⟨CM 0 D rfl M GK 0 (pV A) E i,trivial⟩]<|AF call441 (ZX A y i u E om om) ad fun _ ae=>g0<|AF call442 (gZ A y i u E om om) ae fun _ af=>go [.v 15 0 (CD ((i:Int)+1))] ?_
  refine ET ?_
  have ag:=af.a.e.e.e.e.t7
  change ∃n',n'<_∧_
  refine⟨(m-(i+1)),by omega,(i+1),_,rfl,om,(Ck [.k 43 (.slice f m l),.k 44 (iV m),.o 45 (oJ .i64 ((i:Int)+1) (((i+1):Nat):Int))]),ag⟩
 refine go [.v 11 0 (oF _ L)]<|up<|g0 ?_
 have ah:sat g ab [Cl b [iV n,iV m,pV p,pV q,pV t,.slice f m l] 250,Cl p [iV 0,iV m,iV (cy+1),.bool (decide (0<0)),.bool (decide (1<0)),.bool (decide (2<0)),.bool (decide (3<0)),.bool (decide (0<(m:Int))),.bool (decide (1<(m:Int))),.bool (decide (2<(m:Int))),.bool (decide (3<(m:Int)))] 340,Cl q ([iV n]++List.replicate 256 (yV 0)) 336,Cl t ([bF,iV 0,iV z]++List.replicate 65 (iV 0)) 344,Sl 257 1 f m l (fl KY u),Bs (List.replicate 64 (iV 0)++ [iV y,iV 0,iV 0,bT]) 346 u,R]:=B.a.b.c.t7
 have ai:sat g _ (Mr b n m 0 (cy+1) 0::_):=BR b n m 0 (cy+1) 0 p q t f l u z y N O P Q S T U ah
 exact AD _ [] ai
theorem hH(d f b n:Nat)(_:0≤(n:Int)-1)(_:0≤ -(n:Int)+256):IT prog 505 [pV d,pV f] 0 (fun _=> [iV 0]) [Cl d [pV b] 246,Cl f [iV 0] 3,Cl b ([iV n]++List.replicate 256 (yV 0)) 336]:=by
 refine mH func505 ntmps505 fun g w0 R k_ J_ E_ hY h0=> ?_
 have j:sat g _ (J_ 0::_):=h0
 have p:=j.c.t5
 refine go [rd 0 0 1 0 1 j]<|AF call246 (DN b n om) p fun _ l=>go [rd 1 0 3 0 1 l,.v 1 1 (⟨iV (if 0<0 then 0 else 0),iV 0,(BE (if_neg om))⟩)] ?_
 refine Jc (fun mz_ a w=> ∃i:Nat,∃lr:Fr,mz_=n-i∧(i≤n)∧a=mk 31 (([(0,.func (Fn.yield k_) #[] #[]),(1,pV d),(4,iV i)]:Fr)++lr)∧sat g w [Cl b ([iV n]++List.replicate 256 (yV 0)) 336,J_ 0,Cl d [pV b] 246,Cl f [iV 0] 3,R]) (n-0) ⟨0,_,rfl,(Nat.zero_le _),(Ck [.k 0 (.func (Fn.yield k_) #[] #[]),.k 1 (pV d),.o 4 (oJ .i64 0 (0:Int))]),l⟩ ?_
 rintro t u y ⟨i,A,rfl,hi_,rfl,e⟩
 refine ga<|go [rd 2 1 2 0 1 e,sF 2 4 0 0 1 e,.s 2 5] ?_
 by_cases m:(i:Int)<(n:Int)
 ·
  refine go [.v 2 5 (oT _ m),.s 4 99999] ?_
  refine Wy 10<|go [rd 4 0 2 0 1 e,.s 4 4]<|AS (.pointer (some ⟨b,i+1,none⟩)) (AA (x:=Ot 21) (i:=Ot 19) (b:=b) (off:=1) (z:=(i:Int)) kr underlying334 1 kr i kr kr om om (i+1) om _)<|go [.r 4 5 b (i+1) [yV 0] ⟨AL e 0 rfl (ZB (H:= [iV n]) (by show 1≤_;omega) (by show _<1+256;omega)),trivial⟩] ?_
  refine yN 4<|go [.v 3 1 (CD ((i:Int)+1))] ?_
  exact kB (n-(i+1)) ⟨(i+1),_,rfl,om,(Ck [.k 0 (.func (Fn.yield k_) #[] #[]),.k 1 (pV d),.o 4 (oJ .i64 ((i:Int)+1) (((i+1):Nat):Int))]),e⟩
 refine go [.v 2 5 (oF _ m)]<|up<|g0 ?_
 have q:=e.c.c.c.t5
 have he_:0=0:=rfl
 exact en (.tuple #[]) [] ⟨⟨_,rfl⟩,.inl (he_▸q)⟩
theorem Cd(d e f b c i j:Nat)(k:Option Addr)(l:Nat)(m:List AM)(o:Nat)(p:Int)(_:0≤(c:Int)-1):HQ 331 [pV d,pV e] [Cl d [iV c,iV b,pV f,pV i,pV j,.slice k b l] 250,BY e c b m o p] (iV 0) [Cl d [iV c,iV b,pV f,pV i,pV j,.slice k b l] 250,BY e c b m o p]:=by
 refine AC func331 ntmps331 fun g w0 R h0=>g0<|AF call152 (BB d c b f i j k l om) h0 fun _ s=> ?_
 have t:=s.a.t3
 refine g0<|AF call289 (C3 e c b m o p) t fun _ q=>go [.v 4 1 (DR (c:Int) 0),rd 6 4 1 0 1 q,.v 6 5 (Db (c:Int) (c:Int)),rd 6 11 1 1 1 q,.v 6 12 (Db (b:Int) (b:Int))] ?_
 exact AD _ [] q.a.t3
theorem EF:HQ 433 [] [] (.agg #[.func (Fn.func 460) #[] #[],.func (Fn.func 461) #[] #[],.func (Fn.func 462) #[] #[],.func (Fn.func 463) #[] #[],.func (Fn.func 460) #[] #[],.func (Fn.func 460) #[] #[]]) []:=by
 refine AC func433 ntmps433 fun g w0 R h0=>g0<|nP 545 [Value.nilFunc,Value.nilFunc,Value.nilFunc,Value.nilFunc,Value.nilFunc,Value.nilFunc] h0 (fun _ _ c=> ?_)
 refine g0<|sA [.func (Fn.func 460) #[] #[],.func (Fn.func 461) #[] #[],.func (Fn.func 462) #[] #[],.func (Fn.func 463) #[] #[],.func (Fn.func 460) #[] #[],.func (Fn.func 460) #[] #[]] c fun _ b=>g0 ?_
 exact AD _ [rd 0 0 0 0 6 b] b.a.t1
theorem V9(i e:Nat)(f:Int)(a b c d:Bool):HQ 457 [pV i,iV 2] [Cl i [iV 1,iV e,iV f,.bool a,.bool b,.bool c,.bool d,.bool a,.bool b,.bool c,.bool d] 340] (.tuple #[]) [Cl i [iV 2,iV e,iV f,bF,bF,bF,bF,.bool a,.bool b,.bool c,.bool d] 340]:=by
 refine AC func457 ntmps457 fun g w0 R h0=>g0<|sP [(0,iV 2)] [iV 2,iV e,iV f,.bool a,.bool b,.bool c,.bool d,.bool a,.bool b,.bool c,.bool d] h0 fun _ j=>g0<|sP [(3,bF),(4,bF),(5,bF),(6,bF)] [iV 2,iV e,iV f,bF,bF,bF,bF,.bool a,.bool b,.bool c,.bool d] j fun _ k=>g0 ?_
 exact AD _ [] k
theorem WA(b a:Nat)(i:Int)(c d e f:Bool)(_:0≤(a:Int)-1)(_:0≤ -(a:Int)+4):HQ 438 [pV b] [Cl b [iV 1,iV a,iV i,.bool c,.bool d,.bool e,.bool f,.bool c,.bool d,.bool e,.bool f] 340] (iV 0) [Cl b [iV 2,iV a,iV i,bF,bF,bF,bF,.bool c,.bool d,.bool e,.bool f] 340]:=by
 refine AC func438 ntmps438 fun g w0 R h0=>g0<|AF call232 (JF b a i c d e f om) h0 fun _ k=>go [rd 3 3 0 0 1 k]<|AF call394 (Hy b a i c d e f) k fun _ l=>g0<|AF call466 (UY b a i c d e f om om) l fun _ j=>go [rd 7 3 0 0 1 j,rd 9 4 0 0 1 j,.s 9 6]<|AS (iV 2) (Bh (t:=3) (x:=Ot 39) (y:=(Operand.const (iV 6))) kr 2 6 kr kr om 2 dc _)<|AF call457 (V9 b a i c d e f) j fun _ m=>g0 ?_
 exact AD _ [] m
theorem G0(f c i b:Nat)(d:List AM)(e:Nat)(j:Int):HT prog 333 [pV f,pV c] [BY c b i d e j] (fun v K=> ∃l:Nat,∃m:Nat,∃k:Nat,∃o:Nat,v= .func (Fn.func 395) #[] #[pV l,pV m]∧K= [BY c b i d e j,Cl l [pV k] 138,Cl k (pV o::iV b::fl Ce (F256.set e true)) 237,Tb o b d,Cl m [pV f] 151]):=by
 refine AC func333 ntmps333 fun g w0 R h0=>g0<|nP 151 [pV f] h0 (fun m _ p=> ?_)
 have q:=p.a.t3
 refine g0<|cP call266 (Kb c b i d e j) q ?_
 rintro v K _ (⟨k,o,rfl,rfl⟩) s
 refine nP 138 [pO] (MG s) (fun l _ t=> ?_)
 refine sA [pV k] t fun _ u=>g0 ?_
 exact en _ [] ⟨_,_,rfl,⟨l,m,k,o,rfl,rfl⟩,u.a.t6⟩
theorem Kf(a b:Nat):HQ 395 [.slice none 0 0,pV a,pV b] [] (.tuple #[]) []:=by
 refine AC func395 ntmps395 fun g w0 R h0=>g0<|DS 39<|g0<|up<|g0 ?_
 exact AD _ [] h0
theorem OA(m e c a:Nat)(o:Int)(i j k l:Bool)(d t u:Nat)(x:Option Addr)(y:Nat)(p:List AM)(q:Nat)(s:Int)(_:0≤(a:Int)-1)(_:0≤ -(a:Int)+4):HQ 461 [pV m,pV e] [Cl c [iV 1,iV a,iV o,.bool i,.bool j,.bool k,.bool l,.bool i,.bool j,.bool k,.bool l] 340,Cl m [iV d,iV a,pV c,pV t,pV u,.slice x a y] 250,BY e d a p q s] (.tuple #[]) [Cl c [iV 2,iV a,iV o,bF,bF,bF,bF,.bool i,.bool j,.bool k,.bool l] 340,Cl m [iV d,iV a,pV c,pV t,pV u,.slice x a y] 250,BY e d a p q s]:=by
 refine AC func461 ntmps461 fun g w0 R z=>go [rd 0 3 1 2 1 z]<|AF call466 (UY c a o i j k l om om) z fun _ A=>go [rd 1 3 1 2 1 A]<|AF call438 (WA c a o i j k l om om) A fun _ B=> ?_
 have C:=B.b.t4
 refine g0<|cP call333 (G0 m e a d p q s) C ?_
 rintro v K _ (⟨D,E,J,L,rfl,rfl⟩) F
 have G:=ap5 F
 refine g0<|AF call484 (pI e d a p q s) G fun _ H=>AP call395 (Kf D E) H fun _ I=>g0 ?_
 exact AD _ [] I.f.f.t8.x.c.c.c.t4
theorem yX(b n m:Nat)(cy:Int)(ar:Nat)(A:List AM)(s:Nat)(gn:Int):HQ 405 [pV b,pV ar] [Mr b n m 1 cy (m:Int),BY ar n m A s gn] (iV 0) [Mr b n m 2 cy 0,BY ar n m A s gn]:=by
 refine AC func405 ntmps405 fun g w0 R h0=> ?_
 obtain⟨c,i,j,k,l,o,p,q,y,z,B,C,D,E,F,G⟩:=Bq h0
 have H:sat g _ (Cl b [iV n,iV m,pV c,pV i,pV j,.slice k m l] 250::_):=G
 have I:=H.a.t8.x.f.f.f.f.e.x.x.t8
 refine g0<|DF call331 (Cd b ar c m n i j k l A s gn om) I fun _ J=>g0<|dw (AE [1,2,3,4,7,8] (Tr.an 0 (Tr.an 5 (Tr.fl 6 (Tr.an 9 Tr.nil))))) J fun _ t=>go [rd 4 4 0 2 1 t]<|CJ call433 EF t fun _ u=>⟨kd [rd 0 4 0 2 1 u],?_⟩
 refine BZ call153 (BM c m 1 cy (decide (0<(m:Int))) (decide (1<(m:Int))) (decide (2<(m:Int))) (decide (3<(m:Int))) (decide (0<(m:Int))) (decide (1<(m:Int))) (decide (2<(m:Int))) (decide (3<(m:Int))) om) u.b.t8 fun _ L=>⟨kd [],?_⟩
 refine g0<|L7 call461 (OA b ar c m cy (decide (0<(m:Int))) (decide (1<(m:Int))) (decide (2<(m:Int))) (decide (3<(m:Int))) n i j k l A s gn om om) L fun M N=>⟨kd [],?_⟩
 refine g0 ?_
 have O:sat g M [Cl b [iV n,iV m,pV c,pV i,pV j,.slice k m l] 250,Cl c [iV 2,iV m,iV cy,.bool (decide (0<0)),.bool (decide (1<0)),.bool (decide (2<0)),.bool (decide (3<0)),.bool (decide (0<(m:Int))),.bool (decide (1<(m:Int))),.bool (decide (2<(m:Int))),.bool (decide (3<(m:Int)))] 340,Cl i ([iV n]++List.replicate 256 (yV 0)) 336,Cl j ([bF,iV 0,iV p]++List.replicate 65 (iV 0)) 344,Sl 257 1 k m l (fl KY o),Bs (List.replicate 64 (iV 0)++ [iV q,iV 0,iV 0,bT]) 346 o,BY ar n m A s gn,R]:=N.f.f.f.f.d.e.t8
 have P:sat g _ (Mr b n m 2 cy 0::_):=BR b n m 2 cy 0 c i j k l o p q y z B C D E F O
 exact AD _ [] P
theorem WB(i e:Nat)(f:Int)(a b c d:Bool):HQ 457 [pV i,iV 3] [Cl i [iV 2,iV e,iV f,.bool a,.bool b,.bool c,.bool d,.bool a,.bool b,.bool c,.bool d] 340] (.tuple #[]) [Cl i [iV 3,iV e,iV f,bF,bF,bF,bF,.bool a,.bool b,.bool c,.bool d] 340]:=by
 refine AC func457 ntmps457 fun g w0 R h0=>g0<|sP [(0,iV 3)] [iV 3,iV e,iV f,.bool a,.bool b,.bool c,.bool d,.bool a,.bool b,.bool c,.bool d] h0 fun _ j=>g0<|sP [(3,bF),(4,bF),(5,bF),(6,bF)] [iV 3,iV e,iV f,bF,bF,bF,bF,.bool a,.bool b,.bool c,.bool d] j fun _ k=>g0 ?_
 exact AD _ [] k
theorem WC(b a:Nat)(i:Int)(c d e f:Bool)(_:0≤(a:Int)-1)(_:0≤ -(a:Int)+4):HQ 438 [pV b] [Cl b [iV 2,iV a,iV i,.bool c,.bool d,.bool e,.bool f,.bool c,.bool d,.bool e,.bool f] 340] (iV 0) [Cl b [iV 3,iV a,iV i,bF,bF,bF,bF,.bool c,.bool d,.bool e,.bool f] 340]:=by
 refine AC func438 ntmps438 fun g w0 R h0=>g0<|AF call232 (JG b a i c d e f om) h0 fun _ k=>go [rd 3 3 0 0 1 k]<|AF call394 (Hz b a i c d e f) k fun _ l=>g0<|AF call466 (UZ b a i c d e f om om) l fun _ j=>go [rd 7 3 0 0 1 j,rd 9 4 0 0 1 j,.s 9 6]<|AS (iV 3) (Bh (t:=3) (x:=Ot 39) (y:=(Operand.const (iV 6))) kr 3 6 kr kr om 3 dc _)<|AF call457 (WB b a i c d e f) j fun _ m=>g0 ?_
 exact AD _ [] m
theorem OB(j q b a:Nat)(i:Int)(c d e f:Bool)(k l m:Nat)(o:Option Addr)(p:Nat)(_:0≤(a:Int)-1)(_:0≤ -(a:Int)+4):HQ 462 [pV j,pV q] [Cl b [iV 2,iV a,iV i,.bool c,.bool d,.bool e,.bool f,.bool c,.bool d,.bool e,.bool f] 340,Cl j [iV k,iV a,pV b,pV l,pV m,.slice o a p] 250] (.tuple #[]) [Cl b [iV 3,iV a,iV i,bF,bF,bF,bF,.bool c,.bool d,.bool e,.bool f] 340,Cl j [iV k,iV a,pV b,pV l,pV m,.slice o a p] 250]:=by
 refine AC func462 ntmps462 fun g w0 R s=>go [rd 0 3 1 2 1 s]<|AF call466 (UZ b a i c d e f om om) s fun _ t=>go [rd 1 3 1 2 1 t]<|AF call438 (WC b a i c d e f om om) t fun _ u=>g0 ?_
 exact AD _ [] u
theorem yZ(b n m:Nat)(cy:Int)(ar:Nat)(A:List AM)(s:Nat)(gn:Int):HQ 405 [pV b,pV ar] [Mr b n m 2 cy (m:Int),BY ar n m A s gn] (iV 0) [Mr b n m 3 cy 0,BY ar n m A s gn]:=by
 refine AC func405 ntmps405 fun g w0 R h0=> ?_
 obtain⟨c,i,j,k,l,o,p,q,y,z,B,C,D,E,F,G⟩:=Bq h0
 have H:sat g _ (Cl b [iV n,iV m,pV c,pV i,pV j,.slice k m l] 250::_):=G
 have I:=H.a.t8.x.f.f.f.f.e.x.x.t8
 refine g0<|DF call331 (Cd b ar c m n i j k l A s gn om) I fun _ J=>g0<|dw (AE [1,2,3,4,7,8] (Tr.an 0 (Tr.an 5 (Tr.fl 6 (Tr.an 9 Tr.nil))))) J fun _ t=>go [rd 4 4 0 2 1 t]<|CJ call433 EF t fun _ u=>⟨kd [rd 0 4 0 2 1 u],?_⟩
 refine BZ call153 (BM c m 2 cy (decide (0<(m:Int))) (decide (1<(m:Int))) (decide (2<(m:Int))) (decide (3<(m:Int))) (decide (0<(m:Int))) (decide (1<(m:Int))) (decide (2<(m:Int))) (decide (3<(m:Int))) om) u.b.t8 fun _ L=>⟨kd [],?_⟩
 refine g0<|FN call462 (OB b ar c m cy (decide (0<(m:Int))) (decide (1<(m:Int))) (decide (2<(m:Int))) (decide (3<(m:Int))) n i j k l om om) L fun M N=>⟨kd [],?_⟩
 refine g0 ?_
 have O:sat g M [Cl b [iV n,iV m,pV c,pV i,pV j,.slice k m l] 250,Cl c [iV 3,iV m,iV cy,.bool (decide (0<0)),.bool (decide (1<0)),.bool (decide (2<0)),.bool (decide (3<0)),.bool (decide (0<(m:Int))),.bool (decide (1<(m:Int))),.bool (decide (2<(m:Int))),.bool (decide (3<(m:Int)))] 340,Cl i ([iV n]++List.replicate 256 (yV 0)) 336,Cl j ([bF,iV 0,iV p]++List.replicate 65 (iV 0)) 344,Sl 257 1 k m l (fl KY o),Bs (List.replicate 64 (iV 0)++ [iV q,iV 0,iV 0,bT]) 346 o,BY ar n m A s gn,R]:=N.f.f.f.f.d.e.t8
 have P:sat g _ (Mr b n m 3 cy 0::_):=BR b n m 3 cy 0 c i j k l o p q y z B C D E F O
 exact AD _ [] P
theorem OC(c p b a:Nat)(d:Int)(e f i:Bool)(j k l:Nat)(m:Option Addr)(o:Nat)(_:0≤(a:Int)-1)(_:0≤ -(a:Int)+4):HQ 462 [pV c,pV p] [Cl b [iV 2,iV a,iV d,bF,bF,bF,bF,bT,.bool e,.bool f,.bool i] 340,Cl c [iV j,iV a,pV b,pV k,pV l,.slice m a o] 250] (.tuple #[]) [Cl b [iV 2,iV a,iV d,bF,bF,bF,bF,bT,.bool e,.bool f,.bool i] 340,Cl c [iV j,iV a,pV b,pV k,pV l,.slice m a o] 250]:=by
 refine AC func462 ntmps462 fun g w0 R q=>go [rd 0 3 1 2 1 q]<|AF call466 (gY b a d e f i om om) q fun _ s=>g0 ?_
 exact AD _ [] s
theorem uN(b n m:Nat)(cy:Int)(ar:Nat)(A:List AM)(s:Nat)(gn:Int):HQ 405 [pV b,pV ar] [Mr b n m 2 cy 0,BY ar n m A s gn] (iV 0) [Mr b n m 2 cy 0,BY ar n m A s gn]:=by
 refine AC func405 ntmps405 fun g w0 R h0=> ?_
 obtain⟨c,i,j,k,l,o,p,q,y,z,C,D,E,F,G,H⟩:=Bq h0
 have I:sat g _ (Cl b [iV n,iV m,pV c,pV i,pV j,.slice k m l] 250::_):=H
 have t:=I.a.t8
 have J:decide (0<(m:Int))=true:=decide_eq_true om
 have L:sat g w0 [Cl c [iV 2,iV m,iV cy,bF,bF,bF,bF,bT,.bool (decide (1<(m:Int))),.bool (decide (2<(m:Int))),.bool (decide (3<(m:Int)))] 340,Cl b [iV n,iV m,pV c,pV i,pV j,.slice k m l] 250,Cl i ([iV n]++List.replicate 256 (yV 0)) 336,Cl j ([bF,iV 0,iV p]++List.replicate 65 (iV 0)) 344,Sl 257 1 k m l (fl KY o),Bs (List.replicate 64 (iV 0)++ [iV q,iV 0,iV 0,bT]) 346 o,BY ar n m A s gn,R]:=by rw[J] at t;exact t
 have M:=L.f.b.t8
 refine g0<|DF call331 (Cd b ar c m n i j k l A s gn om) M fun _ N=>g0<|dw (AE [1,2,3,4,7,8] (Tr.an 0 (Tr.an 5 (Tr.fl 6 (Tr.an 9 Tr.nil))))) N fun _ u=>go [rd 4 4 0 2 1 u]<|CJ call433 EF u fun _ x=>⟨kd [rd 0 4 0 2 1 x],?_⟩
 refine BZ call153 (BM c m 2 cy false false false false true (decide (1<(m:Int))) (decide (2<(m:Int))) (decide (3<(m:Int))) om) x.b.t8 fun _ O=>⟨kd [],?_⟩
 refine g0<|FN call462 (OC b ar c m cy (decide (1<(m:Int))) (decide (2<(m:Int))) (decide (3<(m:Int))) n i j k l om om) O fun P Q=>⟨kd [],?_⟩
 refine g0 ?_
 have S:true=decide (0<(m:Int)):=(decide_eq_true om).symm
 have T:sat g P [Cl c [iV 2,iV m,iV cy,.bool (decide (0<0)),.bool (decide (1<0)),.bool (decide (2<0)),.bool (decide (3<0)),.bool (decide (0<(m:Int))),.bool (decide (1<(m:Int))),.bool (decide (2<(m:Int))),.bool (decide (3<(m:Int)))] 340,Cl b [iV n,iV m,pV c,pV i,pV j,.slice k m l] 250,BY ar n m A s gn,Cl i ([iV n]++List.replicate 256 (yV 0)) 336,Cl j ([bF,iV 0,iV p]++List.replicate 65 (iV 0)) 344,Sl 257 1 k m l (fl KY o),Bs (List.replicate 64 (iV 0)++ [iV q,iV 0,iV 0,bT]) 346 o,R]:=by have h_:=AI (B:=Cl c [iV 2,iV m,iV cy,.bool (decide (0<0)),.bool (decide (1<0)),.bool (decide (2<0)),.bool (decide (3<0)),.bool (decide (0<(m:Int))),.bool (decide (1<(m:Int))),.bool (decide (2<(m:Int))),.bool (decide (3<(m:Int)))] 340) Q (fun _ q_=>by rw[←S];exact q_);exact h_
 have U:sat g _ (Mr b n m 2 cy 0::_):=BR b n m 2 cy 0 c i j k l o p q y z C D E F G T.f.f.f.f.d.e.t8
 exact AD _ [] U
theorem WD(a:Nat)(b:Int)(_:0≤b-1):HQ 485 [pV a] [Cl a ([bF,iV 0,iV b]++List.replicate 65 (iV 0)) 344] (.tuple #[iV 0,bF]) [Cl a ([bF,iV 0,iV b]++List.replicate 65 (iV 0)) 344]:=by
 refine AC func485 ntmps485 fun g w0 R h0=>g0<|AF call247 (Fk a b om) h0 fun _ c=>go [rd 1 7 0 3 1 c] ?_
 exact AD _ [] c
theorem Sb(b:Nat):HT prog 499 [pV b,iV 0] [] (fun v K=> ∃c:Nat,∃d:Nat,v= .func (Fn.func 505) #[] #[pV c,pV d]∧K= [Cl c [pV b] 246,Cl d [iV 0] 3]):=by
 refine AC func499 ntmps499 fun g w0 R h0=>g0<|nP 246 [pV b] h0 (fun c _ e=> ?_)
 refine nP 3 [iV 0] e (fun d _ f=> ?_)
 refine g0 ?_
 exact en _ [] ⟨_,_,rfl,⟨c,d,rfl,rfl⟩,f.a.t3⟩
theorem Sc(a f:Nat)(_:0≤(f:Int)-1)(_:0≤ -(f:Int)+256):HQ 486 [pV a,iV 0] [Cl a ([iV f]++List.replicate 256 (yV 0)) 336] (.tuple #[iV 0,bF]) [Cl a ([iV f]++List.replicate 256 (yV 0)) 336]:=by
 refine AC func486 ntmps486 fun g w0 R h0=>g0<|nP 3 [iV 0] h0 (fun k _ l=> ?_)
 refine nP 4 [bF] l (fun m _ o=> ?_)
 refine g0<|cP call499 (Sb a) o ?_
 rintro v K _ (⟨p,q,rfl,rfl⟩) s
 have t:=(CW s).d.b.b.t6
 refine g0 ?_
 refine kN (N:=0) (fun i K=>K= []) (fun c _ K=>False) call505 (hH p q a f om om) rfl t ?_ ?_ ?_
 · intro i_ hi_;exact absurd hi_ (Nat.not_lt_zero _)
 ·
  rintro D22 C K_ ⟨rfl⟩ u
  have x:sat g _ (pt D22 (Obj.deferred (some []))::_):=u
  have y:=x.e.t7
  refine g0<|sA [iV 0] y fun _ z=>sA [bF] z.e.t7 fun _ A=>g0 ?_
  refine LM (.tuple #[iV 0,bF]) A.b.t7 (fun B j=> [rd 0 0 2 0 1 j,rd 0 0 1 0 1 j]) (fun B j=> ?_) [iV 0,bF] [(⟨k,0,none⟩,iV 0),(⟨m,0,none⟩,bF)]
  exact⟨_,_,rfl,⟨rfl,rfl⟩,j.e.t7.f.a.t2⟩
 intro _ _ _ _ _ _ hf_;exact hf_.elim
theorem OD(a b:Nat)(c:Int)(d e f i j k l m:Bool):HQ 394 [pV a] [Cl a [iV 3,iV b,iV c,.bool d,.bool e,.bool f,.bool i,.bool j,.bool k,.bool l,.bool m] 340] (bF) [Cl a [iV 3,iV b,iV c,.bool d,.bool e,.bool f,.bool i,.bool j,.bool k,.bool l,.bool m] 340]:=by
 refine AC func394 ntmps394 fun g w0 R o=>go [rd 1 3 0 0 1 o,rd 1 9 0 0 1 o] ?_
 exact AD _ [] o
theorem ZY(i a:Nat)(b:Int)(j k l m c d e f:Bool):HQ 457 [pV i,iV 4] [Cl i [iV 3,iV a,iV b,.bool j,.bool k,.bool l,.bool m,.bool c,.bool d,.bool e,.bool f] 340] (.tuple #[]) [Cl i [iV 4,iV a,iV b,bF,bF,bF,bF,.bool c,.bool d,.bool e,.bool f] 340]:=by
 refine AC func457 ntmps457 fun g w0 R h0=>g0<|sP [(0,iV 4)] [iV 4,iV a,iV b,.bool j,.bool k,.bool l,.bool m,.bool c,.bool d,.bool e,.bool f] h0 fun _ o=>g0<|sP [(3,bF),(4,bF),(5,bF),(6,bF)] [iV 4,iV a,iV b,bF,bF,bF,bF,.bool c,.bool d,.bool e,.bool f] o fun _ p=>g0 ?_
 exact AD _ [] p
theorem ZZ(a b:Nat)(c:Int)(j k l m d e f i:Bool)(_:0≤(b:Int)-1):HQ 438 [pV a] [Cl a [iV 3,iV b,iV c,.bool j,.bool k,.bool l,.bool m,.bool d,.bool e,.bool f,.bool i] 340] (iV 0) [Cl a [iV 4,iV b,iV c,bF,bF,bF,bF,.bool d,.bool e,.bool f,.bool i] 340]:=by
 refine AC func438 ntmps438 fun g w0 R h0=>g0<|AF call232 (CB a b 3 c j k l m d e f i om) h0 fun _ p=>go [rd 3 3 0 0 1 p]<|AF call394 (OD a b c j k l m d e f i) p fun _ o=>go [rd 7 3 0 0 1 o,rd 9 4 0 0 1 o,.s 9 6]<|AS (iV 4) (Bh (t:=3) (x:=Ot 39) (y:=(Operand.const (iV 6))) kr 4 6 kr kr om 4 dc _)<|AF call457 (ZY a b c j k l m d e f i) o fun _ q=>g0 ?_
 exact AD _ [] q
theorem pL(b n m:Nat)(cy sn:Int)(ck pt sk:Nat)(p:Option Addr)(c:Nat)(qs:List Nat)(zz yy:Int)(ar:Nat)(_:0≤(m:Int)-1)(_:0≤ -(m:Int)+4)(_:0≤(n:Int)-1)(_:0≤ -(n:Int)+256)(_:0≤zz-1)(_:0≤ -zz+64)(_:0≤yy-1)(_:0≤ -yy+64):HQ 463 [pV b,pV ar] [Cl b [iV n,iV m,pV ck,pV pt,pV sk,.slice p m c] 250,Cl ck [iV 3,iV m,iV cy,.bool (decide (0<sn)),.bool (decide (1<sn)),.bool (decide (2<sn)),.bool (decide (3<sn)),.bool (decide (0<(m:Int))),.bool (decide (1<(m:Int))),.bool (decide (2<(m:Int))),.bool (decide (3<(m:Int)))] 340,Cl pt ([iV n]++List.replicate 256 (yV 0)) 336,Cl sk ([bF,iV 0,iV zz]++List.replicate 65 (iV 0)) 344,Sl 257 1 p m c (fl KY qs),Bs (List.replicate 64 (iV 0)++ [iV yy,iV 0,iV 0,bT]) 346 qs] (.tuple #[]) [Cl b [iV n,iV m,pV ck,pV pt,pV sk,.slice p m c] 250,Cl ck [iV 4,iV m,iV cy,bF,bF,bF,bF,.bool (decide (0<(m:Int))),.bool (decide (1<(m:Int))),.bool (decide (2<(m:Int))),.bool (decide (3<(m:Int)))] 340,Cl pt ([iV n]++List.replicate 256 (yV 0)) 336,Cl sk ([bF,iV 0,iV zz]++List.replicate 65 (iV 0)) 344,Sl 257 1 p m c (fl KY qs),Bs (List.replicate 64 (iV 0)++ [iV yy,iV 0,iV 0,bT]) 346 qs]:=by
 refine AC func463 ntmps463 fun g w0 R u=>go [rd 0 3 0 5 1 u] ?_
 refine Jc (fun mz_ a w=> ∃i:Nat,∃lr:Fr,mz_=m-i∧(i≤m)∧a=mk 86 (([(0,pV b),(1,pV ar),(17,.slice p m c),(18,iV m),(19,iV i)]:Fr)++lr)∧sat g w [Cl b [iV n,iV m,pV ck,pV pt,pV sk,.slice p m c] 250,Cl ck [iV 3,iV m,iV cy,.bool (decide (0<sn)),.bool (decide (1<sn)),.bool (decide (2<sn)),.bool (decide (3<sn)),.bool (decide (0<(m:Int))),.bool (decide (1<(m:Int))),.bool (decide (2<(m:Int))),.bool (decide (3<(m:Int)))] 340,Cl pt ([iV n]++List.replicate 256 (yV 0)) 336,Cl sk ([bF,iV 0,iV zz]++List.replicate 65 (iV 0)) 344,Sl 257 1 p m c (fl KY qs),Bs (List.replicate 64 (iV 0)++ [iV yy,iV 0,iV 0,bT]) 346 qs,R]) (m-0) ⟨0,_,rfl,(Nat.zero_le _),(Ck [.k 0 (pV b),.k 1 (pV ar),.k 17 (.slice p m c),.k 18 (iV m),.o 19 (oJ .i64 0 (0:Int))]),u⟩ ?_
 rintro M N O ⟨i,P,rfl,hi_,rfl,f⟩
 refine ga<|go [.s 1 0] ?_
 by_cases y:(i:Int)<(m:Int)
 ·
  obtain⟨l,z⟩:=Av (j:=4) f rfl om
  refine go [.v 1 0 (oT _ y),.s 2 0]<|AS (.pointer (some ⟨l,i,none⟩)) (Ft (Ot 17) (Ot 19) p l 0 (i:Int) m c underlying248 1 i z i) ?_
  have q:=f.d.t7
  have D:=Ca GK dc q
  obtain⟨t,A⟩: ∃x,qs[i]? =some x:=⟨_,List.getElem?_eq_getElem (by rw[D];omega)⟩
  have E:=q.e.t7
  refine go [.r 2 1 l i [pV t] ⟨CM 0 q rfl z GK 0 (pV t) A i,trivial⟩]<|AF call441 (ZX t yy i qs A om om) E fun _ F=>g0<|DS 1<|g0<|up<|go [.v 9 0 (CD ((i:Int)+1))] ?_
  refine ET ?_
  have G:=F.a.e.e.e.e.t7
  change ∃n',n'<_∧_
  refine⟨(m-(i+1)),by omega,(i+1),_,rfl,om,(Ck [.k 0 (pV b),.k 1 (pV ar),.k 17 (.slice p m c),.k 18 (iV m),.o 19 (oJ .i64 ((i:Int)+1) (((i+1):Nat):Int))]),G⟩
 refine go [.v 1 0 (oF _ y)]<|up ?_
 have H:=f.c.t7
 refine go [rd 10 3 0 4 1 f]<|AF call485 (WD sk zz om) H fun _ B=> ?_
 have I:=B.c.t7
 refine go [rd 12 3 1 3 1 B]<|AF call486 (Sc pt n om om) I fun _ C=> ?_
 have J:=C.c.t7
 refine go [rd 14 3 2 2 1 C]<|AF call438 (ZZ ck m cy (decide (0<sn)) (decide (1<sn)) (decide (2<sn)) (decide (3<sn)) (decide (0<(m:Int))) (decide (1<(m:Int))) (decide (2<(m:Int))) (decide (3<(m:Int))) om) J fun _ L=>g0 ?_
 exact AD _ [] L.c.t7
theorem zA(b n m:Nat)(cy:Int)(ar:Nat)(A:List AM)(s:Nat)(gn sn:Int):HQ 405 [pV b,pV ar] [Mr b n m 3 cy sn,BY ar n m A s gn] (iV 0) [Mr b n m 4 cy 0,BY ar n m A s gn]:=by
 refine AC func405 ntmps405 fun g w0 R h0=> ?_
 obtain⟨c,i,j,k,l,o,p,q,x,y,z,B,C,D,E,F⟩:=Bq h0
 have G:sat g _ (Cl b [iV n,iV m,pV c,pV i,pV j,.slice k m l] 250::_):=F
 have H:=G.f.a.t8
 refine g0<|DF call331 (Cd b ar c m n i j k l A s gn om) H fun _ I=>g0<|dw (AE [1,2,3,4,7,8] (Tr.an 0 (Tr.an 5 (Tr.fl 6 (Tr.an 9 Tr.nil))))) I fun _ t=>go [rd 4 4 0 2 1 t]<|CJ call433 EF t fun _ u=>⟨kd [rd 0 4 0 2 1 u],?_⟩
 refine BZ call153 (BM c m 3 cy (decide (0<sn)) (decide (1<sn)) (decide (2<sn)) (decide (3<sn)) (decide (0<(m:Int))) (decide (1<(m:Int))) (decide (2<(m:Int))) (decide (3<(m:Int))) om) u.b.t8 fun _ J=>⟨kd [],?_⟩
 have L:=J.f.f.f.f.d.e.t8
 refine g0<|cw6 call463 (pL b n m cy sn c i j k l o p q ar om om om om om om om om) L fun P M=>⟨kd [],?_⟩
 refine g0 ?_
 have N:sat g _ (Cl b [iV n,iV m,pV c,pV i,pV j,.slice k m l] 250::_):=M
 have O:sat g _ (Mr b n m 4 cy 0::_):=BR b n m 4 cy 0 c i j k l o p q x y z B C D E N
 exact AD _ [] O
theorem JH(d e b c f i j:Nat)(k:Option Addr)(l:Nat)(m:List AM)(_:0≤(b:Int)-1):HQ 331 [pV d,pV e] [Cl d [iV b,iV c,pV f,pV i,pV j,.slice k c l] 250,B2 e b c m] (iV 0) [Cl d [iV b,iV c,pV f,pV i,pV j,.slice k c l] 250,B2 e b c m]:=by
 refine AC func331 ntmps331 fun g w0 R h0=>g0<|AF call152 (BB d b c f i j k l om) h0 fun _ p=> ?_
 have q:=p.a.t3
 refine g0<|AF call289 (Hx e b c m) q fun _ o=>go [.v 4 1 (DR (b:Int) 0),rd 6 4 1 0 1 o,.v 6 5 (Db (b:Int) (b:Int)),rd 6 11 1 1 1 o,.v 6 12 (Db (c:Int) (c:Int))] ?_
 exact AD _ [] o.a.t3
theorem Kg(b c a:Nat)(d e:Int)(f i j k l m o p:Bool)(_:0≤(a:Int)-(c:Int)-1):HQ 326 [pV b,iV c] [Cl b [iV d,iV a,iV e,.bool f,.bool i,.bool j,.bool k,.bool l,.bool m,.bool o,.bool p] 340] (iV 0) [Cl b [iV d,iV a,iV e,.bool f,.bool i,.bool j,.bool k,.bool l,.bool m,.bool o,.bool p] 340]:=by
 refine AC func326 ntmps326 fun g w0 R h0=>g0<|AF call232 (CB b a d e f i j k l m o p om) h0 fun _ q=>go [.v 3 1 (oF ((c:Int)<0)),rd 3 7 0 1 1 q,.v 3 8 (oF ((c:Int)≥(a:Int)))] ?_
 exact AD _ [] q
theorem OE(b:Nat)(a:Int)(c:Nat)(d:Int)(e f i j k l m o:Bool)(_:0≤a-3):HQ 394 [pV b] [Cl b [iV a,iV c,iV d,.bool e,.bool f,.bool i,.bool j,.bool k,.bool l,.bool m,.bool o] 340] (bF) [Cl b [iV a,iV c,iV d,.bool e,.bool f,.bool i,.bool j,.bool k,.bool l,.bool m,.bool o] 340]:=by
 refine AC func394 ntmps394 fun g w0 R p=>go [rd 1 3 0 0 1 p,.v 1 4 (DR a 1),rd 1 9 0 0 1 p,.v 1 10 (DR a 2)] ?_
 exact AD _ [] p
theorem Kh(a p b:Nat)(c d:Int)(e f i j k l m o:Bool)(_:0≤(b:Int)-(p:Int)-1)(_:0≤c-3):HQ 332 [pV a,iV p] [Cl a [iV c,iV b,iV d,.bool e,.bool f,.bool i,.bool j,.bool k,.bool l,.bool m,.bool o] 340] (.tuple #[bF,iV 8]) [Cl a [iV c,iV b,iV d,.bool e,.bool f,.bool i,.bool j,.bool k,.bool l,.bool m,.bool o] 340]:=by
 refine AC func332 ntmps332 fun g w0 R h0=>g0<|AF call326 (Kg a p b c d e f i j k l m o om) h0 fun _ q=>g0<|AF call394 (OE a c b d e f i j k l m o om) q fun _ s=>g0 ?_
 exact AD _ [] s
theorem pM(b n m:Nat)(cy ph sn:Int)(ar:Nat)(A:List AM)(j:Nat)(_:0≤ph-3)(_:0≤(m:Int)-(j:Int)-1):HQ 261 [pV b,pV ar,iV j] [Mr b n m ph cy sn,B2 ar n m A] (.tuple #[bF,iV 8]) [Mr b n m ph cy sn,B2 ar n m A]:=by
 refine AC func261 ntmps261 fun g w0 R h0=> ?_
 obtain⟨c,i,k,l,o,q,s,t,u,x,y,z,B,C,D,E⟩:=Bq h0
 have F:sat g _ (Cl b [iV n,iV m,pV c,pV i,pV k,.slice l m o] 250::_):=E
 have G:=F.f.a.t8
 refine g0<|DF call331 (JH b ar n m c i k l o A om) G fun _ p=> ?_
 have H:=p.b.t8
 refine go [rd 4 3 0 2 1 p]<|AF call332 (Kh c j m ph cy (decide (0<sn)) (decide (1<sn)) (decide (2<sn)) (decide (3<sn)) (decide (0<(m:Int))) (decide (1<(m:Int))) (decide (2<(m:Int))) (decide (3<(m:Int))) om om) H fun L I=>g0 ?_
 have J:sat g _ (Mr b n m ph cy sn::_):=BR b n m ph cy sn c i k l o q s t u x y z B C D I.f.f.f.f.d.e.t8
 exact AD _ [] J
theorem La(a b:Nat)(c:Int)(d e f i j k l m:Bool):HQ 394 [pV a] [Cl a [iV 0,iV b,iV c,.bool d,.bool e,.bool f,.bool i,.bool j,.bool k,.bool l,.bool m] 340] (bF) [Cl a [iV 0,iV b,iV c,.bool d,.bool e,.bool f,.bool i,.bool j,.bool k,.bool l,.bool m] 340]:=by
 refine AC func394 ntmps394 fun g w0 R o=>go [rd 1 3 0 0 1 o,rd 1 9 0 0 1 o] ?_
 exact AD _ [] o
theorem Sd(a o b:Nat)(c:Int)(d e f i j k l m:Bool)(_:0≤(b:Int)-(o:Int)-1):HQ 332 [pV a,iV o] [Cl a [iV 0,iV b,iV c,.bool d,.bool e,.bool f,.bool i,.bool j,.bool k,.bool l,.bool m] 340] (.tuple #[bF,iV 8]) [Cl a [iV 0,iV b,iV c,.bool d,.bool e,.bool f,.bool i,.bool j,.bool k,.bool l,.bool m] 340]:=by
 refine AC func332 ntmps332 fun g w0 R h0=>g0<|AF call326 (Kg a o b 0 c d e f i j k l m om) h0 fun _ p=>g0<|AF call394 (La a b c d e f i j k l m) p fun _ q=>g0 ?_
 exact AD _ [] q
theorem pP(b n m:Nat)(cy sn:Int)(ar:Nat)(A:List AM)(j:Nat)(_:0≤(m:Int)-(j:Int)-1):HQ 261 [pV b,pV ar,iV j] [Mr b n m 0 cy sn,B2 ar n m A] (.tuple #[bF,iV 8]) [Mr b n m 0 cy sn,B2 ar n m A]:=by
 refine AC func261 ntmps261 fun g w0 R h0=> ?_
 obtain⟨c,i,k,l,o,q,s,t,u,x,y,z,B,C,D,E⟩:=Bq h0
 have F:sat g _ (Cl b [iV n,iV m,pV c,pV i,pV k,.slice l m o] 250::_):=E
 have G:=F.f.a.t8
 refine g0<|DF call331 (JH b ar n m c i k l o A om) G fun _ p=> ?_
 have H:=p.b.t8
 refine go [rd 4 3 0 2 1 p]<|AF call332 (Sd c j m cy (decide (0<sn)) (decide (1<sn)) (decide (2<sn)) (decide (3<sn)) (decide (0<(m:Int))) (decide (1<(m:Int))) (decide (2<(m:Int))) (decide (3<(m:Int))) om) H fun L I=>g0 ?_
 have J:sat g _ (Mr b n m 0 cy sn::_):=BR b n m 0 cy sn c i k l o q s t u x y z B C D I.f.f.f.f.d.e.t8
 exact AD _ [] J
theorem pQ(b n m:Nat)(cy ph sn:Int)(ar:Nat)(A:List AM)(s:Nat)(gn:Int)(j:Nat)(_:0≤ph-3)(_:0≤(m:Int)-(j:Int)-1):HQ 261 [pV b,pV ar,iV j] [Mr b n m ph cy sn,BY ar n m A s gn] (.tuple #[bF,iV 8]) [Mr b n m ph cy sn,BY ar n m A s gn]:=by
 refine AC func261 ntmps261 fun g w0 R h0=> ?_
 obtain⟨c,i,k,l,o,q,t,u,x,y,z,B,C,D,E,F⟩:=Bq h0
 have G:sat g _ (Cl b [iV n,iV m,pV c,pV i,pV k,.slice l m o] 250::_):=F
 have H:=G.f.a.t8
 refine g0<|DF call331 (Cd b ar c m n i k l o A s gn om) H fun _ p=> ?_
 have I:=p.b.t8
 refine go [rd 4 3 0 2 1 p]<|AF call332 (Kh c j m ph cy (decide (0<sn)) (decide (1<sn)) (decide (2<sn)) (decide (3<sn)) (decide (0<(m:Int))) (decide (1<(m:Int))) (decide (2<(m:Int))) (decide (3<(m:Int))) om om) I fun M J=>g0 ?_
 have L:sat g _ (Mr b n m ph cy sn::_):=BR b n m ph cy sn c i k l o q t u x y z B C D E J.f.f.f.f.d.e.t8
 exact AD _ [] L
theorem uO(b n m:Nat)(cy:Int)(ar:Nat)(A:List AM)(s:Nat)(gn:Int)(j:Nat)(_:0≤(m:Int)-(j:Int)-1):HQ 261 [pV b,pV ar,iV j] [Mr b n m 1 cy (j:Int),BY ar n m A s gn] (.tuple #[bT,iV 0]) [Mr b n m 1 cy ((j:Int)+1),BY ar n m A s gn]:=by
 refine AC func261 ntmps261 fun g w0 R h0=> ?_
 obtain⟨c,i,k,l,o,t,u,x,y,z,B,C,D,E,F,G⟩:=Bq h0
 have H:sat g _ (Cl b [iV n,iV m,pV c,pV i,pV k,.slice l m o] 250::_):=G
 have I:=H.f.a.t8
 refine g0<|DF call331 (Cd b ar c m n i k l o A s gn om) I fun _ p=> ?_
 have J:=p.b.t8
 refine go [rd 4 3 0 2 1 p]<|AF call332 (ZT c m cy j (decide (0<(m:Int))) (decide (1<(m:Int))) (decide (2<(m:Int))) (decide (3<(m:Int))) om om om) J fun _ q=>go [rd 7 5 1 2 1 q]<|AF call153 (BM c m 1 cy (decide (0<(j:Int)+1)) (decide (1<(j:Int)+1)) (decide (2<(j:Int)+1)) (decide (3<(j:Int)+1)) (decide (0<(m:Int))) (decide (1<(m:Int))) (decide (2<(m:Int))) (decide (3<(m:Int))) om) q fun N L=>g0 ?_
 have M:sat g _ (Mr b n m 1 cy ((j:Int)+1)::_):=BR b n m 1 cy ((j:Int)+1) c i k l o t u x y z B C D E F L.f.f.f.f.d.e.t8
 exact AD _ [] M
theorem Ki(a:Option Addr)(b c d:Nat):HQ 395 [.slice a 0 b,pV c,pV d] [] (.tuple #[]) []:=by
 refine AC func395 ntmps395 fun g w0 R h0=>g0<|DS 39<|g0<|up<|g0 ?_
 exact AD _ [] h0
theorem uP(b n m:Nat)(cy:Int)(ar:Nat)(A:List AM)(s:Nat)(gn:Int)(j:Nat)(_:0≤(m:Int)-(j:Int)-1):HQ 261 [pV b,pV ar,iV j] [Mr b n m 2 cy (j:Int),BY ar n m A s gn] (.tuple #[bT,iV 0]) [Mr b n m 2 cy ((j:Int)+1),BY ar n m A s gn]:=by
 refine AC func261 ntmps261 fun g w0 R h0=> ?_
 obtain⟨c,d,e,k,l,q,t,u,x,y,z,B,C,D,E,F⟩:=Bq h0
 have G:sat g _ (Cl b [iV n,iV m,pV c,pV d,pV e,.slice k m l] 250::_):=F
 have H:=G.f.a.t8
 refine g0<|DF call331 (Cd b ar c m n d e k l A s gn om) H fun _ o=> ?_
 have I:=o.b.t8
 refine go [rd 4 3 0 2 1 o]<|AF call332 (ZU c m cy j (decide (0<(m:Int))) (decide (1<(m:Int))) (decide (2<(m:Int))) (decide (3<(m:Int))) om om om) I fun _ p=>go [rd 7 5 1 2 1 p]<|AF call153 (BM c m 2 cy (decide (0<(j:Int)+1)) (decide (1<(j:Int)+1)) (decide (2<(j:Int)+1)) (decide (3<(j:Int)+1)) (decide (0<(m:Int))) (decide (1<(m:Int))) (decide (2<(m:Int))) (decide (3<(m:Int))) om) p fun _ J=> ?_
 have L:=J.b.t8
 refine g0<|cP call265 (gS ar n m A s gn j om) L ?_
 rintro v K _ (⟨M,N,rfl,rfl⟩) O
 have P:=B3 O
 refine g0<|cP call333 (G0 b ar m n A s gn) P ?_
 rintro v K _ (⟨Q,S,X,Y,rfl,rfl⟩) T
 have U:=ap5 T
 refine g0<|AP call395 (Ki M N Q S) U fun Z V=>g0 ?_
 have W:sat g _ (Mr b n m 2 cy ((j:Int)+1)::_):=BR b n m 2 cy ((j:Int)+1) c d e k l q t u x y z B C D E V.j.j.j.j.i.j.t12
 exact AD _ [] W.f.b.b.t3
end Go.Proofs.YtcgkoffnknpgjaaGreatDoor

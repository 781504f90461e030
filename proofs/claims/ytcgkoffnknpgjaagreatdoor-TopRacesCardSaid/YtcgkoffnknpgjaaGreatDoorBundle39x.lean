/- Walks, printed by my generator t12.py. -/
import Derived.Test.YtcgkoffnknpgjaaGreatDoorBundle38x
namespace Go.Proofs.YtcgkoffnknpgjaaGreatDoor
set_option linter.unusedVariables false
set_option linter.unusedSimpArgs false
open Tryz
set_option maxHeartbeats 4000000
theorem CC{n:Nat}{l:Fr}{o:Oper}{x y:Operand}(a b c d e:Int)(f:List UInt8)(i c1 c2 j k:Int)(m:List UInt8)(ho:o.op= .binOp .neq 37 x y 37)(hx:fe n l x= .agg #[iV a,iV b,iV c,iV d,iV e,sV f])(hy:fe n l y= .agg #[iV i,iV c1,iV c2,iV j,iV k,sV m])(h:a=i∧b=c1∧c=c2∧d=j∧e=k∧f=m)(w:World):(execOp (fe n l) o).run prog w= .ok (.value (bF)) w:=by
 obtain⟨rfl,rfl,rfl,rfl,rfl,rfl⟩:=h
 simp[execOp,ho,hx,hy,go_sem]
theorem Zl(L:List UInt8)(_:0≤Ag L)(_:0≤ -(Ag L)):HQ 131 [sV L] [] (iV 0) []:=by
 have h:Ag L=0:=by omega
 have a:=Xw L (by have:=GN h;omega)
 rw[h] at a
 exact a
theorem Bt:HT prog 130 [] [] (fun v K=> ∃a:Nat,v= .slice (some ⟨a,0,none⟩) 18 18∧K= [Cl a [sV [],sV [],sV [110,101,119],sV [109,110],sV [108,111,97,100],sV [109,114,105],sV [115,116,111,114,101],sV [109,114,105,118],sV [100,114,111,112],sV [109,114],sV [112,117,116],sV [109,82,103],sV [103,101,116],sV [109,103],sV [97,99,107],sV [109],sV [111,112,101,110],sV [109,107,98,113],sV [100,117,112],sV [109,100],sV [117,115,101],sV [109,100],sV [114,101,110,101,119],sV [109,100,116],sV [99,108,111,115,101],sV [109,100],sV [109,97,114,107],sV [115],sV [98,97,116,99,104],sV [],sV [116,105,99,107],sV [84],sV [99,121,99,108,101],sV [],sV [97,110,115,119,101,114],sV [97]] 193]):=by
 refine AC func130 ntmps130 fun g w0 R h0=>g0<|nG (fun q_=> .slice (some ⟨q_,0,none⟩) 18 18) 193 [sV [],sV [],sV [110,101,119],sV [109,110],sV [108,111,97,100],sV [109,114,105],sV [115,116,111,114,101],sV [109,114,105,118],sV [100,114,111,112],sV [109,114],sV [112,117,116],sV [109,82,103],sV [103,101,116],sV [109,103],sV [97,99,107],sV [109],sV [111,112,101,110],sV [109,107,98,113],sV [100,117,112],sV [109,100],sV [117,115,101],sV [109,100],sV [114,101,110,101,119],sV [109,100,116],sV [99,108,111,115,101],sV [109,100],sV [109,97,114,107],sV [115],sV [98,97,116,99,104],sV [],sV [116,105,99,107],sV [84],sV [99,121,99,108,101],sV [],sV [97,110,115,119,101,114],sV [97]] h0 (fun a _ b=>⟨kd [],?_⟩)
 refine g0 ?_
 exact en _ [] ⟨_,_,rfl,⟨a,rfl,rfl⟩,b⟩
theorem Mq:HQ 74 [iV 16] [] (.tuple #[.agg #[sV [99,121,99,108,101],sV []],bT]) []:=by
 refine AC func74 ntmps74 fun g w0 R h0=>g0<|nP 193 [sV [],sV []] h0 (fun _ _ f=> ?_)
 refine g0<|cP call130 Bt f ?_
 rintro v K _ (⟨c,rfl,rfl⟩) i
 have d:=B3 i
 refine go [.v 2 5 (oJ .i64 (18:Int) 18),.s 4 2]<|AS (.pointer (some ⟨c,32,none⟩)) (D5 (Ot 15) (Ot 16) c 0 16 18 18 underlying289 2 16 32) ?_
 have j:=d.a.t3
 refine go [rd 4 3 0 32 2 d]<|sA [sV [99,121,99,108,101],sV []] j fun _ e=>g0 ?_
 exact AD _ [rd 0 0 0 0 2 e] e.b.t1
theorem iQ:HQ 34 [.agg #[iV 16,iV 0,iV 0,iV 0,iV 0,sV []]] [] (iV 0) []:=by
 refine AC func34 ntmps34 fun g w0 R h0=>g0<|nP 37 [iV 16,iV 0,iV 0,iV 0,iV 0,sV []] h0 (fun _ _ b=> ?_)
 refine go [rd 1 1 0 0 1 b]<|AP call74 Mq b fun _ f=>g0<|nP 193 [sV [],sV []] f (fun _ _ i=> ?_)
 refine sA [sV [99,121,99,108,101],sV []] i fun _ c=>go [rd 2 0 1 0 6 c]<|nP 37 [iV 0,iV 0,iV 0,iV 0,iV 0,sV []] c (fun _ _ k=> ?_)
 refine sA [iV 16,iV 0,iV 0,iV 0,iV 0,sV []] k fun _ e=>go [rd 3 1 1 1 1 e] ?_
 refine AH ?_
 refine B5 (t:=9) (d:=20) (x:=Ot 19) (L:= []) kr kr rfl underlying9 kr e ?_
 intro l _ a
 refine B1<|g0<|DS 39<|g0 ?_
 refine AH ?_
 refine Cb (d:=21) (x:=Ot 20) (r:=l) (L:= []) (p:=0) kr kr rfl kr (j:=0) a rfl dc ?_
 refine B1<|g0<|up<|go [rd 12 3 1 0 6 a,rd 12 5 3 0 1 a,.s 12 7]<|AS (bF) (CC (x:=Ot 60) (y:=Ot 63) 16 0 0 0 0 [] 16 0 0 0 0 [] kr kr kr ⟨rfl,rfl,rfl,rfl,rfl,rfl⟩ _)<|g0 ?_
 exact AD _ [] a.d.t1
theorem Ms:HQ 74 [iV 14] [] (.tuple #[.agg #[sV [98,97,116,99,104],sV []],bT]) []:=by
 refine AC func74 ntmps74 fun g w0 R h0=>g0<|nP 193 [sV [],sV []] h0 (fun _ _ f=> ?_)
 refine g0<|cP call130 Bt f ?_
 rintro v K _ (⟨c,rfl,rfl⟩) i
 have d:=B3 i
 refine go [.v 2 5 (oJ .i64 (18:Int) 18),.s 4 2]<|AS (.pointer (some ⟨c,28,none⟩)) (D5 (Ot 15) (Ot 16) c 0 14 18 18 underlying289 2 14 28) ?_
 have j:=d.a.t3
 refine go [rd 4 3 0 28 2 d]<|sA [sV [98,97,116,99,104],sV []] j fun _ e=>g0 ?_
 exact AD _ [rd 0 0 0 0 2 e] e.b.t1
theorem Jp:HQ 34 [.agg #[iV 14,iV 0,iV 0,iV 0,iV 0,sV []]] [] (iV 0) []:=by
 refine AC func34 ntmps34 fun g w0 R h0=>g0<|nP 37 [iV 14,iV 0,iV 0,iV 0,iV 0,sV []] h0 (fun _ _ b=> ?_)
 refine go [rd 1 1 0 0 1 b]<|AP call74 Ms b fun _ f=>g0<|nP 193 [sV [],sV []] f (fun _ _ i=> ?_)
 refine sA [sV [98,97,116,99,104],sV []] i fun _ c=>go [rd 2 0 1 0 6 c]<|nP 37 [iV 0,iV 0,iV 0,iV 0,iV 0,sV []] c (fun _ _ k=> ?_)
 refine sA [iV 14,iV 0,iV 0,iV 0,iV 0,sV []] k fun _ e=>go [rd 3 1 1 1 1 e] ?_
 refine AH ?_
 refine B5 (t:=9) (d:=20) (x:=Ot 19) (L:= []) kr kr rfl underlying9 kr e ?_
 intro l _ a
 refine B1<|g0<|DS 39<|g0 ?_
 refine AH ?_
 refine Cb (d:=21) (x:=Ot 20) (r:=l) (L:= []) (p:=0) kr kr rfl kr (j:=0) a rfl dc ?_
 refine B1<|g0<|up<|go [rd 12 3 1 0 6 a,rd 12 5 3 0 1 a,.s 12 7]<|AS (bF) (CC (x:=Ot 60) (y:=Ot 63) 14 0 0 0 0 [] 14 0 0 0 0 [] kr kr kr ⟨rfl,rfl,rfl,rfl,rfl,rfl⟩ _)<|g0 ?_
 exact AD _ [] a.d.t1
theorem Mt:HQ 74 [iV 4] [] (.tuple #[.agg #[sV [100,114,111,112],sV [109,114]],bT]) []:=by
 refine AC func74 ntmps74 fun g w0 R h0=>g0<|nP 193 [sV [],sV []] h0 (fun _ _ f=> ?_)
 refine g0<|cP call130 Bt f ?_
 rintro v K _ (⟨c,rfl,rfl⟩) i
 have d:=B3 i
 refine go [.v 2 5 (oJ .i64 (18:Int) 18),.s 4 2]<|AS (.pointer (some ⟨c,8,none⟩)) (D5 (Ot 15) (Ot 16) c 0 4 18 18 underlying289 2 4 8) ?_
 have j:=d.a.t3
 refine go [rd 4 3 0 8 2 d]<|sA [sV [100,114,111,112],sV [109,114]] j fun _ e=>g0 ?_
 exact AD _ [rd 0 0 0 0 2 e] e.b.t1
theorem DD(a:Nat):HQ 75 [pV a,.int .i32 109] [] (.tuple #[.pointer (some ⟨a,1,none⟩),iV 0,iV 3]) []:=by
 refine AC func75 ntmps75 fun g w0 R h0=>g0 ?_
 exact AD _ [] h0
theorem Lb(a:Nat):HQ 75 [pV a,.int .i32 114] [] (.tuple #[.pointer (some ⟨a,2,none⟩),iV 0,iV 31]) []:=by
 refine AC func75 ntmps75 fun g w0 R h0=>g0 ?_
 exact AD _ [] h0
theorem Zm:HQ 34 [.agg #[iV 4,iV 0,iV 0,iV 0,iV 0,sV []]] [] (iV 0) []:=by
 refine AC func34 ntmps34 fun g w0 R h0=>g0<|nP 37 [iV 4,iV 0,iV 0,iV 0,iV 0,sV []] h0 (fun _ _ k=> ?_)
 refine go [rd 1 1 0 0 1 k]<|AP call74 Mt k fun _ q=>g0<|nP 193 [sV [],sV []] q (fun _ _ u=> ?_)
 refine sA [sV [100,114,111,112],sV [109,114]] u fun _ l=>go [rd 2 0 1 0 6 l]<|nP 37 [iV 0,iV 0,iV 0,iV 0,iV 0,sV []] l (fun m _ z=> ?_)
 refine sA [iV 4,iV 0,iV 0,iV 0,iV 0,sV []] z fun _ o=>go [rd 3 1 1 1 1 o] ?_
 refine AH ?_
 refine B5 (t:=9) (d:=20) (x:=Ot 19) (L:= [109,114]) kr kr rfl underlying9 kr o ?_
 intro e _ A
 refine B1<|g0<|DS 39<|g0 ?_
 refine AH ?_
 refine Cj (d:=21) (x:=Ot 20) (r:=e) (L:= [109,114]) (p:=0) (c:=109) kr kr rfl kr A dc dc kr 0 109 1 rfl rfl rfl ?_
 intro _ B
 refine B1<|g0<|AP call75 (DD m) B fun _ f=> ?_
 have C:=f.a.t5
 refine go [rd 10 4 1 1 1 f,rd 10 11 1 1 1 f]<|sP [(1,iV 0)] [iV 4,iV 0,iV 0,iV 0,iV 0,sV []] C fun _ D=>g0<|Bm ?_
 have E:=D.a.t5
 refine g0 ?_
 refine AH ?_
 refine Cj (d:=21) (x:=Ot 20) (r:=e) (L:= [109,114]) (p:=1) (c:=114) kr kr rfl kr E dc dc kr 1 114 2 rfl rfl rfl ?_
 intro _ F
 refine B1<|g0<|AP call75 (Lb m) F fun _ i=> ?_
 have G:=i.a.t5
 refine go [rd 10 4 1 2 1 i,rd 10 11 1 2 1 i]<|sP [(2,iV 0)] [iV 4,iV 0,iV 0,iV 0,iV 0,sV []] G fun _ b=>g0<|Bm<|g0 ?_
 refine AH ?_
 refine Cb (d:=21) (x:=Ot 20) (r:=e) (L:= [109,114]) (p:=2) kr kr rfl kr (j:=1) b rfl dc ?_
 refine B1<|g0<|up<|go [rd 12 3 0 0 6 b,rd 12 5 3 0 1 b,.s 12 7]<|AS (bF) (CC (x:=Ot 60) (y:=Ot 63) 4 0 0 0 0 [] 4 0 0 0 0 [] kr kr kr ⟨rfl,rfl,rfl,rfl,rfl,rfl⟩ _)<|g0 ?_
 exact AD _ [] b.d.t1
theorem Mu:HQ 74 [iV 7] [] (.tuple #[.agg #[sV [97,99,107],sV [109]],bT]) []:=by
 refine AC func74 ntmps74 fun g w0 R h0=>g0<|nP 193 [sV [],sV []] h0 (fun _ _ f=> ?_)
 refine g0<|cP call130 Bt f ?_
 rintro v K _ (⟨c,rfl,rfl⟩) i
 have d:=B3 i
 refine go [.v 2 5 (oJ .i64 (18:Int) 18),.s 4 2]<|AS (.pointer (some ⟨c,14,none⟩)) (D5 (Ot 15) (Ot 16) c 0 7 18 18 underlying289 2 7 14) ?_
 have j:=d.a.t3
 refine go [rd 4 3 0 14 2 d]<|sA [sV [97,99,107],sV [109]] j fun _ e=>g0 ?_
 exact AD _ [rd 0 0 0 0 2 e] e.b.t1
theorem iR(jz:Int)(_:0≤jz)(_:0≤ -jz+3):HQ 34 [.agg #[iV 7,iV jz,iV 0,iV 0,iV 0,sV []]] [] (iV 0) []:=by
 refine AC func34 ntmps34 fun g w0 R h0=>g0<|nP 37 [iV 7,iV jz,iV 0,iV 0,iV 0,sV []] h0 (fun _ _ f=> ?_)
 refine go [rd 1 1 0 0 1 f]<|AP call74 Mu f fun _ m=>g0<|nP 193 [sV [],sV []] m (fun _ _ o=> ?_)
 refine sA [sV [97,99,107],sV [109]] o fun _ i=>go [rd 2 0 1 0 6 i]<|nP 37 [iV 0,iV 0,iV 0,iV 0,iV 0,sV []] i (fun q _ u=> ?_)
 refine sA [iV 7,iV jz,iV 0,iV 0,iV 0,sV []] u fun _ k=>go [rd 3 1 1 1 1 k] ?_
 refine AH ?_
 refine B5 (t:=9) (d:=20) (x:=Ot 19) (L:= [109]) kr kr rfl underlying9 kr k ?_
 intro l _ z
 refine B1<|g0<|DS 39<|g0 ?_
 refine AH ?_
 refine Cj (d:=21) (x:=Ot 20) (r:=l) (L:= [109]) (p:=0) (c:=109) kr kr rfl kr z dc dc kr 0 109 1 rfl rfl rfl ?_
 intro _ A
 refine B1<|g0<|AP call75 (DD q) A fun _ e=> ?_
 have B:=e.a.t5
 refine go [rd 10 4 1 1 1 e,.v 10 6 (oT (jz≥0)),rd 10 11 1 1 1 e,.v 10 13 (oT (jz≤3))]<|sP [(1,iV 0)] [iV 7,iV 0,iV 0,iV 0,iV 0,sV []] B fun _ b=>g0<|Bm<|g0 ?_
 refine AH ?_
 refine Cb (d:=21) (x:=Ot 20) (r:=l) (L:= [109]) (p:=1) kr kr rfl kr (j:=1) b rfl dc ?_
 refine B1<|g0<|up<|go [rd 12 3 0 0 6 b,rd 12 5 3 0 1 b,.s 12 7]<|AS (bF) (CC (x:=Ot 60) (y:=Ot 63) 7 0 0 0 0 [] 7 0 0 0 0 [] kr kr kr ⟨rfl,rfl,rfl,rfl,rfl,rfl⟩ _)<|g0 ?_
 exact AD _ [] b.d.t1
theorem Mv:HQ 74 [iV 13] [] (.tuple #[.agg #[sV [109,97,114,107],sV [115]],bT]) []:=by
 refine AC func74 ntmps74 fun g w0 R h0=>g0<|nP 193 [sV [],sV []] h0 (fun _ _ f=> ?_)
 refine g0<|cP call130 Bt f ?_
 rintro v K _ (⟨c,rfl,rfl⟩) i
 have d:=B3 i
 refine go [.v 2 5 (oJ .i64 (18:Int) 18),.s 4 2]<|AS (.pointer (some ⟨c,26,none⟩)) (D5 (Ot 15) (Ot 16) c 0 13 18 18 underlying289 2 13 26) ?_
 have j:=d.a.t3
 refine go [rd 4 3 0 26 2 d]<|sA [sV [109,97,114,107],sV [115]] j fun _ e=>g0 ?_
 exact AD _ [rd 0 0 0 0 2 e] e.b.t1
theorem Lc(a:Nat):HQ 75 [pV a,.int .i32 115] [] (.tuple #[.pointer (some ⟨a,2,none⟩),iV 1,iV 10000]) []:=by
 refine AC func75 ntmps75 fun g w0 R h0=>g0 ?_
 exact AD _ [] h0
theorem H4(i:Int)(_:0≤i-1)(_:0≤ -i+10000):HQ 34 [.agg #[iV 13,iV 0,iV i,iV 0,iV 0,sV []]] [] (iV 0) []:=by
 refine AC func34 ntmps34 fun g w0 R h0=>g0<|nP 37 [iV 13,iV 0,iV i,iV 0,iV 0,sV []] h0 (fun _ _ f=> ?_)
 refine go [rd 1 1 0 0 1 f]<|AP call74 Mv f fun _ o=>g0<|nP 193 [sV [],sV []] o (fun _ _ q=> ?_)
 refine sA [sV [109,97,114,107],sV [115]] q fun _ k=>go [rd 2 0 1 0 6 k]<|nP 37 [iV 0,iV 0,iV 0,iV 0,iV 0,sV []] k (fun u _ z=> ?_)
 refine sA [iV 13,iV 0,iV i,iV 0,iV 0,sV []] z fun _ l=>go [rd 3 1 1 1 1 l] ?_
 refine AH ?_
 refine B5 (t:=9) (d:=20) (x:=Ot 19) (L:= [115]) kr kr rfl underlying9 kr l ?_
 intro m _ A
 refine B1<|g0<|DS 39<|g0 ?_
 refine AH ?_
 refine Cj (d:=21) (x:=Ot 20) (r:=m) (L:= [115]) (p:=0) (c:=115) kr kr rfl kr A dc dc kr 0 115 1 rfl rfl rfl ?_
 intro _ B
 refine B1<|g0<|AP call75 (Lc u) B fun _ e=> ?_
 have C:=e.a.t5
 refine go [rd 10 4 1 2 1 e,.v 10 6 (oT (i≥1)),rd 10 11 1 2 1 e,.v 10 13 (oT (i≤10000))]<|sP [(2,iV 0)] [iV 13,iV 0,iV 0,iV 0,iV 0,sV []] C fun _ b=>g0<|Bm<|g0 ?_
 refine AH ?_
 refine Cb (d:=21) (x:=Ot 20) (r:=m) (L:= [115]) (p:=1) kr kr rfl kr (j:=1) b rfl dc ?_
 refine B1<|g0<|up<|go [rd 12 3 0 0 6 b,rd 12 5 3 0 1 b,.s 12 7]<|AS (bF) (CC (x:=Ot 60) (y:=Ot 63) 13 0 0 0 0 [] 13 0 0 0 0 [] kr kr kr ⟨rfl,rfl,rfl,rfl,rfl,rfl⟩ _)<|g0 ?_
 exact AD _ [] b.d.t1
theorem Kq:HQ 74 [iV 12] [] (.tuple #[.agg #[sV [99,108,111,115,101],sV [109,100]],bT]) []:=by
 refine AC func74 ntmps74 fun g w0 R h0=>g0<|nP 193 [sV [],sV []] h0 (fun _ _ f=> ?_)
 refine g0<|cP call130 Bt f ?_
 rintro v K _ (⟨c,rfl,rfl⟩) i
 have d:=B3 i
 refine go [.v 2 5 (oJ .i64 (18:Int) 18),.s 4 2]<|AS (.pointer (some ⟨c,24,none⟩)) (D5 (Ot 15) (Ot 16) c 0 12 18 18 underlying289 2 12 24) ?_
 have j:=d.a.t3
 refine go [rd 4 3 0 24 2 d]<|sA [sV [99,108,111,115,101],sV [109,100]] j fun _ e=>g0 ?_
 exact AD _ [rd 0 0 0 0 2 e] e.b.t1
theorem GO(a:Nat):HQ 75 [pV a,.int .i32 100] [] (.tuple #[.pointer (some ⟨a,2,none⟩),iV 0,iV 1999]) []:=by
 refine AC func75 ntmps75 fun g w0 R h0=>g0 ?_
 exact AD _ [] h0
theorem Ir(i:Int)(_:0≤i)(_:0≤ -i+1999):HQ 34 [.agg #[iV 12,iV 0,iV i,iV 0,iV 0,sV []]] [] (iV 0) []:=by
 refine AC func34 ntmps34 fun g w0 R h0=>g0<|nP 37 [iV 12,iV 0,iV i,iV 0,iV 0,sV []] h0 (fun _ _ l=> ?_)
 refine go [rd 1 1 0 0 1 l]<|AP call74 Kq l fun _ u=>g0<|nP 193 [sV [],sV []] u (fun _ _ z=> ?_)
 refine sA [sV [99,108,111,115,101],sV [109,100]] z fun _ m=>go [rd 2 0 1 0 6 m]<|nP 37 [iV 0,iV 0,iV 0,iV 0,iV 0,sV []] m (fun o _ A=> ?_)
 refine sA [iV 12,iV 0,iV i,iV 0,iV 0,sV []] A fun _ q=>go [rd 3 1 1 1 1 q] ?_
 refine AH ?_
 refine B5 (t:=9) (d:=20) (x:=Ot 19) (L:= [109,100]) kr kr rfl underlying9 kr q ?_
 intro e _ B
 refine B1<|g0<|DS 39<|g0 ?_
 refine AH ?_
 refine Cj (d:=21) (x:=Ot 20) (r:=e) (L:= [109,100]) (p:=0) (c:=109) kr kr rfl kr B dc dc kr 0 109 1 rfl rfl rfl ?_
 intro _ C
 refine B1<|g0<|AP call75 (DD o) C fun _ f=> ?_
 have D:=f.a.t5
 refine go [rd 10 4 1 1 1 f,rd 10 11 1 1 1 f]<|sP [(1,iV 0)] [iV 12,iV 0,iV i,iV 0,iV 0,sV []] D fun _ E=>g0<|Bm ?_
 have F:=E.a.t5
 refine g0 ?_
 refine AH ?_
 refine Cj (d:=21) (x:=Ot 20) (r:=e) (L:= [109,100]) (p:=1) (c:=100) kr kr rfl kr F dc dc kr 1 100 2 rfl rfl rfl ?_
 intro _ G
 refine B1<|g0<|AP call75 (GO o) G fun _ k=> ?_
 have H:=k.a.t5
 refine go [rd 10 4 1 2 1 k,.v 10 6 (oT (i≥0)),rd 10 11 1 2 1 k,.v 10 13 (oT (i≤1999))]<|sP [(2,iV 0)] [iV 12,iV 0,iV 0,iV 0,iV 0,sV []] H fun _ b=>g0<|Bm<|g0 ?_
 refine AH ?_
 refine Cb (d:=21) (x:=Ot 20) (r:=e) (L:= [109,100]) (p:=2) kr kr rfl kr (j:=1) b rfl dc ?_
 refine B1<|g0<|up<|go [rd 12 3 0 0 6 b,rd 12 5 3 0 1 b,.s 12 7]<|AS (bF) (CC (x:=Ot 60) (y:=Ot 63) 12 0 0 0 0 [] 12 0 0 0 0 [] kr kr kr ⟨rfl,rfl,rfl,rfl,rfl,rfl⟩ _)<|g0 ?_
 exact AD _ [] b.d.t1
theorem Kr:HQ 74 [iV 10] [] (.tuple #[.agg #[sV [117,115,101],sV [109,100]],bT]) []:=by
 refine AC func74 ntmps74 fun g w0 R h0=>g0<|nP 193 [sV [],sV []] h0 (fun _ _ f=> ?_)
 refine g0<|cP call130 Bt f ?_
 rintro v K _ (⟨c,rfl,rfl⟩) i
 have d:=B3 i
 refine go [.v 2 5 (oJ .i64 (18:Int) 18),.s 4 2]<|AS (.pointer (some ⟨c,20,none⟩)) (D5 (Ot 15) (Ot 16) c 0 10 18 18 underlying289 2 10 20) ?_
 have j:=d.a.t3
 refine go [rd 4 3 0 20 2 d]<|sA [sV [117,115,101],sV [109,100]] j fun _ e=>g0 ?_
 exact AD _ [rd 0 0 0 0 2 e] e.b.t1
theorem Uh(i:Int)(_:0≤i)(_:0≤ -i+1999):HQ 34 [.agg #[iV 10,iV 0,iV i,iV 0,iV 0,sV []]] [] (iV 0) []:=by
 refine AC func34 ntmps34 fun g w0 R h0=>g0<|nP 37 [iV 10,iV 0,iV i,iV 0,iV 0,sV []] h0 (fun _ _ l=> ?_)
 refine go [rd 1 1 0 0 1 l]<|AP call74 Kr l fun _ u=>g0<|nP 193 [sV [],sV []] u (fun _ _ z=> ?_)
 refine sA [sV [117,115,101],sV [109,100]] z fun _ m=>go [rd 2 0 1 0 6 m]<|nP 37 [iV 0,iV 0,iV 0,iV 0,iV 0,sV []] m (fun o _ A=> ?_)
 refine sA [iV 10,iV 0,iV i,iV 0,iV 0,sV []] A fun _ q=>go [rd 3 1 1 1 1 q] ?_
 refine AH ?_
 refine B5 (t:=9) (d:=20) (x:=Ot 19) (L:= [109,100]) kr kr rfl underlying9 kr q ?_
 intro e _ B
 refine B1<|g0<|DS 39<|g0 ?_
 refine AH ?_
 refine Cj (d:=21) (x:=Ot 20) (r:=e) (L:= [109,100]) (p:=0) (c:=109) kr kr rfl kr B dc dc kr 0 109 1 rfl rfl rfl ?_
 intro _ C
 refine B1<|g0<|AP call75 (DD o) C fun _ f=> ?_
 have D:=f.a.t5
 refine go [rd 10 4 1 1 1 f,rd 10 11 1 1 1 f]<|sP [(1,iV 0)] [iV 10,iV 0,iV i,iV 0,iV 0,sV []] D fun _ E=>g0<|Bm ?_
 have F:=E.a.t5
 refine g0 ?_
 refine AH ?_
 refine Cj (d:=21) (x:=Ot 20) (r:=e) (L:= [109,100]) (p:=1) (c:=100) kr kr rfl kr F dc dc kr 1 100 2 rfl rfl rfl ?_
 intro _ G
 refine B1<|g0<|AP call75 (GO o) G fun _ k=> ?_
 have H:=k.a.t5
 refine go [rd 10 4 1 2 1 k,.v 10 6 (oT (i≥0)),rd 10 11 1 2 1 k,.v 10 13 (oT (i≤1999))]<|sP [(2,iV 0)] [iV 10,iV 0,iV 0,iV 0,iV 0,sV []] H fun _ b=>g0<|Bm<|g0 ?_
 refine AH ?_
 refine Cb (d:=21) (x:=Ot 20) (r:=e) (L:= [109,100]) (p:=2) kr kr rfl kr (j:=1) b rfl dc ?_
 refine B1<|g0<|up<|go [rd 12 3 0 0 6 b,rd 12 5 3 0 1 b,.s 12 7]<|AS (bF) (CC (x:=Ot 60) (y:=Ot 63) 10 0 0 0 0 [] 10 0 0 0 0 [] kr kr kr ⟨rfl,rfl,rfl,rfl,rfl,rfl⟩ _)<|g0 ?_
 exact AD _ [] b.d.t1
theorem Ks:HQ 74 [iV 8] [] (.tuple #[.agg #[sV [111,112,101,110],sV [109,107,98,113]],bT]) []:=by
 refine AC func74 ntmps74 fun g w0 R h0=>g0<|nP 193 [sV [],sV []] h0 (fun _ _ f=> ?_)
 refine g0<|cP call130 Bt f ?_
 rintro v K _ (⟨c,rfl,rfl⟩) i
 have d:=B3 i
 refine go [.v 2 5 (oJ .i64 (18:Int) 18),.s 4 2]<|AS (.pointer (some ⟨c,16,none⟩)) (D5 (Ot 15) (Ot 16) c 0 8 18 18 underlying289 2 8 16) ?_
 have j:=d.a.t3
 refine go [rd 4 3 0 16 2 d]<|sA [sV [111,112,101,110],sV [109,107,98,113]] j fun _ e=>g0 ?_
 exact AD _ [rd 0 0 0 0 2 e] e.b.t1
theorem Ku(a:Nat):HQ 75 [pV a,.int .i32 107] [] (.tuple #[.pointer (some ⟨a,2,none⟩),iV 1,iV 3]) []:=by
 refine AC func75 ntmps75 fun g w0 R h0=>g0 ?_
 exact AD _ [] h0
theorem Kv(a:Nat):HQ 75 [pV a,.int .i32 98] [] (.tuple #[.pointer (some ⟨a,3,none⟩),iV 0,iV 1048576]) []:=by
 refine AC func75 ntmps75 fun g w0 R h0=>g0 ?_
 exact AD _ [] h0
theorem Kw(a:Nat):HQ 75 [pV a,.int .i32 113] [] (.tuple #[pO,iV 0,iV 0]) []:=by
 refine AC func75 ntmps75 fun g w0 R h0=>g0 ?_
 exact AD _ [] h0
theorem OL(a:List UInt8)(_:0≤(Ag a))(_:0≤ -(Ag a)):HQ 76 [.int .i32 113,sV a] [] (bT) []:=by
 refine AC func76 ntmps76 fun g w0 R h0=>g0<|AP call131 (Zl a om om) h0 fun _ b=>g0 ?_
 exact AD _ [] b
theorem Zn(x:Int)(L:List UInt8)(_:0≤x)(_:0≤ -x+1048576)(_:0≤(Ag L))(_:0≤ -(Ag L)):HQ 34 [.agg #[iV 8,iV 0,iV 1,iV x,iV 0,sV L]] [] (iV 0) []:=by
 refine AC func34 ntmps34 fun g w0 R h0=>g0<|nP 37 [iV 8,iV 0,iV 1,iV x,iV 0,sV L] h0 (fun _ _ m=> ?_)
 refine go [rd 1 1 0 0 1 m]<|AP call74 Ks m fun _ z=>g0<|nP 193 [sV [],sV []] z (fun _ _ A=> ?_)
 refine sA [sV [111,112,101,110],sV [109,107,98,113]] A fun _ o=>go [rd 2 0 1 0 6 o]<|nP 37 [iV 0,iV 0,iV 0,iV 0,iV 0,sV []] o (fun e _ B=> ?_)
 refine sA [iV 8,iV 0,iV 1,iV x,iV 0,sV L] B fun _ q=>go [rd 3 1 1 1 1 q] ?_
 refine AH ?_
 refine B5 (t:=9) (d:=20) (x:=Ot 19) (L:= [109,107,98,113]) kr kr rfl underlying9 kr q ?_
 intro b _ C
 refine B1<|g0<|DS 39<|g0 ?_
 refine AH ?_
 refine Cj (d:=21) (x:=Ot 20) (r:=b) (L:= [109,107,98,113]) (p:=0) (c:=109) kr kr rfl kr C dc dc kr 0 109 1 rfl rfl rfl ?_
 intro _ D
 refine B1<|g0<|AP call75 (DD e) D fun _ i=> ?_
 have E:=i.a.t5
 refine go [rd 10 4 1 1 1 i,rd 10 11 1 1 1 i]<|sP [(1,iV 0)] [iV 8,iV 0,iV 1,iV x,iV 0,sV L] E fun _ F=>g0<|Bm ?_
 have G:=F.a.t5
 refine g0 ?_
 refine AH ?_
 refine Cj (d:=21) (x:=Ot 20) (r:=b) (L:= [109,107,98,113]) (p:=1) (c:=107) kr kr rfl kr G dc dc kr 1 107 2 rfl rfl rfl ?_
 intro _ H
 refine B1<|g0<|AP call75 (Ku e) H fun _ k=> ?_
 have I:=k.a.t5
 refine go [rd 10 4 1 2 1 k,rd 10 11 1 2 1 k]<|sP [(2,iV 0)] [iV 8,iV 0,iV 0,iV x,iV 0,sV L] I fun _ J=>g0<|Bm ?_
 have M:=J.a.t5
 refine g0 ?_
 refine AH ?_
 refine Cj (d:=21) (x:=Ot 20) (r:=b) (L:= [109,107,98,113]) (p:=2) (c:=98) kr kr rfl kr M dc dc kr 2 98 3 rfl rfl rfl ?_
 intro _ N
 refine B1<|g0<|AP call75 (Kv e) N fun _ l=> ?_
 have O:=l.a.t5
 refine go [rd 10 4 1 3 1 l,.v 10 6 (oT (x≥0)),rd 10 11 1 3 1 l,.v 10 13 (oT (x≤1048576))]<|sP [(3,iV 0)] [iV 8,iV 0,iV 0,iV 0,iV 0,sV L] O fun _ P=>g0<|Bm ?_
 have Q:=P.a.t5
 refine g0 ?_
 refine AH ?_
 refine Cj (d:=21) (x:=Ot 20) (r:=b) (L:= [109,107,98,113]) (p:=3) (c:=113) kr kr rfl kr Q dc dc kr 3 113 4 rfl rfl rfl ?_
 intro _ S
 refine B1<|g0<|AP call75 (Kw e) S fun _ u=>go [rd 8 4 3 5 1 u]<|AP call76 (OL L om om) u fun _ T=> ?_
 have U:=T.a.t5
 refine g0<|sP [(5,sV [])] [iV 8,iV 0,iV 0,iV 0,iV 0,sV []] U fun _ f=>g0<|Bm<|g0 ?_
 refine AH ?_
 refine Cb (d:=21) (x:=Ot 20) (r:=b) (L:= [109,107,98,113]) (p:=4) kr kr rfl kr (j:=1) f rfl dc ?_
 refine B1<|g0<|up<|go [rd 12 3 0 0 6 f,rd 12 5 3 0 1 f,.s 12 7]<|AS (bF) (CC (x:=Ot 60) (y:=Ot 63) 8 0 0 0 0 [] 8 0 0 0 0 [] kr kr kr ⟨rfl,rfl,rfl,rfl,rfl,rfl⟩ _)<|g0 ?_
 exact AD _ [] f.d.t1
theorem H5:HQ 133 [sV [109,114],sV [109]] [] (bT) []:=by
 refine AC func133 ntmps133 fun g w0 R h0=>go [.v 1 1 (⟨iV ((St [109,114]).size:Int),iV 2,(BE rfl)⟩),.v 1 3 (⟨iV ((St [109]).size:Int),iV 1,(BE rfl)⟩),.v 1 8 (⟨iV ((St [109]).size:Int),iV 1,(BE rfl)⟩),.s 1 9]<|AS (.string (St ([109,114].take 1))) (Dh (t:=9) (x:=Ot 11) (y:=Ot 13) (L:= [109,114]) (z:=1) kr underlying9 kr kr 1 om dc _)<|go [.s 1 11]<|AS (.bool true) (DI (t:=9) (x:=Ot 14) (y:=Ot 15) (a:=([109,114].take 1)) (b:= [109]) kr kr kr true dc _)<|g0 ?_
 exact AD _ [] h0
theorem H6:HQ 77 [sV [109,114],sV [109]] [] (bT) []:=by
 refine AC func77 ntmps77 fun g w0 R h0=>g0<|AP call133 H5 h0 fun _ a=>g0 ?_
 exact AD _ [] a
theorem vB:HQ 35 [iV 4] [] (bT) []:=by
 refine AC func35 ntmps35 fun g w0 R h0=>g0<|AP call74 Mt h0 fun _ c=>g0<|nP 193 [sV [],sV []] c (fun _ _ d=> ?_)
 refine sA [sV [100,114,111,112],sV [109,114]] d fun _ b=>go [rd 2 3 0 1 1 b]<|AP call77 H6 b fun _ e=>g0 ?_
 exact AD _ [] e.a.t1
theorem H7:HQ 133 [sV [109],sV [109]] [] (bT) []:=by
 refine AC func133 ntmps133 fun g w0 R h0=>go [.v 1 1 (⟨iV ((St [109]).size:Int),iV 1,(BE rfl)⟩),.v 1 3 (⟨iV ((St [109]).size:Int),iV 1,(BE rfl)⟩),.v 1 8 (⟨iV ((St [109]).size:Int),iV 1,(BE rfl)⟩),.s 1 9]<|AS (.string (St ([109].take 1))) (Dh (t:=9) (x:=Ot 11) (y:=Ot 13) (L:= [109]) (z:=1) kr underlying9 kr kr 1 om dc _)<|go [.s 1 11]<|AS (.bool true) (DI (t:=9) (x:=Ot 14) (y:=Ot 15) (a:=([109].take 1)) (b:= [109]) kr kr kr true dc _)<|g0 ?_
 exact AD _ [] h0
theorem H8:HQ 77 [sV [109],sV [109]] [] (bT) []:=by
 refine AC func77 ntmps77 fun g w0 R h0=>g0<|AP call133 H7 h0 fun _ a=>g0 ?_
 exact AD _ [] a
theorem vC:HQ 35 [iV 7] [] (bT) []:=by
 refine AC func35 ntmps35 fun g w0 R h0=>g0<|AP call74 Mu h0 fun _ c=>g0<|nP 193 [sV [],sV []] c (fun _ _ d=> ?_)
 refine sA [sV [97,99,107],sV [109]] d fun _ b=>go [rd 2 3 0 1 1 b]<|AP call77 H8 b fun _ e=>g0 ?_
 exact AD _ [] e.a.t1
theorem H9:HQ 133 [sV [109,107,98,113],sV [109]] [] (bT) []:=by
 refine AC func133 ntmps133 fun g w0 R h0=>go [.v 1 1 (⟨iV ((St [109,107,98,113]).size:Int),iV 4,(BE rfl)⟩),.v 1 3 (⟨iV ((St [109]).size:Int),iV 1,(BE rfl)⟩),.v 1 8 (⟨iV ((St [109]).size:Int),iV 1,(BE rfl)⟩),.s 1 9]<|AS (.string (St ([109,107,98,113].take 1))) (Dh (t:=9) (x:=Ot 11) (y:=Ot 13) (L:= [109,107,98,113]) (z:=1) kr underlying9 kr kr 1 om dc _)<|go [.s 1 11]<|AS (.bool true) (DI (t:=9) (x:=Ot 14) (y:=Ot 15) (a:=([109,107,98,113].take 1)) (b:= [109]) kr kr kr true dc _)<|g0 ?_
 exact AD _ [] h0
theorem IA:HQ 77 [sV [109,107,98,113],sV [109]] [] (bT) []:=by
 refine AC func77 ntmps77 fun g w0 R h0=>g0<|AP call133 H9 h0 fun _ a=>g0 ?_
 exact AD _ [] a
theorem vD:HQ 35 [iV 8] [] (bT) []:=by
 refine AC func35 ntmps35 fun g w0 R h0=>g0<|AP call74 Ks h0 fun _ c=>g0<|nP 193 [sV [],sV []] c (fun _ _ d=> ?_)
 refine sA [sV [111,112,101,110],sV [109,107,98,113]] d fun _ b=>go [rd 2 3 0 1 1 b]<|AP call77 IA b fun _ e=>g0 ?_
 exact AD _ [] e.a.t1
theorem IB:HQ 133 [sV [109,100],sV [109]] [] (bT) []:=by
 refine AC func133 ntmps133 fun g w0 R h0=>go [.v 1 1 (⟨iV ((St [109,100]).size:Int),iV 2,(BE rfl)⟩),.v 1 3 (⟨iV ((St [109]).size:Int),iV 1,(BE rfl)⟩),.v 1 8 (⟨iV ((St [109]).size:Int),iV 1,(BE rfl)⟩),.s 1 9]<|AS (.string (St ([109,100].take 1))) (Dh (t:=9) (x:=Ot 11) (y:=Ot 13) (L:= [109,100]) (z:=1) kr underlying9 kr kr 1 om dc _)<|go [.s 1 11]<|AS (.bool true) (DI (t:=9) (x:=Ot 14) (y:=Ot 15) (a:=([109,100].take 1)) (b:= [109]) kr kr kr true dc _)<|g0 ?_
 exact AD _ [] h0
theorem Ep:HQ 77 [sV [109,100],sV [109]] [] (bT) []:=by
 refine AC func77 ntmps77 fun g w0 R h0=>g0<|AP call133 IB h0 fun _ a=>g0 ?_
 exact AD _ [] a
theorem Zo:HQ 35 [iV 10] [] (bT) []:=by
 refine AC func35 ntmps35 fun g w0 R h0=>g0<|AP call74 Kr h0 fun _ c=>g0<|nP 193 [sV [],sV []] c (fun _ _ d=> ?_)
 refine sA [sV [117,115,101],sV [109,100]] d fun _ b=>go [rd 2 3 0 1 1 b]<|AP call77 Ep b fun _ e=>g0 ?_
 exact AD _ [] e.a.t1
theorem Su:HQ 35 [iV 12] [] (bT) []:=by
 refine AC func35 ntmps35 fun g w0 R h0=>g0<|AP call74 Kq h0 fun _ c=>g0<|nP 193 [sV [],sV []] c (fun _ _ d=> ?_)
 refine sA [sV [99,108,111,115,101],sV [109,100]] d fun _ b=>go [rd 2 3 0 1 1 b]<|AP call77 Ep b fun _ e=>g0 ?_
 exact AD _ [] e.a.t1
theorem IC:HQ 133 [sV [115],sV [109]] [] (bF) []:=by
 refine AC func133 ntmps133 fun g w0 R h0=>go [.v 1 1 (⟨iV ((St [115]).size:Int),iV 1,(BE rfl)⟩),.v 1 3 (⟨iV ((St [109]).size:Int),iV 1,(BE rfl)⟩),.v 1 8 (⟨iV ((St [109]).size:Int),iV 1,(BE rfl)⟩),.s 1 9]<|AS (.string (St ([115].take 1))) (Dh (t:=9) (x:=Ot 11) (y:=Ot 13) (L:= [115]) (z:=1) kr underlying9 kr kr 1 om dc _)<|go [.s 1 11]<|AS (.bool false) (DI (t:=9) (x:=Ot 14) (y:=Ot 15) (a:=([115].take 1)) (b:= [109]) kr kr kr false dc _)<|g0 ?_
 exact AD _ [] h0
theorem ID:HQ 77 [sV [115],sV [109]] [] (bF) []:=by
 refine AC func77 ntmps77 fun g w0 R h0=>g0<|AP call133 IC h0 fun _ a=>g0 ?_
 exact AD _ [] a
theorem OM:HQ 35 [iV 13] [] (bF) []:=by
 refine AC func35 ntmps35 fun g w0 R h0=>g0<|AP call74 Mv h0 fun _ c=>g0<|nP 193 [sV [],sV []] c (fun _ _ d=> ?_)
 refine sA [sV [109,97,114,107],sV [115]] d fun _ b=>go [rd 2 3 0 1 1 b]<|AP call77 ID b fun _ e=>g0 ?_
 exact AD _ [] e.a.t1
theorem IE:HQ 133 [sV [],sV [109]] [] (bF) []:=by
 refine AC func133 ntmps133 fun g w0 R h0=>go [.v 1 1 (⟨iV ((St []).size:Int),iV 0,(BE rfl)⟩),.v 1 3 (⟨iV ((St [109]).size:Int),iV 1,(BE rfl)⟩)] ?_
 exact AD _ [] h0
theorem Er:HQ 77 [sV [],sV [109]] [] (bF) []:=by
 refine AC func77 ntmps77 fun g w0 R h0=>g0<|AP call133 IE h0 fun _ a=>g0 ?_
 exact AD _ [] a
theorem ON:HQ 35 [iV 14] [] (bF) []:=by
 refine AC func35 ntmps35 fun g w0 R h0=>g0<|AP call74 Ms h0 fun _ c=>g0<|nP 193 [sV [],sV []] c (fun _ _ d=> ?_)
 refine sA [sV [98,97,116,99,104],sV []] d fun _ b=>go [rd 2 3 0 1 1 b]<|AP call77 Er b fun _ e=>g0 ?_
 exact AD _ [] e.a.t1
theorem qD:HQ 35 [iV 16] [] (bF) []:=by
 refine AC func35 ntmps35 fun g w0 R h0=>g0<|AP call74 Mq h0 fun _ c=>g0<|nP 193 [sV [],sV []] c (fun _ _ d=> ?_)
 refine sA [sV [99,121,99,108,101],sV []] d fun _ b=>go [rd 2 3 0 1 1 b]<|AP call77 Er b fun _ e=>g0 ?_
 exact AD _ [] e.a.t1
theorem Ld(a:Nat):HQ 134 [.slice (some ⟨a,0,none⟩) 4 4,iV 4] [Cl a [iV 9,iV 10,iV 11,iV 12] 3] (iV (-1)) [Cl a [iV 9,iV 10,iV 11,iV 12] 3]:=by
 refine AC func134 ntmps134 fun g w0 R b=>go [.v 1 1 (oJ .i64 (4:Int) 4)]<|DS 39<|go [.s 4 3]<|AS (pV a) (D5 (Ot 12) (Ot 13) a 0 0 4 4 underlying134 1 0 0)<|go [rd 4 4 0 0 1 b]<|Bm<|go [.s 4 3]<|AS (.pointer (some ⟨a,1,none⟩)) (D5 (Ot 12) (Ot 13) a 0 1 4 4 underlying134 1 1 1)<|go [rd 4 4 0 1 1 b]<|Bm<|go [.s 4 3]<|AS (.pointer (some ⟨a,2,none⟩)) (D5 (Ot 12) (Ot 13) a 0 2 4 4 underlying134 1 2 2) ?_
 refine go [rd 4 4 0 2 1 b]<|Bm<|go [.s 4 3]<|AS (.pointer (some ⟨a,3,none⟩)) (D5 (Ot 12) (Ot 13) a 0 3 4 4 underlying134 1 3 3)<|go [rd 4 4 0 3 1 b]<|Bm<|g0<|up<|g0 ?_
 exact AD _ [] b
theorem Is(a:Nat):HQ 78 [.slice (some ⟨a,0,none⟩) 4 4,iV 4] [Cl a [iV 9,iV 10,iV 11,iV 12] 3] (bF) [Cl a [iV 9,iV 10,iV 11,iV 12] 3]:=by
 refine AC func78 ntmps78 fun g w0 R h0=>g0<|AF call134 (Ld a) h0 fun _ b=>g0 ?_
 exact AD _ [] b
theorem vG:HQ 36 [iV 4] [] (bF) []:=by
 refine AC func36 ntmps36 fun g w0 R h0=>g0<|nG (fun q_=> .slice (some ⟨q_,0,none⟩) 4 4) 3 [iV 9,iV 10,iV 11,iV 12] h0 (fun b _ c=>⟨kd [],?_⟩)
 refine g0<|AF call78 (Is b) c fun _ d=>g0 ?_
 exact AD _ [] d.a.t1
theorem Le(a:Nat):HQ 134 [.slice (some ⟨a,0,none⟩) 4 4,iV 7] [Cl a [iV 9,iV 10,iV 11,iV 12] 3] (iV (-1)) [Cl a [iV 9,iV 10,iV 11,iV 12] 3]:=by
 refine AC func134 ntmps134 fun g w0 R b=>go [.v 1 1 (oJ .i64 (4:Int) 4)]<|DS 39<|go [.s 4 3]<|AS (pV a) (D5 (Ot 12) (Ot 13) a 0 0 4 4 underlying134 1 0 0)<|go [rd 4 4 0 0 1 b]<|Bm<|go [.s 4 3]<|AS (.pointer (some ⟨a,1,none⟩)) (D5 (Ot 12) (Ot 13) a 0 1 4 4 underlying134 1 1 1)<|go [rd 4 4 0 1 1 b]<|Bm<|go [.s 4 3]<|AS (.pointer (some ⟨a,2,none⟩)) (D5 (Ot 12) (Ot 13) a 0 2 4 4 underlying134 1 2 2) ?_
 refine go [rd 4 4 0 2 1 b]<|Bm<|go [.s 4 3]<|AS (.pointer (some ⟨a,3,none⟩)) (D5 (Ot 12) (Ot 13) a 0 3 4 4 underlying134 1 3 3)<|go [rd 4 4 0 3 1 b]<|Bm<|g0<|up<|g0 ?_
 exact AD _ [] b
theorem Iu(a:Nat):HQ 78 [.slice (some ⟨a,0,none⟩) 4 4,iV 7] [Cl a [iV 9,iV 10,iV 11,iV 12] 3] (bF) [Cl a [iV 9,iV 10,iV 11,iV 12] 3]:=by
 refine AC func78 ntmps78 fun g w0 R h0=>g0<|AF call134 (Le a) h0 fun _ b=>g0 ?_
 exact AD _ [] b
theorem vH:HQ 36 [iV 7] [] (bF) []:=by
 refine AC func36 ntmps36 fun g w0 R h0=>g0<|nG (fun q_=> .slice (some ⟨q_,0,none⟩) 4 4) 3 [iV 9,iV 10,iV 11,iV 12] h0 (fun b _ c=>⟨kd [],?_⟩)
 refine g0<|AF call78 (Iu b) c fun _ d=>g0 ?_
 exact AD _ [] d.a.t1
theorem Lh(a:Nat):HQ 134 [.slice (some ⟨a,0,none⟩) 4 4,iV 8] [Cl a [iV 9,iV 10,iV 11,iV 12] 3] (iV (-1)) [Cl a [iV 9,iV 10,iV 11,iV 12] 3]:=by
 refine AC func134 ntmps134 fun g w0 R b=>go [.v 1 1 (oJ .i64 (4:Int) 4)]<|DS 39<|go [.s 4 3]<|AS (pV a) (D5 (Ot 12) (Ot 13) a 0 0 4 4 underlying134 1 0 0)<|go [rd 4 4 0 0 1 b]<|Bm<|go [.s 4 3]<|AS (.pointer (some ⟨a,1,none⟩)) (D5 (Ot 12) (Ot 13) a 0 1 4 4 underlying134 1 1 1)<|go [rd 4 4 0 1 1 b]<|Bm<|go [.s 4 3]<|AS (.pointer (some ⟨a,2,none⟩)) (D5 (Ot 12) (Ot 13) a 0 2 4 4 underlying134 1 2 2) ?_
 refine go [rd 4 4 0 2 1 b]<|Bm<|go [.s 4 3]<|AS (.pointer (some ⟨a,3,none⟩)) (D5 (Ot 12) (Ot 13) a 0 3 4 4 underlying134 1 3 3)<|go [rd 4 4 0 3 1 b]<|Bm<|g0<|up<|g0 ?_
 exact AD _ [] b
theorem Iv(a:Nat):HQ 78 [.slice (some ⟨a,0,none⟩) 4 4,iV 8] [Cl a [iV 9,iV 10,iV 11,iV 12] 3] (bF) [Cl a [iV 9,iV 10,iV 11,iV 12] 3]:=by
 refine AC func78 ntmps78 fun g w0 R h0=>g0<|AF call134 (Lh a) h0 fun _ b=>g0 ?_
 exact AD _ [] b
theorem vI:HQ 36 [iV 8] [] (bF) []:=by
 refine AC func36 ntmps36 fun g w0 R h0=>g0<|nG (fun q_=> .slice (some ⟨q_,0,none⟩) 4 4) 3 [iV 9,iV 10,iV 11,iV 12] h0 (fun b _ c=>⟨kd [],?_⟩)
 refine g0<|AF call78 (Iv b) c fun _ d=>g0 ?_
 exact AD _ [] d.a.t1
theorem Li(a:Nat):HQ 134 [.slice (some ⟨a,0,none⟩) 4 4,iV 10] [Cl a [iV 9,iV 10,iV 11,iV 12] 3] (iV 1) [Cl a [iV 9,iV 10,iV 11,iV 12] 3]:=by
 refine AC func134 ntmps134 fun g w0 R b=>go [.v 1 1 (oJ .i64 (4:Int) 4)]<|DS 39<|go [.s 4 3]<|AS (pV a) (D5 (Ot 12) (Ot 13) a 0 0 4 4 underlying134 1 0 0)<|go [rd 4 4 0 0 1 b]<|Bm<|go [.s 4 3]<|AS (.pointer (some ⟨a,1,none⟩)) (D5 (Ot 12) (Ot 13) a 0 1 4 4 underlying134 1 1 1)<|go [rd 4 4 0 1 1 b]<|up<|g0 ?_
 exact AD _ [] b
theorem Iw(a:Nat):HQ 78 [.slice (some ⟨a,0,none⟩) 4 4,iV 10] [Cl a [iV 9,iV 10,iV 11,iV 12] 3] (bT) [Cl a [iV 9,iV 10,iV 11,iV 12] 3]:=by
 refine AC func78 ntmps78 fun g w0 R h0=>g0<|AF call134 (Li a) h0 fun _ b=>g0 ?_
 exact AD _ [] b
theorem Zp:HQ 36 [iV 10] [] (bT) []:=by
 refine AC func36 ntmps36 fun g w0 R h0=>g0<|nG (fun q_=> .slice (some ⟨q_,0,none⟩) 4 4) 3 [iV 9,iV 10,iV 11,iV 12] h0 (fun b _ c=>⟨kd [],?_⟩)
 refine g0<|AF call78 (Iw b) c fun _ d=>g0 ?_
 exact AD _ [] d.a.t1
theorem Lj(a:Nat):HQ 134 [.slice (some ⟨a,0,none⟩) 4 4,iV 12] [Cl a [iV 9,iV 10,iV 11,iV 12] 3] (iV 3) [Cl a [iV 9,iV 10,iV 11,iV 12] 3]:=by
 refine AC func134 ntmps134 fun g w0 R b=>go [.v 1 1 (oJ .i64 (4:Int) 4)]<|DS 39<|go [.s 4 3]<|AS (pV a) (D5 (Ot 12) (Ot 13) a 0 0 4 4 underlying134 1 0 0)<|go [rd 4 4 0 0 1 b]<|Bm<|go [.s 4 3]<|AS (.pointer (some ⟨a,1,none⟩)) (D5 (Ot 12) (Ot 13) a 0 1 4 4 underlying134 1 1 1)<|go [rd 4 4 0 1 1 b]<|Bm<|go [.s 4 3]<|AS (.pointer (some ⟨a,2,none⟩)) (D5 (Ot 12) (Ot 13) a 0 2 4 4 underlying134 1 2 2) ?_
 refine go [rd 4 4 0 2 1 b]<|Bm<|go [.s 4 3]<|AS (.pointer (some ⟨a,3,none⟩)) (D5 (Ot 12) (Ot 13) a 0 3 4 4 underlying134 1 3 3)<|go [rd 4 4 0 3 1 b]<|up<|g0 ?_
 exact AD _ [] b
theorem Ix(a:Nat):HQ 78 [.slice (some ⟨a,0,none⟩) 4 4,iV 12] [Cl a [iV 9,iV 10,iV 11,iV 12] 3] (bT) [Cl a [iV 9,iV 10,iV 11,iV 12] 3]:=by
 refine AC func78 ntmps78 fun g w0 R h0=>g0<|AF call134 (Lj a) h0 fun _ b=>g0 ?_
 exact AD _ [] b
theorem Sw:HQ 36 [iV 12] [] (bT) []:=by
 refine AC func36 ntmps36 fun g w0 R h0=>g0<|nG (fun q_=> .slice (some ⟨q_,0,none⟩) 4 4) 3 [iV 9,iV 10,iV 11,iV 12] h0 (fun b _ c=>⟨kd [],?_⟩)
 refine g0<|AF call78 (Ix b) c fun _ d=>g0 ?_
 exact AD _ [] d.a.t1
theorem Lk(a:Nat):HQ 134 [.slice (some ⟨a,0,none⟩) 4 4,iV 13] [Cl a [iV 9,iV 10,iV 11,iV 12] 3] (iV (-1)) [Cl a [iV 9,iV 10,iV 11,iV 12] 3]:=by
 refine AC func134 ntmps134 fun g w0 R b=>go [.v 1 1 (oJ .i64 (4:Int) 4)]<|DS 39<|go [.s 4 3]<|AS (pV a) (D5 (Ot 12) (Ot 13) a 0 0 4 4 underlying134 1 0 0)<|go [rd 4 4 0 0 1 b]<|Bm<|go [.s 4 3]<|AS (.pointer (some ⟨a,1,none⟩)) (D5 (Ot 12) (Ot 13) a 0 1 4 4 underlying134 1 1 1)<|go [rd 4 4 0 1 1 b]<|Bm<|go [.s 4 3]<|AS (.pointer (some ⟨a,2,none⟩)) (D5 (Ot 12) (Ot 13) a 0 2 4 4 underlying134 1 2 2) ?_
 refine go [rd 4 4 0 2 1 b]<|Bm<|go [.s 4 3]<|AS (.pointer (some ⟨a,3,none⟩)) (D5 (Ot 12) (Ot 13) a 0 3 4 4 underlying134 1 3 3)<|go [rd 4 4 0 3 1 b]<|Bm<|g0<|up<|g0 ?_
 exact AD _ [] b
theorem Iy(a:Nat):HQ 78 [.slice (some ⟨a,0,none⟩) 4 4,iV 13] [Cl a [iV 9,iV 10,iV 11,iV 12] 3] (bF) [Cl a [iV 9,iV 10,iV 11,iV 12] 3]:=by
 refine AC func78 ntmps78 fun g w0 R h0=>g0<|AF call134 (Lk a) h0 fun _ b=>g0 ?_
 exact AD _ [] b
theorem OO:HQ 36 [iV 13] [] (bF) []:=by
 refine AC func36 ntmps36 fun g w0 R h0=>g0<|nG (fun q_=> .slice (some ⟨q_,0,none⟩) 4 4) 3 [iV 9,iV 10,iV 11,iV 12] h0 (fun b _ c=>⟨kd [],?_⟩)
 refine g0<|AF call78 (Iy b) c fun _ d=>g0 ?_
 exact AD _ [] d.a.t1
theorem Ll(a:Nat):HQ 134 [.slice (some ⟨a,0,none⟩) 4 4,iV 14] [Cl a [iV 9,iV 10,iV 11,iV 12] 3] (iV (-1)) [Cl a [iV 9,iV 10,iV 11,iV 12] 3]:=by
 refine AC func134 ntmps134 fun g w0 R b=>go [.v 1 1 (oJ .i64 (4:Int) 4)]<|DS 39<|go [.s 4 3]<|AS (pV a) (D5 (Ot 12) (Ot 13) a 0 0 4 4 underlying134 1 0 0)<|go [rd 4 4 0 0 1 b]<|Bm<|go [.s 4 3]<|AS (.pointer (some ⟨a,1,none⟩)) (D5 (Ot 12) (Ot 13) a 0 1 4 4 underlying134 1 1 1)<|go [rd 4 4 0 1 1 b]<|Bm<|go [.s 4 3]<|AS (.pointer (some ⟨a,2,none⟩)) (D5 (Ot 12) (Ot 13) a 0 2 4 4 underlying134 1 2 2) ?_
 refine go [rd 4 4 0 2 1 b]<|Bm<|go [.s 4 3]<|AS (.pointer (some ⟨a,3,none⟩)) (D5 (Ot 12) (Ot 13) a 0 3 4 4 underlying134 1 3 3)<|go [rd 4 4 0 3 1 b]<|Bm<|g0<|up<|g0 ?_
 exact AD _ [] b
theorem Iz(a:Nat):HQ 78 [.slice (some ⟨a,0,none⟩) 4 4,iV 14] [Cl a [iV 9,iV 10,iV 11,iV 12] 3] (bF) [Cl a [iV 9,iV 10,iV 11,iV 12] 3]:=by
 refine AC func78 ntmps78 fun g w0 R h0=>g0<|AF call134 (Ll a) h0 fun _ b=>g0 ?_
 exact AD _ [] b
theorem OQ:HQ 36 [iV 14] [] (bF) []:=by
 refine AC func36 ntmps36 fun g w0 R h0=>g0<|nG (fun q_=> .slice (some ⟨q_,0,none⟩) 4 4) 3 [iV 9,iV 10,iV 11,iV 12] h0 (fun b _ c=>⟨kd [],?_⟩)
 refine g0<|AF call78 (Iz b) c fun _ d=>g0 ?_
 exact AD _ [] d.a.t1
theorem Lm(a:Nat):HQ 134 [.slice (some ⟨a,0,none⟩) 4 4,iV 16] [Cl a [iV 9,iV 10,iV 11,iV 12] 3] (iV (-1)) [Cl a [iV 9,iV 10,iV 11,iV 12] 3]:=by
 refine AC func134 ntmps134 fun g w0 R b=>go [.v 1 1 (oJ .i64 (4:Int) 4)]<|DS 39<|go [.s 4 3]<|AS (pV a) (D5 (Ot 12) (Ot 13) a 0 0 4 4 underlying134 1 0 0)<|go [rd 4 4 0 0 1 b]<|Bm<|go [.s 4 3]<|AS (.pointer (some ⟨a,1,none⟩)) (D5 (Ot 12) (Ot 13) a 0 1 4 4 underlying134 1 1 1)<|go [rd 4 4 0 1 1 b]<|Bm<|go [.s 4 3]<|AS (.pointer (some ⟨a,2,none⟩)) (D5 (Ot 12) (Ot 13) a 0 2 4 4 underlying134 1 2 2) ?_
 refine go [rd 4 4 0 2 1 b]<|Bm<|go [.s 4 3]<|AS (.pointer (some ⟨a,3,none⟩)) (D5 (Ot 12) (Ot 13) a 0 3 4 4 underlying134 1 3 3)<|go [rd 4 4 0 3 1 b]<|Bm<|g0<|up<|g0 ?_
 exact AD _ [] b
theorem I0(a:Nat):HQ 78 [.slice (some ⟨a,0,none⟩) 4 4,iV 16] [Cl a [iV 9,iV 10,iV 11,iV 12] 3] (bF) [Cl a [iV 9,iV 10,iV 11,iV 12] 3]:=by
 refine AC func78 ntmps78 fun g w0 R h0=>g0<|AF call134 (Lm a) h0 fun _ b=>g0 ?_
 exact AD _ [] b
theorem qE:HQ 36 [iV 16] [] (bF) []:=by
 refine AC func36 ntmps36 fun g w0 R h0=>g0<|nG (fun q_=> .slice (some ⟨q_,0,none⟩) 4 4) 3 [iV 9,iV 10,iV 11,iV 12] h0 (fun b _ c=>⟨kd [],?_⟩)
 refine g0<|AF call78 (I0 b) c fun _ d=>g0 ?_
 exact AD _ [] d.a.t1
section
section
variable {P : Program} {Q : Exit → Act → World → Prop} {w : World} {ds : List Deferred} {ops : Array Oper} {n : Nat} {l : Fr}
theorem qF{t:Tr}{pts:List Pt}{i:Nat}(kp:List Pt)(h:Gr ops n l i=true)(hkp:CK ops i pts=kp)(hd:Bi ops=true)
 (hr:OP P (EV ops i) (Ad ds n l) w (fun a' w'=>BV w' kp∧YR P ops Q t kp a' w') Q):YR P ops Q (.an i t) pts (Ad ds n l) w:=fun hL m=>by
 have h0:VB P ops Q i pts (fun pts' a' w'=>YR P ops Q t pts' a' w') (Ad ds n l) w:=PD kp h hkp hr
 have h1:wpOp P ops Q i (fun a' w'=>BV w' (CK ops i pts)∧YR P ops Q t (CK ops i pts) a' w') (Ad ds n l) w:=h0
 show Xf m P ops Q i (fun a' w'=>BV w' (CK ops i pts)∧RI m P ops Q t (CK ops i pts) a' w') (Ad ds n l) w
 exact J0 (r:=none) (m:=m) hd hL (wpOp_mono (fun a' w' h'=>⟨h'.1,h'.2 hL m⟩) h1)
end
theorem WQ{c z:Int}(h:0≤c)(h2:c<z):c.tmod z=c:=Int.tmod_eq_of_lt h h2
theorem WR{z:Int}(h:z=1)(c:Int):c.tmod z=0:=by subst h;exact Int.tmod_one c
end
theorem vJ(q:Nat)(_:0≤(q:Int)-1)(_:0≤ -(q:Int)+64):HT prog 65 [iV q] [] (fun v K=> ∃b:Nat,v= .tuple #[pV b,iV 0]∧K= [Cl b ([iV q]++List.replicate 66 (iV 0)) 270]):=by
 refine AC func65 ntmps65 fun g w0 R h0=>go [.v 1 1 (oF ((q:Int)<1)),.v 1 4 (oF ((q:Int)>64))]<|nP 270 ([iV q]++List.replicate 66 (iV 0)) h0 (fun a _ c=> ?_)
 refine g0 ?_
 exact en _ [] ⟨_,_,rfl,⟨a,rfl,rfl⟩,c⟩
theorem D1(b a:Nat)(c:Int)(_:0≤(a:Int)-1):HQ 252 [pV b] [Cl b ([iV a,iV c]++List.replicate 65 (iV 0)) 270] (bT) [Cl b ([iV a,iV c]++List.replicate 65 (iV 0)) 270]:=by
 refine AC func252 ntmps252 fun g w0 R d=>go [rd 1 6 0 0 1 d,.v 1 7 (oT ((a:Int)>0))] ?_
 exact AD _ [] d
theorem OR(b q:Nat)(f:Int)(_:0≤(q:Int)-1)(_:0≤ -(q:Int)+64):HQ 292 [pV b] [Cl b ([iV q,iV f]++List.replicate 65 (iV 0)) 270] (iV q) [Cl b ([iV q,iV f]++List.replicate 65 (iV 0)) 270]:=by
 refine AC func292 ntmps292 fun g w0 R h0=>g0<|AF call252 (D1 b q f om) h0 fun _ c=>g0<|dw (AE [0,1,2,3,4,5,6,7,8,9] Tr.nil) c fun _ a=>go [rd 3 3 0 0 1 a,rd 3 7 0 2 1 a,.v 3 8 (oI ((q:Int)-0) (q:Int))] ?_
 exact AD (iV q) [] a
theorem Es(b a:Nat)(_:0≤(a:Int)-1):HQ 252 [pV b] [Cl b ([iV a,iV 0,iV 1]++List.replicate 64 (iV 0)) 270] (bT) [Cl b ([iV a,iV 0,iV 1]++List.replicate 64 (iV 0)) 270]:=by
 refine AC func252 ntmps252 fun g w0 R c=>go [rd 1 6 0 0 1 c,.v 1 7 (oT ((a:Int)>0))] ?_
 exact AD _ [] c
theorem iS(b q:Nat)(_:0≤(q:Int)-1)(_:0≤ -(q:Int)+64):HQ 292 [pV b] [Cl b ([iV q,iV 0,iV 1]++List.replicate 64 (iV 0)) 270] (iV ((q:Int)-1)) [Cl b ([iV q,iV 0,iV 1]++List.replicate 64 (iV 0)) 270]:=by
 refine AC func292 ntmps292 fun g w0 R h0=>g0<|AF call252 (Es b q om) h0 fun _ c=>g0<|dw (AE [0,1,2,3,4,5,6,7,8,9] Tr.nil) c fun _ a=>go [rd 3 3 0 0 1 a,rd 3 7 0 2 1 a,.v 3 8 (CD ((q:Int)-1))] ?_
 exact AD (iV ((q:Int)-1)) [] a
theorem Zq(r b q:Nat)(f:Int)(_:0≤(q:Int)-1)(_:0≤ -(q:Int)+64):IT prog 449 [pV r] 0 (fun _=> [iV 0,iV 0]) [Cl r [pV b] 162,Cl b ([iV q,iV f]++List.replicate 65 (iV 0)) 270]:=by
 refine PP 28 (fun k_=>([(0,.func (Fn.yield k_) #[] #[]),(1,pV r)]:Fr)) func449 kr ntmps449 rfl (fun _=>rfl) ?_
 intro g w0 R k_ J_ E_ hY h0
 have c:sat g _ (J_ 0::_):=h0
 change WP _ _ (CA f449 []) _ (mk 28 ([(0,.func (Fn.yield k_) #[] #[]),(1,pV r)]:Fr)) _
 refine LH ?_
 refine Wv [0] ?_
 refine sC [] [0] [(3,iV 0)] (.mk ?_)
 refine yK [(0,.func (Fn.yield k_) #[] #[]),(1,pV r),(3,iV 0)] fun d=> ?_
 refine rZ 0 ?_
 refine NJ (x:=CA f449 [1,0,0]) 40 kr ?_
 refine LH ?_
 refine LH ?_
 refine Wv [0,1,2,3,4,5,6,7,8,9] ?_
 refine Ww [1,2,3,4,5,6,7,8,9] [(4,pV b)] [e2 0 [pV b]] [(0,⟨r,0,none⟩,pV b)] [] trivial (kC (AL c 1 rfl rfl) nC) ?_
 have h3:=c.b.t4
 refine yA ?_
 refine sD 5 call252 (D1 b q f om) h3 ?_
 rintro v K w4 (⟨rfl,rfl⟩) h5
 refine⟨_,rfl,?_⟩
 have a:=B3 h5
 refine Ww [] [(13,bF),(12,bF),(11,iV 0),(10,.pointer (some ⟨b,2,none⟩)),(9,pV b),(8,pV b),(7,iV 0),(6,bT)] [e0 2,e0 3,e2 4 [pV b],e0 5,e0 6,e2 7 [iV 0],e0 8,e0 9] [(7,⟨b,2,none⟩,iV 0),(4,⟨r,0,none⟩,pV b)] [] trivial (kC (AL a 0 rfl rfl) (kC (AL a 2 rfl rfl) nC)) (.mk ?_)
 refine yK [(0,.func (Fn.yield k_) #[] #[]),(1,pV r),(3,iV 0),(13,bF)] fun e=> ?_
 refine mC ?_
 refine xP 0 ?_
 repeat (first|simp only[Exit.inBlock]|simp only[Exit.then])
 refine HS [] (.tuple #[]) [] kr (by intro q hq;cases hq) ⟨⟨_,rfl⟩,?_⟩
 have h8:=a.b.b.t4
 have he_:0=0:=rfl
 exact .inl (he_▸h8)
theorem Zr(b a:Nat)(_:0≤(a:Int)-1):HQ 370 [pV b,iV 0] [Cl b ([iV a,iV 0,iV 1]++List.replicate 64 (iV 0)) 270] (iV 0) [Cl b ([iV a,iV 0,iV 1]++List.replicate 64 (iV 0)) 270]:=by
 refine AC func370 ntmps370 fun g w0 R h0=>g0<|dw (AE [0,1,2,3,4,5,6,7,8,9,10,11] Tr.nil) h0 fun _ c=>go [rd 1 3 0 1 1 c,rd 1 9 0 0 1 c,.s 1 10]<|lw (iV 0) (fun _=>Bh (t:=3) (x:=Ot 10) (y:=Ot 14) kr 0 (a:Int) kr kr om 0 (KZ _) _)<|g0 ?_
 exact AD _ [] c
theorem Zs(r b q:Nat)(_:0≤(q:Int)-1)(_:0≤ -(q:Int)+64):IT prog 449 [pV r] 1 (fun _=> [iV 0,iV 0]) [Cl r [pV b] 162,Cl b ([iV q,iV 0,iV 1]++List.replicate 64 (iV 0)) 270]:=by
 refine PP 28 (fun k_=>([(0,.func (Fn.yield k_) #[] #[]),(1,pV r)]:Fr)) func449 kr ntmps449 rfl (fun _=>rfl) ?_
 intro g w0 R k_ J_ E_ hY h0
 have j:sat g _ (J_ 0::_):=h0
 change WP _ _ (CA f449 []) _ (mk 28 ([(0,.func (Fn.yield k_) #[] #[]),(1,pV r)]:Fr)) _
 refine LH ?_
 refine Wv [0] ?_
 refine sC [] [0] [(3,iV 0)] (.mk ?_)
 refine yK [(0,.func (Fn.yield k_) #[] #[]),(1,pV r),(3,iV 0)] fun F=> ?_
 refine rZ 0 ?_
 refine NJ (x:=CA f449 [1,0,0]) 3 kr ?_
 refine LH ?_
 refine LH ?_
 refine Wv [0,1,2,3,4,5,6,7,8,9] ?_
 refine Ww [1,2,3,4,5,6,7,8,9] [(4,pV b)] [e2 0 [pV b]] [(0,⟨r,0,none⟩,pV b)] [] trivial (kC (AL j 1 rfl rfl) nC) ?_
 have h3:=j.b.t4
 refine yA ?_
 refine sD 5 call252 (Es b q om) h3 ?_
 rintro v K w4 (⟨rfl,rfl⟩) h5
 refine⟨_,rfl,?_⟩
 have a:=B3 h5
 refine Ww [] [(13,bT),(12,bT),(11,iV 1),(10,.pointer (some ⟨b,2,none⟩)),(9,pV b),(8,pV b),(7,iV 0),(6,bT)] [e0 2,e0 3,e2 4 [pV b],e0 5,e0 6,e2 7 [iV 1],e0 8,e0 9] [(7,⟨b,2,none⟩,iV 1),(4,⟨r,0,none⟩,pV b)] [] trivial (kC (AL a 0 rfl rfl) (kC (AL a 2 rfl rfl) nC)) (.mk ?_)
 refine yK [(0,.func (Fn.yield k_) #[] #[]),(1,pV r),(3,iV 0),(13,bT)] fun l=> ?_
 refine xO ?_
 refine tC ?_
 refine LH ?_
 refine rZ 1 ?_
 refine LH ?_
 refine Xh (id:=3) (ops:=RA f449 [1,0,0,1,0,0,0]) (Tr.fl 0 (Tr.fl 1 (Tr.fl 2 (Tr.fl 3 (Tr.fl 4 (Tr.fl 6 (Tr.fl 7 (Tr.an 5 (Tr.fl 8 (Tr.fl 9 (Tr.an 10 (Tr.fl 11 Tr.nil)))))))))))) kr kr kr kr (fun _ _ d _ _ h=>by cases d<;>exact h) a ?_
 intro w8 c
 refine Hd (t:=(Tr.an 5 (Tr.fl 8 (Tr.fl 9 (Tr.an 10 (Tr.fl 11 Tr.nil)))))) [⟨0,[],none⟩,⟨1,[],none⟩,⟨2,[pV b],none⟩,⟨3,[pV b],none⟩,⟨4,[],none⟩,⟨6,[],none⟩,⟨7,[],none⟩] (l':=([(23,.pointer (some ⟨b,3,none⟩)),(22,pV b),(20,iV 0),(19,pV b),(18,pV b),(17,iV 0),(16,.func (Fn.yield k_) #[] #[]),(0,.func (Fn.yield k_) #[] #[]),(1,pV r),(3,iV 0),(13,bT)]:Fr)++l) (pts':= [(3,⟨r,0,none⟩,pV b),(2,⟨r,0,none⟩,pV b)]) (eqs:= []) kr trivial (CO (AL c 2 rfl rfl) (CO (AL c 2 rfl rfl) (Bb _))) ?_
 refine qF (i:=5) [(2,⟨r,0,none⟩,pV b)] kr kr kr ?_
 refine sD 21 call370 (Zr b q om) c ?_
 rintro v K G (⟨rfl,rfl⟩) p
 refine⟨_,rfl,?_⟩
 have e:=B3 p
 refine⟨(CO (AL e 2 rfl rfl) (Bb _)),?_⟩
 refine Xi (i:=8) 24 (.pointer (some ⟨b,3,none⟩)) kr (fun _=>AA (o:=EV (RA f449 [1,0,0,1,0,0,0]) 8) (x:=Ot 23) (i:=Ot 21) (b:=b) (off:=3) (z:=0) kr underlying268 1 kr 0 kr kr om om 3 om _) ?_
 refine Hd (t:=(Tr.an 10 (Tr.fl 11 Tr.nil))) [⟨9,[iV 0],none⟩] (l':=([(25,iV 0),(24,.pointer (some ⟨b,3,none⟩)),(21,iV 0),(23,.pointer (some ⟨b,3,none⟩)),(22,pV b),(20,iV 0),(19,pV b),(18,pV b),(17,iV 0),(16,.func (Fn.yield k_) #[] #[]),(0,.func (Fn.yield k_) #[] #[]),(1,pV r),(3,iV 0),(13,bT)]:Fr)++l) (pts':= [(9,⟨b,3,none⟩,iV 0)]) (eqs:= []) kr trivial (CO (AL e 0 rfl rfl) (Bb _)) ?_
 have s:=e.b.b.t4
 refine Pc (d:=some 26) (k:=k_) (args:= [iV 0,iV 0]) (xa:=(fun _=> [iV 0,iV 0]) 0) (S1:=fun w=>sat g w [J_ 1,Cl r [pV b] 162,Cl b ([iV q,iV 0,iV 1]++List.replicate 64 (iV 0)) 270,R]) (S2:=fun w=>sat g w [E_ 0,R]) kr kr kr kr kr rfl (hY 0 om _ [R] s) ?_ ?_
 ·
  intro H u
  refine⟨_,rfl,?_⟩
  have m:sat g _ (J_ 1::_):=u
  have I:=(by omega:0<1)
  refine yD _ [(27,bF)] [e0 11] [] [] trivial nC ?_
  refine yK [(0,.func (Fn.yield k_) #[] #[]),(1,pV r),(3,iV 0),(27,bF)] fun J=> ?_
  refine mC ?_
  refine tC ?_
  refine Wv [0,1,2] ?_
  refine sC [] [0,1,2] [(3,iV 1),(15,iV 1),(14,iV 0)] (.mk ?_)
  refine yK [(0,.func (Fn.yield k_) #[] #[]),(1,pV r),(3,iV 1),(27,bF)] fun L=> ?_
  refine LH ?_
  refine LH ?_
  refine Wv [0,1,2,3,4,5,6,7,8,9] ?_
  refine Ww [1,2,3,4,5,6,7,8,9] [(4,pV b)] [e2 0 [pV b]] [(0,⟨r,0,none⟩,pV b)] [] trivial (kC (AL m 1 rfl rfl) nC) ?_
  have y:=m.b.t4
  refine yA ?_
  refine sD 5 call252 (Es b q om) y ?_
  rintro v K M (⟨rfl,rfl⟩) A
  refine⟨_,rfl,?_⟩
  have f:=B3 A
  refine Ww [] [(13,bF),(12,bF),(11,iV 1),(10,.pointer (some ⟨b,2,none⟩)),(9,pV b),(8,pV b),(7,iV 1),(6,bT)] [e0 2,e0 3,e2 4 [pV b],e0 5,e0 6,e2 7 [iV 1],e0 8,e0 9] [(7,⟨b,2,none⟩,iV 1),(4,⟨r,0,none⟩,pV b)] [] trivial (kC (AL f 0 rfl rfl) (kC (AL f 2 rfl rfl) nC)) (.mk ?_)
  refine yK [(0,.func (Fn.yield k_) #[] #[]),(1,pV r),(3,iV 1),(13,bF)] fun N=> ?_
  refine mC ?_
  refine xP 0 ?_
  repeat (first|simp only[Exit.inBlock]|simp only[Exit.then])
  refine HS [] (.tuple #[]) [] kr (by intro q hq;cases hq) ⟨⟨_,rfl⟩,?_⟩
  have B:=f.b.b.t4
  have he_:1=1:=by omega
  exact .inl (he_▸B)
 ·
  intro C D
  refine⟨_,rfl,?_⟩
  have E:sat g C [E_ 0,R]:=D
  have O:=(by omega:0<1)
  refine yD _ [(27,bT)] [e0 11] [] [] trivial nC ?_
  refine yK [(0,.func (Fn.yield k_) #[] #[]),(1,pV r),(3,iV 0),(27,bT)] fun P=> ?_
  refine xO ?_
  refine yRt ?_
  repeat (first|simp only[Exit.inBlock]|simp only[Exit.then])
  refine NI [] (.tuple #[]) [] kr (by intro q hq;cases hq) ⟨⟨_,rfl⟩,?_⟩
  exact .inr ⟨0,om,E⟩
theorem Kx(a:Nat):HT prog 412 [pV a] [] (fun v K=> ∃b:Nat,v= .func (Fn.func 449) #[] #[pV b]∧K= [Cl b [pV a] 162]):=by
 refine AC func412 ntmps412 fun g w0 R h0=>g0<|nP 162 [pV a] h0 (fun b _ c=> ?_)
 refine g0 ?_
 exact en _ [] ⟨_,_,rfl,⟨b,rfl,rfl⟩,c⟩
theorem Ui(b q:Nat)(f k:Int)(_:0≤(q:Int)-1)(_:0≤ -(q:Int)+64):HQ 369 [pV b,iV k] [Cl b ([iV q,iV f]++List.replicate 65 (iV 0)) 270] (iV (-1)) [Cl b ([iV q,iV f]++List.replicate 65 (iV 0)) 270]:=by
 refine AC func369 ntmps369 fun g w0 R h0=>g0<|nP 3 [iV k] h0 (fun A _ j=> ?_)
 refine nP 3 [iV 0] j (fun l _ m=> ?_)
 refine g0<|cP call412 (Kx b) m ?_
 rintro v K _ (⟨o,rfl,rfl⟩) p
 have s:=(B3 p).c.a.t5
 refine g0 ?_
 refine kN (N:=0) (fun i K=>K= []) (fun c _ K=>False) call449 (Zq o b q f om om) rfl s ?_ ?_ ?_
 · intro i_ hi_;exact absurd hi_ (Nat.not_lt_zero _)
 ·
  rintro D21 B K_ ⟨rfl⟩ t
  have u:sat g _ (pt D21 (Obj.deferred (some []))::_):=t
  have x:=u.c.t6
  refine g0<|sA [iV (-1)] x fun _ y=>g0 ?_
  refine LM (iV (-1)) y.a.t6 (fun z d=> [rd 0 0 1 0 1 d]) (fun z d=> ?_) [iV (-1)] [(⟨l,0,none⟩,iV (-1))]
  exact⟨_,_,rfl,⟨rfl,rfl⟩,d.c.t6.e.a.t2⟩
 intro _ _ _ _ _ _ hf_;exact hf_.elim
theorem iT(b q:Nat)(_:0≤(q:Int)-1)(_:0≤ -(q:Int)+64):HQ 369 [pV b,iV 0] [Cl b ([iV q,iV 0,iV 1]++List.replicate 64 (iV 0)) 270] (iV 0) [Cl b ([iV q,iV 0,iV 1]++List.replicate 64 (iV 0)) 270]:=by
 refine AC func369 ntmps369 fun g w0 R h0=>g0<|nP 3 [iV 0] h0 (fun j _ p=> ?_)
 refine nP 3 [iV 0] p (fun f _ s=> ?_)
 refine g0<|cP call412 (Kx b) s ?_
 rintro v K _ (⟨m,rfl,rfl⟩) t
 have u:=(B3 t).a.b.t5
 refine g0 ?_
 refine kN (N:=1) (fun i K=>(i=0)∧K= [Cl j [iV 0] 3,Cl f [iV 0] 3]) (fun c i K=>(c=Code.ret∧K= [Cl j [iV 0] 3,Cl f [iV 0] 3,Cl m [pV b] 162,Cl b ([iV q,iV 0,iV 1]++List.replicate 64 (iV 0)) 270])) call449 (Zs m b q om om) ⟨rfl,rfl⟩ u ?_ ?_ ?_
 ·
  rintro i J lp_ L K_ G ⟨hlt_,rfl⟩ x
  have o:sat g _ (Cl j [iV 0] 3::_):=x
  have y:=o.a.t5
  refine go [rd 4 1 0 0 1 o]<|sA [iV 0] y fun _ z=>g0 ?_
  exact xS ⟨rfl,rfl⟩ z.a.t5
 ·
  rintro D29 M K_ ⟨hlt_,rfl⟩ A
  have B:sat g _ (pt D29 (Obj.deferred (some []))::_):=A
  have C:=B.b.t6
  refine g0<|sA [iV (-1)] C fun _ D=>g0 ?_
  refine LM (iV (-1)) D.a.t6 (fun E k=> [rd 0 0 1 0 1 k]) (fun E k=> ?_) [iV (-1)] [(⟨f,0,none⟩,iV (-1))]
  exact⟨_,_,rfl,⟨by exfalso;omega,rfl⟩,k.d.t6.e.a.t2⟩
 rintro D41 O ex_ i K_ P (⟨rfl,rfl⟩) F
 have H:sat g _ (pt D41 (Obj.deferred (some []))::_):=F
 refine g0 ?_
 refine LM (iV 0) H (fun I l=> [rd 0 0 2 0 1 l]) (fun I l=> ?_) [iV 0] [(⟨f,0,none⟩,iV 0)]
 exact⟨_,_,rfl,⟨rfl,rfl⟩,l.d.t6.e.a.t2⟩
theorem Zt(b a:Nat)(_:0≤(a:Int)-1):HQ 370 [pV b,iV 0] [Cl b ([iV a]++List.replicate 66 (iV 0)) 270] (iV 0) [Cl b ([iV a]++List.replicate 66 (iV 0)) 270]:=by
 refine AC func370 ntmps370 fun g w0 R h0=>g0<|dw (AE [0,1,2,3,4,5,6,7,8,9,10,11] Tr.nil) h0 fun _ c=>go [rd 1 3 0 1 1 c,rd 1 9 0 0 1 c,.s 1 10]<|lw (iV 0) (fun _=>Bh (t:=3) (x:=Ot 10) (y:=Ot 14) kr 0 (a:Int) kr kr om 0 (KZ _) _)<|g0 ?_
 exact AD _ [] c
theorem vK(b q:Nat)(_:0≤(q:Int)-1)(_:0≤ -(q:Int)+64):HQ 295 [pV b,iV 0] [Cl b ([iV q]++List.replicate 66 (iV 0)) 270] (iV 0) [Cl b ([iV q,iV 0,iV 1]++List.replicate 64 (iV 0)) 270]:=by
 refine AC func295 ntmps295 fun g w0 R h0=>g0<|AF call252 (D1 b q 0 om) h0 fun _ e=>g0<|AF call369 (Ui b q 0 0 om om) e fun _ f=>g0<|dw (AE [0,1,2,3,4,5,6,7,8,9] Tr.nil) f fun _ a=>go [rd 7 3 0 2 1 a,rd 7 7 0 0 1 a,.v 7 8 (DR 0 (q:Int))]<|dw (AE [0,1,2,3,4,5,7,8,9] (Tr.an 6 (Tr.fl 10 (Tr.an 11 Tr.nil)))) a fun _ c=>go [rd 9 5 0 2 1 c]<|BZ call370 (Zt b q om) c fun _ j=>⟨kd [],?_⟩
 refine lw (.pointer (some ⟨b,3,none⟩)) (fun _=>AA (x:=Ot 40) (i:=Ot 37) (b:=b) (off:=3) (z:=0) kr underlying268 1 kr 0 kr kr om om 3 om _)<|sG [(3,iV 0)] ([iV q]++List.replicate 66 (iV 0)) j fun _ d=>⟨kd [],?_⟩
 refine go [rd 10 3 0 2 1 d]<|sP [(2,iV 1)] ([iV q,iV 0,iV 1]++List.replicate 64 (iV 0)) d fun _ k=>g0 ?_
 exact AD _ [] k
theorem qG(b q:Nat)(f k:Int)(_:0≤(q:Int)-1)(_:0≤ -(q:Int)+64):HQ 312 [pV b,iV k] [Cl b ([iV q,iV f]++List.replicate 65 (iV 0)) 270] (bF) [Cl b ([iV q,iV f]++List.replicate 65 (iV 0)) 270]:=by
 refine AC func312 ntmps312 fun g w0 R h0=>g0<|AF call369 (Ui b q f k om om) h0 fun _ a=>g0 ?_
 exact AD _ [] a
theorem qH(b q:Nat)(_:0≤(q:Int)-1)(_:0≤ -(q:Int)+64):HQ 312 [pV b,iV 0] [Cl b ([iV q,iV 0,iV 1]++List.replicate 64 (iV 0)) 270] (bT) [Cl b ([iV q]++List.replicate 66 (iV 0)) 270]:=by
 refine AC func312 ntmps312 fun g w0 R h0=>g0<|AF call369 (iT b q om om) h0 fun _ a=>g0<|DS 39<|go [rd 4 5 0 2 1 a]<|up<|go [rd 7 3 0 2 1 a]<|sP [(2,iV 0)] ([iV q]++List.replicate 66 (iV 0)) a fun _ c=>g0 ?_
 exact AD _ [] c
theorem Uj(b q:Nat)(f:Int)(_:0≤(q:Int)-1)(_:0≤ -(q:Int)+64):HQ 371 [pV b] [Cl b ([iV q,iV f]++List.replicate 65 (iV 0)) 270] (.tuple #[iV 0,bF]) [Cl b ([iV q,iV f]++List.replicate 65 (iV 0)) 270]:=by
 refine AC func371 ntmps371 fun g w0 R h0=>g0<|AF call252 (D1 b q f om) h0 fun _ a=>go [rd 1 7 0 2 1 a] ?_
 exact AD _ [] a
theorem Zu(b a:Nat)(_:0≤(a:Int)-1)(_:0≤ -(a:Int)+1):HQ 370 [pV b,iV 1] [Cl b ([iV a,iV 0,iV 1]++List.replicate 64 (iV 0)) 270] (iV 0) [Cl b ([iV a,iV 0,iV 1]++List.replicate 64 (iV 0)) 270]:=by
 refine AC func370 ntmps370 fun g w0 R h0=>g0<|dw (AE [0,1,2,3,4,5,6,7,8,9,10,11] Tr.nil) h0 fun _ c=>go [rd 1 3 0 1 1 c,rd 1 9 0 0 1 c,.s 1 10]<|lw (iV 0) (fun _=>Bh (t:=3) (x:=Ot 10) (y:=Ot 14) kr 1 (a:Int) kr kr om 0 (WR om _) _)<|g0 ?_
 exact AD _ [] c
theorem Zv(b a:Nat)(_:0≤(a:Int)-2):HQ 370 [pV b,iV 1] [Cl b ([iV a,iV 0,iV 1]++List.replicate 64 (iV 0)) 270] (iV 1) [Cl b ([iV a,iV 0,iV 1]++List.replicate 64 (iV 0)) 270]:=by
 refine AC func370 ntmps370 fun g w0 R h0=>g0<|dw (AE [0,1,2,3,4,5,6,7,8,9,10,11] Tr.nil) h0 fun _ c=>go [rd 1 3 0 1 1 c,rd 1 9 0 0 1 c,.s 1 10]<|lw (iV 1) (fun _=>Bh (t:=3) (x:=Ot 10) (y:=Ot 14) kr 1 (a:Int) kr kr om 1 (WQ om om) _)<|g0 ?_
 exact AD _ [] c
theorem iU(b q:Nat)(_:0≤(q:Int)-1)(_:0≤ -(q:Int)+64):HT prog 371 [pV b] [Cl b ([iV q,iV 0,iV 1]++List.replicate 64 (iV 0)) 270] (fun v K=> ∃f:Int,v= .tuple #[iV 0,bT]∧K= [Cl b ([iV q,iV f]++List.replicate 65 (iV 0)) 270]):=by
 refine AC func371 ntmps371 fun g w0 R h0=>g0<|AF call252 (Es b q om) h0 fun _ c=>go [rd 1 7 0 2 1 c]<|dw (AE [0,1,2,3,4,5,6,7,8,9] Tr.nil) c fun _ a=>go [rd 3 4 0 1 1 a,.s 3 7]<|lw (.pointer (some ⟨b,3,none⟩)) (fun _=>AA (x:=Ot 21) (i:=Ot 19) (b:=b) (off:=3) (z:=0) kr underlying268 1 kr 0 kr kr om om 3 om _)<|go [rd 3 8 0 3 1 a] ?_
 by_cases o:(q:Int)=1
 ·
  refine AF call370 (Zu b q om om) a fun _ j=>g0<|sP [(1,iV 0)] ([iV q,iV 0,iV 1]++List.replicate 64 (iV 0)) j fun _ d=>go [rd 5 3 0 2 1 d]<|sP [(2,iV 0)] ([iV q]++List.replicate 66 (iV 0)) d fun _ k=>g0 ?_
  exact en _ [] ⟨_,_,rfl,⟨0,rfl,rfl⟩,k⟩
 refine AF call370 (Zv b q om) a fun _ l=>g0<|sP [(1,iV 1)] ([iV q,iV 1,iV 1]++List.replicate 64 (iV 0)) l fun _ e=>go [rd 5 3 0 2 1 e]<|sP [(2,iV 0)] ([iV q,iV 1]++List.replicate 65 (iV 0)) e fun _ m=>g0 ?_
 exact en _ [] ⟨_,_,rfl,⟨1,rfl,rfl⟩,m⟩
section
section
variable {α β : Type} [DecidableEq α] {k a : α} {v u : β} {E E' : List (α × β)} {o : Option β}
theorem Bz(h:k=a):Aa ((a,v)::E) k=some v:=by simp[Aa,h]
theorem AG(h:k≠a)(r:Aa E k=o):Aa ((a,v)::E) k=o:=by simp[Aa,h,r]
theorem OS(h:k=a):Au ((a,u)::E) k v=(a,v)::E:=by simp[Au,h]
theorem AQ(h:k≠a)(r:Au E k v=E'):Au ((a,u)::E) k v=(a,u)::E':=by simp[Au,h,r]
theorem I1(h:k=a):C0 ((a,u)::E) k=E:=by simp[C0,h]
end
def Bu(k:Int×Int):Value:= .agg #[iV k.1,uV k.2]
def vF(f:Nat):Value:= .func (.func f) #[] #[]
structure KeyOk2 (P:Program) (key:TypeId):Prop where
 eq: ∀(a b:Int×Int) (w:World),(Op.equal key (Bu a) (Bu b)).run P w= .ok (decide (a=b)) w
 ck: ∀(a:Int×Int) (e:Bool) (w:World),(Instr.checkKey e 10000 key (Bu a)).run P w= .ok () w
 st: ∃fs,P.underlying key=some (.struct fs)
section
variable {β : Type} {P : Program} {w : World} {key : TypeId}
theorem Qc(K:KeyOk2 P key)(ve:β→Value)(k:Int×Int): ∀(es:List MapEntry) (E:List ((Int×Int)×β)) (i:Nat),(es.map fun e=>(e.key,e.val))=E.map (Dd Bu ve)→(Instr.findAsking key (Bu k) es i).run P w= .ok ((Bd E k i).map fun q=>(q.1,ve q.2)) w
 | [],E,i,h=>by
  have:E= []:=by cases E;rfl;simp at h
  subst this
  simp[Instr.findAsking,Bd]
 |e::es,E,i,h=>by
  match E,h with
  |(a,v)::E,h=>
   simp only[List.map_cons,List.cons.injEq,Dd,Prod.mk.injEq] at h
   obtain⟨⟨h1,h2⟩,h3⟩:=h
   have ih:=Qc K ve k es E (i+1) h3
   simp only[Instr.findAsking,Sem.run_bind,h1,K.eq,Result.andThen_ok,Bd]
   by_cases hk:k=a
   · subst hk
     simp[h2]
   · simp only[hk,decide_false,Bool.false_eq_true,if_false]
     exact ih
theorem Zw(k:Int×Int):Instr.sameBits 10000 (Bu k) (Bu k)=true:=by
 have h: ∀d:Nat,Instr.sameBits (d+1+1) (Bu k) (Bu k)=true:=fun d=>by simp[Bu,Instr.sameBits]
 exact h 9998
theorem vL(K:KeyOk2 P key):KyOk P key Bu where
 fk ve k es E w h:=by
  obtain⟨fs,hs⟩:=K.st
  unfold Instr.findKey
  simp only[Sem.run_bind,run_underlying hs,Result.andThen_ok]
  cases es with
  |nil=>
   have:E= []:=by cases E;rfl;simp at h
   subst this
   simp[Instr.findNow,Bd]
  |cons e es=>
   have h1:Instr.findNow (.struct fs) (Bu k) (e::es) 0=none:=by simp[Instr.findNow,Instr.sameNow]
   rw[h1]
   exact Qc K ve k (e::es) E 0 h
 ck a e w:=K.ck a e w
 sm a:=Zw a
end
section
variable {α β : Type} [DecidableEq α] {kv : α → Value} {ve : β → Value} {P : Program} {g w : World} {L : List AB} {n : Nat} {l : Fr} {o : Oper} {key elem b : Nat} {E : List (α × β)}
theorem BN{t:Nat}{m x:Operand}{z:Value}(ho:o.op= .lookup t m x true)(ht:P.underlying t=some (.map key elem))(K:KyOk P key kv)(hz:(P.info? elem).map (·.zero)=some (some z))(k:α)(hm:fe n l m= .map (some b))(hx:fe n l x=kv k){j:Nat}(hs:sat g w L)(hj:L[j]? =some (Gp kv ve b E))(v:Value)(u:β)
(hg:Aa E k=some u)(hv:ve u=v):(execOp (fe n l) o).run P w= .ok (.value (.tuple #[v,.bool true])) w:=BK ho ht K hz k hm hx hs hj v true (by rw[hg];exact⟨hv,rfl⟩)
theorem Et{t:Nat}{m x:Operand}{z:Value}(ho:o.op= .lookup t m x true)(ht:P.underlying t=some (.map key elem))(K:KyOk P key kv)(hz:(P.info? elem).map (·.zero)=some (some z))(k:α)(hm:fe n l m= .map (some b))(hx:fe n l x=kv k){j:Nat}(hs:sat g w L)(hj:L[j]? =some (Gp kv ve b E))
(hg:Aa E k=none):(execOp (fe n l) o).run P w= .ok (.value (.tuple #[z,.bool false])) w:=BK ho ht K hz k hm hx hs hj z false (by rw[hg];exact⟨rfl,rfl⟩)
end
variable {ds : List Deferred}
section
variable {α β : Type} [DecidableEq α] {kv : α → Value} {ve : β → Value} {P : Program} {Q : Exit → Act → World → Prop} {g w : World} {L : List AB} {n : Nat} {l : Fr} {o : Oper} {N : Act → World → Prop} {key elem b : Nat} {E : List (α × β)}
theorem CV{t:Nat}{m x y:Operand}(ho:o.op= .insert t m x y)(hd:o.dst=none)(ht:P.underlying t=some (.map key elem))(K:KyOk P key kv)(k:α)(v:β)(hm:fe n l m= .map (some b))(hx:fe n l x=kv k)(hy:fe n l y=ve v)(hs:sat g w (Gp kv ve b E::L))
 (E':List (α×β))(hE:Au E k v=E')(h: ∀w',sat g w' (Gp kv ve b E'::L)→N (Ad ds n l) w'):OP P o (Ad ds n l) w N Q:=by
 have h1:OP P {o with op:= .mapUpdate t m x y} (Ad ds n l) w N Q:=BL rfl hd ht K k v hm hx hy hs E' hE h
 refine⟨?_⟩
 have a:=h1.out
 unfold Oper.wp at a ⊢
 have e: ∀ρ:Operand→Value,execOp ρ o=execOp ρ {o with op:= .mapUpdate t m x y}:=fun ρ=>by
  unfold execOp
  simp[ho]
 rw[e]
 exact a
end
end
theorem WS:KyOk prog 203 Bu:=by
 have hu:prog.underlying 203=some _:=underlying203
 refine vL ⟨fun a b w=> ?_,fun a e w=> ?_,⟨_,underlying203⟩⟩
 · obtain⟨c,f⟩:=a
   obtain⟨i,j⟩:=b
   show (Op.equalIn 10000 203 (.agg #[iV c,uV f]) (.agg #[iV i,uV j])).run prog w= .ok (decide ((c,f)=(i,j))) w
   by_cases k:c=i
   · by_cases l:f=j
     · subst k;subst l;simp[go_sem]
     · subst k;simp[go_sem,l]
   · simp[go_sem,k]
 · have h: ∀d:Nat,(Instr.checkKey e (d+1+1) 203 (Bu a)).run prog w= .ok () w:=fun d=>by
    simp[Bu,Instr.checkKey,go_sem]
   exact h 9998
def Uk(b q:Nat)(f:Int)(o wq cl m1 m2 m3:Nat):List AB:= [Cl b [pV o,pV wq,pV cl,iV 256] 170,Cl o [iV 256,Value.map (some m1),Value.map (some m2)] 267,Gp kI Bu m1 ([]:List (Int×(Int×Int))),Gp Bu kI m2 ([]:List ((Int×Int)×Int)),Cl wq ([iV q,iV f]++List.replicate 65 (iV 0)) 270,Cl cl [Value.map (some m3)] 273,Gp kI kI m3 ([]:List (Int×Int))]
def Bl(b q:Nat)(f:Int):AB:=fun h=> ∃o:Nat,∃wq:Nat,∃cl:Nat,∃m1:Nat,∃m2:Nat,∃m3:Nat,(1≤q)∧(q≤64)∧Aj (Uk b q f o wq cl m1 m2 m3) h
theorem FL{g w:World}{L_:List AB}{b:Nat}{q:Nat}{f:Int}(h:sat g w (Bl b q f::L_)): ∃o:Nat,∃wq:Nat,∃cl:Nat,∃a:Nat,∃c:Nat,∃d:Nat,(1≤q)∧(q≤64)∧sat g w (Uk b q f o wq cl a c d++L_):=by
 obtain⟨⟨o,wq,cl,a,c,d⟩,hp,h2⟩:=Af (X:=Nat×Nat×Nat×Nat×Nat×Nat) (p:=fun q_=>(1≤q)∧(q≤64)) (B:=fun q_=>Aj (Uk b q f q_.1 q_.2.1 q_.2.2.1 q_.2.2.2.1 q_.2.2.2.2.1 q_.2.2.2.2.2)) h (fun _ hk=>by obtain⟨o,wq,cl,a,c,d,e,i,hk⟩:=hk;exact⟨(o,wq,cl,a,c,d),⟨e,i⟩,hk⟩)
 exact⟨o,wq,cl,a,c,d,hp.1,hp.2,AK h2⟩
theorem C4{g w:World}{L_:List AB}(b q:Nat)(f:Int)(o wq cl a c d:Nat)(e:1≤q)(i:q≤64)(h:sat g w (Uk b q f o wq cl a c d++L_)):sat g w (Bl b q f::L_):=AI (AO h) fun _ hk=>⟨o,wq,cl,a,c,d,e,i,hk⟩
def Ul(b q id s:Nat)(gn:Int)(o wq cl m1 m2 m3:Nat):List AB:= [Cl b [pV o,pV wq,pV cl,iV 256] 170,Cl o [iV 256,Value.map (some m1),Value.map (some m2)] 267,Gp kI Bu m1 ([((id:Int),((s:Int),gn))]:List (Int×(Int×Int))),Gp Bu kI m2 ([(((s:Int),gn),(id:Int))]:List ((Int×Int)×Int)),Cl wq ([iV q]++List.replicate 66 (iV 0)) 270,Cl cl [Value.map (some m3)] 273,Gp kI kI m3 ([((id:Int),1)]:List (Int×Int))]
def D2(b q id s:Nat)(gn:Int):AB:=fun h=> ∃o:Nat,∃wq:Nat,∃cl:Nat,∃m1:Nat,∃m2:Nat,∃m3:Nat,(1≤q)∧(q≤64)∧(id<256)∧(s<256)∧(1≤gn)∧Aj (Ul b q id s gn o wq cl m1 m2 m3) h
theorem IF{g w:World}{L_:List AB}{b:Nat}{q:Nat}{id:Nat}{s:Nat}{gn:Int}(h:sat g w (D2 b q id s gn::L_)): ∃o:Nat,∃wq:Nat,∃cl:Nat,∃a:Nat,∃c:Nat,∃d:Nat,(1≤q)∧(q≤64)∧(id<256)∧(s<256)∧(1≤gn)∧sat g w (Ul b q id s gn o wq cl a c d++L_):=by
 obtain⟨⟨o,wq,cl,a,c,d⟩,hp,h2⟩:=Af (X:=Nat×Nat×Nat×Nat×Nat×Nat) (p:=fun q_=>(1≤q)∧(q≤64)∧(id<256)∧(s<256)∧(1≤gn)) (B:=fun q_=>Aj (Ul b q id s gn q_.1 q_.2.1 q_.2.2.1 q_.2.2.2.1 q_.2.2.2.2.1 q_.2.2.2.2.2)) h (fun _ hk=>by obtain⟨o,wq,cl,a,c,d,e,f,i,j,k,hk⟩:=hk;exact⟨(o,wq,cl,a,c,d),⟨e,f,i,j,k⟩,hk⟩)
 exact⟨o,wq,cl,a,c,d,hp.1,hp.2.1,hp.2.2.1,hp.2.2.2.1,hp.2.2.2.2,AK h2⟩
theorem I2{g w:World}{L_:List AB}(b q id s:Nat)(gn:Int)(o wq cl a c d:Nat)(e:1≤q)(f:q≤64)(i:id<256)(j:s<256)(k:1≤gn)(h:sat g w (Ul b q id s gn o wq cl a c d++L_)):sat g w (D2 b q id s gn::L_):=AI (AO h) fun _ hk=>⟨o,wq,cl,a,c,d,e,f,i,j,k,hk⟩
def Um(b q o wq cl m1 m2 m3:Nat):List AB:= [Cl b [pV o,pV wq,pV cl,iV 256] 170,Cl o [iV 256,Value.map (some m1),Value.map (some m2)] 267,Gp kI Bu m1 ([]:List (Int×(Int×Int))),Gp Bu kI m2 ([]:List ((Int×Int)×Int)),Cl wq ([iV q,iV 0,iV 1]++List.replicate 64 (iV 0)) 270,Cl cl [Value.map (some m3)] 273,Gp kI kI m3 ([(0,1)]:List (Int×Int))]
def F1(b q:Nat):AB:=fun h=> ∃o:Nat,∃wq:Nat,∃cl:Nat,∃m1:Nat,∃m2:Nat,∃m3:Nat,(1≤q)∧(q≤64)∧Aj (Um b q o wq cl m1 m2 m3) h
theorem Kz{g w:World}{L_:List AB}{b:Nat}{q:Nat}(h:sat g w (F1 b q::L_)): ∃o:Nat,∃wq:Nat,∃cl:Nat,∃a:Nat,∃c:Nat,∃d:Nat,(1≤q)∧(q≤64)∧sat g w (Um b q o wq cl a c d++L_):=by
 obtain⟨⟨o,wq,cl,a,c,d⟩,hp,h2⟩:=Af (X:=Nat×Nat×Nat×Nat×Nat×Nat) (p:=fun q_=>(1≤q)∧(q≤64)) (B:=fun q_=>Aj (Um b q q_.1 q_.2.1 q_.2.2.1 q_.2.2.2.1 q_.2.2.2.2.1 q_.2.2.2.2.2)) h (fun _ hk=>by obtain⟨o,wq,cl,a,c,d,e,f,hk⟩:=hk;exact⟨(o,wq,cl,a,c,d),⟨e,f⟩,hk⟩)
 exact⟨o,wq,cl,a,c,d,hp.1,hp.2,AK h2⟩
theorem Mw{g w:World}{L_:List AB}(b q o wq cl a c d:Nat)(e:1≤q)(f:q≤64)(h:sat g w (Um b q o wq cl a c d++L_)):sat g w (F1 b q::L_):=AI (AO h) fun _ hk=>⟨o,wq,cl,a,c,d,e,f,hk⟩
theorem Sy:HT prog 64 [iV 256] [] (fun v K=> ∃f:Nat,∃c:Nat,∃e:Nat,v= .tuple #[pV f,iV 0]∧K= [Cl f [iV 256,.map (some c),.map (some e)] 267,Gp kI Bu c ([]:List (Int×(Int×Int))),Gp Bu kI e ([]:List ((Int×Int)×Int))]):=by
 refine AC func64 ntmps64 fun g w0 R h0=>g0 ?_
 refine AH ?_
 refine Bw (t:=264) (d:=11) kI Bu kr kr rfl h0 ?_
 intro c _ i
 refine B1 ?_
 refine AH ?_
 refine Bw (t:=265) (d:=12) Bu kI kr kr rfl i ?_
 intro e _ j
 refine B1<|g0<|nP 267 [iV 256,.map (some c),.map (some e)] j (fun f _ k=> ?_)
 refine g0 ?_
 exact en _ [] ⟨_,_,rfl,⟨f,c,e,rfl,rfl⟩,k.b.a.t4⟩
theorem Sz:HT prog 66 [] [] (fun v K=> ∃b:Nat,∃a:Nat,v=pV b∧K= [Cl b [.map (some a)] 273,Gp kI kI a ([]:List (Int×Int))]):=by
 refine AC func66 ntmps66 fun g w0 R h0=>g0 ?_
 refine AH ?_
 refine Bw (t:=271) (d:=1) kI kI kr kr rfl h0 ?_
 intro a _ c
 refine B1<|g0<|nP 273 [.map (some a)] c (fun b _ e=> ?_)
 refine g0 ?_
 exact en _ [] ⟨_,_,rfl,⟨b,a,rfl,rfl⟩,e⟩
theorem vM(q:Nat)(_:0≤(q:Int)-1)(_:0≤ -(q:Int)+64):HT prog 30 [iV 256,iV q] [] (fun v K=> ∃b:Nat,v= .tuple #[pV b,iV 0]∧K= [Bl b q 0]):=by
 refine AC func30 ntmps30 fun g w0 R h0=>go [.v 1 8 (oF ((q:Int)<1)),.v 1 12 (oF ((q:Int)>64))]<|cP call64 Sy h0 ?_
 rintro v K _ (⟨e,k,l,rfl,rfl⟩) m
 have o:=MG m
 refine g0<|cP call65 (vJ q om om) o ?_
 rintro v K _ (⟨i,rfl,rfl⟩) p
 have s:=B3 p
 refine g0<|cP call66 Sz s ?_
 rintro v K _ (⟨j,t,rfl,rfl⟩) u
 have x:=CW u
 refine g0<|nP 170 [pV e,pV i,pV j,iV 256] x (fun a A y=> ?_)
 refine g0 ?_
 have z:sat g _ (Bl a q 0::_):=C4 a q 0 e i j k l t om om y.c.f.f.f.d.t8
 exact en _ [] ⟨_,_,rfl,⟨a,rfl,rfl⟩,z⟩
theorem BG(a b c d:Nat):HQ 117 [pV a] [Cl a [pV b,pV c,pV d,iV 256] 170] (bT) [Cl a [pV b,pV c,pV d,iV 256] 170]:=by
 refine AC func117 ntmps117 fun g w0 R e=>go [rd 1 6 0 3 1 e] ?_
 exact AD _ [] e
theorem Uo(b q:Nat)(f:Int):HQ 214 [pV b] [Bl b q f] (iV q) [Bl b q f]:=by
 refine AC func214 ntmps214 fun g w0 R h0=> ?_
 obtain⟨c,a,cl12,i,j,k,l,m,o⟩:=FL h0
 have p:sat g _ (Cl b [pV c,pV a,pV cl12,iV 256] 170::_):=o
 refine g0<|AF call117 (BG b c a cl12) p fun _ e=> ?_
 have s:=e.d.t8
 refine go [rd 3 4 0 1 1 e]<|AF call292 (OR a q f om om) s fun x t=>g0 ?_
 have u:sat g _ (Bl b q f::_):=C4 b q f c a cl12 i j k l m t.d.d.d.d.t8
 exact AD (iV q) [] u
theorem Jq(b q id s:Nat)(gn:Int):HQ 214 [pV b] [D2 b q id s gn] (iV q) [D2 b q id s gn]:=by
 refine AC func214 ntmps214 fun g w0 R h0=> ?_
 obtain⟨c,a,cl12,f,i,j,k,l,m,o,p,t⟩:=IF h0
 have u:sat g _ (Cl b [pV c,pV a,pV cl12,iV 256] 170::_):=t
 refine g0<|AF call117 (BG b c a cl12) u fun _ e=> ?_
 have x:=e.d.t8
 refine go [rd 3 4 0 1 1 e]<|AF call292 (OR a q 0 om om) x fun A y=>g0 ?_
 have z:sat g _ (D2 b q id s gn::_):=I2 b q id s gn c a cl12 f i j k l m o p y.d.d.d.d.t8
 exact AD (iV q) [] z
theorem Up(b q:Nat):HQ 214 [pV b] [F1 b q] (iV ((q:Int)-1)) [F1 b q]:=by
 refine AC func214 ntmps214 fun g w0 R h0=> ?_
 obtain⟨c,a,cl12,f,i,j,k,l,m⟩:=Kz h0
 have o:sat g _ (Cl b [pV c,pV a,pV cl12,iV 256] 170::_):=m
 refine g0<|AF call117 (BG b c a cl12) o fun _ e=> ?_
 have p:=e.d.t8
 refine go [rd 3 4 0 1 1 e]<|AF call292 (iS a q om om) p fun u s=>g0 ?_
 have t:sat g _ (F1 b q::_):=Mw b q c a cl12 f i j k l s.d.d.d.d.t8
 exact AD (iV ((q:Int)-1)) [] t
theorem Eu(a b c:Nat):HQ 249 [pV a] [Cl a [iV 256,.map (some b),.map (some c)] 267] (bT) [Cl a [iV 256,.map (some b),.map (some c)] 267]:=by
 refine AC func249 ntmps249 fun g w0 R d=>go [rd 1 6 0 0 1 d] ?_
 exact AD _ [] d
theorem Mx(e f:Nat)(i:Int)(k c:Nat):HQ 293 [pV e,.agg #[iV f,uV i]] [Cl e [iV 256,.map (some k),.map (some c)] 267,Gp Bu kI c ([]:List ((Int×Int)×Int))] (.tuple #[iV 0,bF]) [Cl e [iV 256,.map (some k),.map (some c)] 267,Gp Bu kI c ([]:List ((Int×Int)×Int))]:=by
 refine AC func293 ntmps293 fun g w0 R h0=>g0<|nP 203 [iV f,uV i] h0 (fun _ _ o=> ?_)
 have p:=o.a.t4
 refine g0<|AF call249 (Eu e k c) p fun _ q=>g0<|dw (AE [0,1,2,3,4] (Tr.an 5 (AE [6,7,8,9,10] Tr.nil))) q fun _ l=>go [rd 3 3 0 2 1 l,rd 3 4 1 0 2 l] ?_
 refine AH ?_
 refine AX (d:=17) (.tuple #[iV 0,bF]) kr rfl (Et (t:=265) (z:=iV 0) (m:=Ot 15) (x:=Ot 16) (kv:=Bu) (ve:=kI) kr underlying265 WS kr ((f:Int),i) kr kr (j:=2) l rfl rfl) ?_
 refine⟨kd [],DE ?_⟩
 refine g0 ?_
 exact AD _ [] l.b.a.t4.c.b.b.t3
theorem JM(c a b:Nat)(_:0≤ -(a:Int)+255):HQ 385 [pV c,iV a] [Cl c [.map (some b)] 273,Gp kI kI b ([]:List (Int×Int))] (.tuple #[iV 0,iV 5]) [Cl c [.map (some b)] 273,Gp kI kI b ([]:List (Int×Int))]:=by
 refine AC func385 ntmps385 fun g w0 R e=>go [rd 1 6 0 0 1 e,.v 3 1 (oF ((a:Int)<0)),.v 3 4 (oF ((a:Int)≥256)),rd 5 3 0 0 1 e] ?_
 refine AH ?_
 refine AX (d:=31) (.tuple #[iV 0,bF]) kr rfl (Et (t:=271) (z:=iV 0) (m:=Ot 29) (x:=Ot 30) (kv:=kI) (ve:=kI) kr underlying271 Dc kr (a:Int) kr kr (j:=1) e rfl rfl) ?_
 refine B1<|g0 ?_
 exact AD _ [] e
theorem S0(c d a:Nat)(_:0≤ -(d:Int)+255):HQ 383 [pV c,iV d] [Cl c [.map (some a)] 273,Gp kI kI a ([]:List (Int×Int))] (.tuple #[.agg #[iV 0,iV 0],iV 5]) [Cl c [.map (some a)] 273,Gp kI kI a ([]:List (Int×Int))]:=by
 refine AC func383 ntmps383 fun g w0 R h0=>g0<|nP 498 [iV 0,iV 0] h0 (fun _ _ f=> ?_)
 have i:=f.b.b.t4
 refine g0<|DF call385 (JM c d a om) i fun _ j=> ?_
 have k:=j.b.t4
 refine g0<|sA [iV 0,iV 0] k fun _ e=>g0 ?_
 exact AD _ [rd 0 0 0 0 2 e] e.b.b.t4.c.b.b.t3
theorem JN(e f i j a d:Nat)(_:0≤ -(f:Int)+255):HQ 311 [pV e,iV f] [Cl e [pV i,pV j,pV a,iV 256] 170,Cl a [.map (some d)] 273,Gp kI kI d ([]:List (Int×Int))] (bT) [Cl e [pV i,pV j,pV a,iV 256] 170,Cl a [.map (some d)] 273,Gp kI kI d ([]:List (Int×Int))]:=by
 refine AC func311 ntmps311 fun g w0 R k=> ?_
 have l:=k.b.b.t4
 refine go [rd 1 4 0 2 1 k]<|DF call383 (S0 a f d om) l fun _ m=>g0<|nP 498 [iV 0,iV 0] m (fun _ _ o=> ?_)
 refine sA [iV 0,iV 0] o fun _ p=>g0 ?_
 exact AD _ [] p.b.b.c.t5.d.c.c.c.t4
theorem EH(a b c d:Nat)(_:0≤ -(b:Int)+255):HQ 368 [pV a,iV b] [Cl a [iV 256,.map (some c),.map (some d)] 267] (iV 0) [Cl a [iV 256,.map (some c),.map (some d)] 267]:=by
 refine AC func368 ntmps368 fun g w0 R h0=>g0<|AF call249 (Eu a c d) h0 fun _ e=>go [.v 3 1 (oF ((b:Int)<0)),rd 3 7 0 0 1 e,.v 3 8 (oF ((b:Int)≥256))] ?_
 exact AD _ [] e
theorem Qd(l f b:Nat)(e:Int)(i k:Nat)(_:0≤ -(f:Int)+255)(_:0≤ -(b:Int)+255)(_:0≤e-1):HQ 348 [pV l,iV f,.agg #[iV b,uV e]] [Cl l [iV 256,.map (some i),.map (some k)] 267,Gp Bu kI k ([]:List ((Int×Int)×Int)),Gp kI Bu i ([]:List (Int×(Int×Int)))] (iV 0) [Cl l [iV 256,.map (some i),.map (some k)] 267,Gp Bu kI k ([(((b:Int),e),(f:Int))]:List ((Int×Int)×Int)),Gp kI Bu i ([((f:Int),((b:Int),e))]:List (Int×(Int×Int)))]:=by
 refine AC func348 ntmps348 fun g w0 R h0=>g0<|nP 203 [iV b,uV e] h0 (fun N _ A=> ?_)
 have B:=A.a.t5
 refine g0<|AF call368 (EH l f i k om) B fun _ o=>go [rd 4 1 1 0 1 o,.v 4 2 (oF ((b:Int)<0)),rd 4 5 1 0 1 o,.v 4 6 (oF ((b:Int)≥256)),rd 4 10 1 1 1 o,.v 4 11 (DR e 0),rd 6 3 0 1 1 o] ?_
 refine AH ?_
 refine AX (d:=37) (.tuple #[.agg #[iV 0,uV 0],bF]) kr rfl (Et (t:=264) (z:= .agg #[iV 0,uV 0]) (m:=Ot 35) (x:=Ot 36) (kv:=kI) (ve:=Bu) kr underlying264 Dc kr (f:Int) kr kr (j:=3) o rfl rfl) ?_
 refine B1<|g0<|nP 203 [iV 0,uV 0] o (fun O _ C=> ?_)
 refine sA [iV 0,uV 0] C fun _ D=>g0<|dw (AE [0,1,2,3,4] (Tr.an 5 (AE [6,7,8,9,10] Tr.nil))) D fun _ q=>go [rd 7 3 1 2 1 q,rd 7 4 2 0 2 q] ?_
 refine AH ?_
 refine AX (d:=46) (.tuple #[iV 0,bF]) kr rfl (Et (t:=265) (z:=iV 0) (m:=Ot 44) (x:=Ot 45) (kv:=Bu) (ve:=kI) kr underlying265 WS kr ((b:Int),e) kr kr (j:=3) q rfl rfl) ?_
 refine⟨kd [],DE ?_⟩
 refine g0<|dw (AE [0,1,2,3,4,5,6,7,8,9,10,11] (Tr.an 12 (Tr.fl 13 (Tr.an 14 (Tr.an 15 (Tr.fl 16 (Tr.an 17 Tr.nil))))))) q fun _ p=> ?_
 have E:=p.d.t6
 refine go [rd 10 3 1 1 1 p,rd 10 8 1 2 1 p,rd 10 9 2 0 2 p,rd 10 10 2 0 2 p] ?_
 refine AH ?_
 refine Ha (t:=264) (d:=65) (m:=Ot 56) (x:=Ot 57) (kv:=kI) (ve:=Bu) (z0:=(0,0)) kr kr rfl underlying264 Dc kr (f:Int) kr kr E (0,0) (.inr ⟨rfl,rfl⟩) ?_
 intro F P G
 have s:sat g _ (Ge kI Bu i ([((f:Int),(0,0))]:List (Int×(Int×Int))) (f:Int) F::_):=G
 refine⟨kd [rd 0 10 3 0 2 s,rd 0 9 3 0 2 s],DE ?_⟩
 refine g0 ?_
 refine AH ?_
 refine Dp (t:=264) (m:=Ot 56) (x:=Ot 66) (y:=Ot 63) (kv:=kI) (ve:=Bu) kr kr ((b:Int),e) kr kr kr s ([((f:Int),((b:Int),e))]:List (Int×(Int×Int))) (OS rfl) ?_
 intro _ u
 refine⟨kd [rd 0 9 3 0 2 u],IK ?_⟩
 have H:=u.d.t6
 refine AH ?_
 refine Ha (t:=265) (d:=67) (m:=Ot 61) (x:=Ot 62) (kv:=Bu) (ve:=kI) (z0:=0) kr kr rfl underlying265 WS kr ((b:Int),e) kr kr H 0 (.inr ⟨rfl,rfl⟩) ?_
 intro I Q J
 have L:sat g _ (Ge Bu kI k ([(((b:Int),e),0)]:List ((Int×Int)×Int)) ((b:Int),e) I::_):=J
 refine⟨kd [],DE ?_⟩
 refine g0 ?_
 refine AH ?_
 refine Dp (t:=265) (m:=Ot 61) (x:=Ot 68) (y:=Ot 64) (kv:=Bu) (ve:=kI) kr kr (f:Int) kr kr kr L ([(((b:Int),e),(f:Int))]:List ((Int×Int)×Int)) (OS rfl) ?_
 intro _ M
 refine⟨kd [],IK ?_⟩
 refine g0 ?_
 exact AD _ [] M.c.t6.e.c.c.c.t4
theorem Qe(d b c:Nat)(_:0≤ -(b:Int)+255):HQ 349 [pV d,iV b] [Cl d [.map (some c)] 273,Gp kI kI c ([]:List (Int×Int))] (iV 0) [Cl d [.map (some c)] 273,Gp kI kI c ([((b:Int),1)]:List (Int×Int))]:=by
 refine AC func349 ntmps349 fun g w0 R h0=>g0<|DF call385 (JM d b c om) h0 fun _ e=> ?_
 have f:=e.a.t3
 refine go [rd 6 3 0 0 1 e] ?_
 refine AH ?_
 refine BL (t:=271) (m:=Ot 21) (x:=Ot 22) (y:=(Operand.const (iV 1))) (kv:=kI) (ve:=kI) kr kr underlying271 Dc (b:Int) 1 kr kr kr f ([((b:Int),1)]:List (Int×Int)) rfl ?_
 intro _ i
 refine Gq<|g0 ?_
 exact AD _ [] i.a.t3
theorem IG(q s t p j u k a:Nat)(i:Int)(b l m o:Nat)(_:0≤ -(a:Int)+255)(_:0≤i-1)(_:0≤ -(b:Int)+255):HQ 347 [pV q,pV s,pV t] [Cl p [pV j,pV u,pV k,iV 256] 170,Cl q [iV a,uV i] 203,Cl t [iV b] 3,Cl s [pV p] 77,Cl j [iV 256,.map (some l),.map (some m)] 267,Gp kI Bu l ([]:List (Int×(Int×Int))),Gp Bu kI m ([]:List ((Int×Int)×Int)),Cl k [.map (some o)] 273,Gp kI kI o ([]:List (Int×Int))] (iV 0) [Cl p [pV j,pV u,pV k,iV 256] 170,Cl q [iV a,uV i] 203,Cl t [iV b] 3,Cl s [pV p] 77,Cl j [iV 256,.map (some l),.map (some m)] 267,Gp kI Bu l ([((b:Int),((a:Int),i))]:List (Int×(Int×Int))),Gp Bu kI m ([(((a:Int),i),(b:Int))]:List ((Int×Int)×Int)),Cl k [.map (some o)] 273,Gp kI kI o ([((b:Int),1)]:List (Int×Int))]:=by
 refine AC func347 ntmps347 fun g w0 R y=>go [rd 1 1 1 0 1 y,.v 1 2 (oF ((a:Int)<0)),rd 1 5 1 0 1 y,.v 1 6 (oF ((a:Int)≥256)),rd 1 10 1 1 1 y,.v 1 11 (DR i 0)]<|dw (AE [0,1,2,3,4,5] (Tr.an 6 (AE [7,8,9,10,11] Tr.nil))) y fun _ z=> ?_
 have C:=z.f.e.t10
 refine go [rd 3 0 3 0 1 z,rd 3 4 0 0 1 z,rd 3 5 1 0 2 z]<|FN call293 (Mx j a i l m) C fun _ B=>⟨kd [],?_⟩
 have D:=B.h.h.d.t10
 refine go [rd 4 2 5 0 1 B,rd 4 3 4 0 1 B]<|IM call311 (JN p b j u k o om) D fun _ E=>g0<|dw (AE [0,1,2,3,4,5,6] (Tr.an 7 (Tr.fl 8 Tr.nil))) E fun _ x=> ?_
 have F:=x.h.e.e.t10
 refine go [rd 6 0 7 0 1 x,rd 6 4 0 0 1 x,rd 6 5 6 0 1 x,rd 6 6 5 0 2 x]<|L7 call348 (Qd j b a i l m om om om) F fun _ G=>⟨kd [],?_⟩
 refine g0<|dw (AE [0,1,2,3,4,5] (Tr.an 6 (Tr.fl 7 Tr.nil))) G fun _ A=> ?_
 have H:=A.e.e.t10
 refine go [rd 9 0 8 0 1 A,rd 9 4 3 2 1 A,rd 9 5 7 0 1 A]<|FN call349 (Qe k b o om) H fun _ I=>⟨kd [],?_⟩
 refine g0 ?_
 exact AD _ [] I.c.d.d.h.h.h.h.t10
theorem OT(b a m o p d:Nat)(e:Int)(f q i j k l:Nat)(_:0≤ -(a:Int)+255)(_:0≤ -(d:Int)+255)(_:0≤e-1):HQ 309 [pV b,iV a,.func (Fn.func 347) #[] #[pV m,pV o,pV p]] [Cl m [iV d,uV e] 203,Cl p [iV a] 3,Cl o [pV b] 77,Cl b [pV f,pV q,pV i,iV 256] 170,Cl f [iV 256,.map (some j),.map (some k)] 267,Gp kI Bu j ([]:List (Int×(Int×Int))),Gp Bu kI k ([]:List ((Int×Int)×Int)),Cl i [.map (some l)] 273,Gp kI kI l ([]:List (Int×Int))] (iV 0) [Cl m [iV d,uV e] 203,Cl p [iV a] 3,Cl o [pV b] 77,Cl b [pV f,pV q,pV i,iV 256] 170,Cl f [iV 256,.map (some j),.map (some k)] 267,Gp kI Bu j ([((a:Int),((d:Int),e))]:List (Int×(Int×Int))),Gp Bu kI k ([(((d:Int),e),(a:Int))]:List ((Int×Int)×Int)),Cl i [.map (some l)] 273,Gp kI kI l ([((a:Int),1)]:List (Int×Int))]:=by
 refine AC func309 ntmps309 fun g w0 R h0=> ?_
 have t:=h0.c.t10
 refine g0<|AF call117 (BG b f q i) t fun _ s=>go [.v 3 1 (oF ((a:Int)<0)),rd 3 7 0 3 1 s,.v 3 8 (oF ((a:Int)≥256))]<|cP call347 (IG m o p b f q i d e a j k l om om om) s ?_
 rintro v K y (⟨rfl,rfl⟩) u
 have x:sat g _ (Cl b [pV f,pV q,pV i,iV 256] 170::_):=u
 refine g0 ?_
 exact AD _ [] x.c.c.c.t10
theorem vN(b q id s:Nat)(gn:Int)(_:0≤ -(id:Int)+255)(_:0≤ -(s:Int)+255)(_:0≤gn-1):HQ 272 [pV b,iV id,.agg #[iV s,uV gn]] [Bl b q 0] (iV 0) [D2 b q id s gn]:=by
 refine AC func272 ntmps272 fun g w0 R h0=> ?_
 obtain⟨c,e,cl12,j,k,l,o,p,t⟩:=FL h0
 have u:sat g _ (Cl b [pV c,pV e,pV cl12,iV 256] 170::_):=t
 refine g0<|nP 77 [pV b] u (fun x _ y=> ?_)
 refine nP 3 [iV id] y (fun z _ A=> ?_)
 refine nP 203 [iV s,uV gn] A (fun m _ f=> ?_)
 have B:=f.i.i.h.h.h.h.h.h.h.t11
 refine go [rd 1 0 2 0 1 f,rd 1 1 1 0 1 f]<|cP call309 (OT b id m x z s gn c e cl12 j k l om om om) B ?_
 rintro v K F (⟨rfl,rfl⟩) C
 have D:sat g _ (Cl m [iV s,uV gn] 203::_):=C
 refine g0 ?_
 have E:sat g _ (D2 b q id s gn::_):=I2 b q id s gn c e cl12 j k l o p om om om D.h.h.i.i.i.i.i.t11
 exact AD _ [] E.d.a.t2
theorem S5(i c:Nat)(e:Int)(k f:Nat):HQ 293 [pV i,.agg #[iV c,uV e]] [Cl i [iV 256,.map (some k),.map (some f)] 267,Gp Bu kI f ([(((c:Int),e),0)]:List ((Int×Int)×Int))] (.tuple #[iV 0,bT]) [Cl i [iV 256,.map (some k),.map (some f)] 267,Gp Bu kI f ([(((c:Int),e),0)]:List ((Int×Int)×Int))]:=by
 refine AC func293 ntmps293 fun g w0 R h0=>g0<|nP 203 [iV c,uV e] h0 (fun _ _ o=> ?_)
 have p:=o.a.t4
 refine g0<|AF call249 (Eu i k f) p fun _ q=>g0<|dw (AE [0,1,2,3,4] (Tr.an 5 (AE [6,7,8,9,10] Tr.nil))) q fun _ l=>go [rd 3 3 0 2 1 l,rd 3 4 1 0 2 l] ?_
 refine AH ?_
 refine AX (d:=17) (.tuple #[iV 0,bT]) kr rfl (BN (t:=265) (z:=iV 0) (m:=Ot 15) (x:=Ot 16) (kv:=Bu) (ve:=kI) kr underlying265 WS kr ((c:Int),e) kr kr (j:=2) l rfl (iV 0) 0 (Bz rfl) rfl) ?_
 refine⟨kd [],DE ?_⟩
 refine g0 ?_
 exact AD _ [] l.b.a.t4.c.b.b.t3
theorem Ln(k f i c:Nat)(e:Int):HQ 294 [pV k,iV 0] [Cl k [iV 256,.map (some f),.map (some i)] 267,Gp Bu kI i ([(((c:Int),e),0)]:List ((Int×Int)×Int)),Gp kI Bu f ([(0,((c:Int),e))]:List (Int×(Int×Int)))] (.tuple #[.agg #[iV c,uV e],iV 0]) [Cl k [iV 256,.map (some f),.map (some i)] 267,Gp Bu kI i ([]:List ((Int×Int)×Int)),Gp kI Bu f ([]:List (Int×(Int×Int)))]:=by
 refine AC func294 ntmps294 fun g w0 R h0=>g0<|nP 203 [iV 0,uV 0] h0 (fun _ _ u=> ?_)
 have y:=u.a.t5
 refine g0<|AF call368 (EH k 0 f i om) y fun _ l=>go [rd 4 3 0 1 1 l] ?_
 refine AH ?_
 refine AX (d:=22) (.tuple #[.agg #[iV c,uV e],bT]) kr rfl (BN (t:=264) (z:= .agg #[iV 0,uV 0]) (m:=Ot 20) (x:=Ot 21) (kv:=kI) (ve:=Bu) kr underlying264 Dc kr 0 kr kr (j:=3) l rfl (.agg #[iV c,uV e]) ((c:Int),e) (Bz rfl) rfl) ?_
 refine B1<|g0<|nP 203 [iV 0,uV 0] l (fun _ _ A=> ?_)
 refine sA [iV c,uV e] A fun _ p=> ?_
 have B:=p.d.t6
 refine go [rd 7 3 1 1 1 p] ?_
 refine AH ?_
 refine Di (t:=264) (t2:=3) (d:=none) (m:=Ot 31) (x:=Ot 32) (kv:=kI) (ve:=Bu) kr underlying264 Dc 0 kr kr B kr ([]:List (Int×(Int×Int))) (I1 rfl) ?_
 intro _ C
 refine⟨_,rfl,?_⟩
 refine Gq<|g0<|dw (AE [0,1,2,3,4] (Tr.an 5 Tr.nil)) C fun _ o=> ?_
 have D:=o.d.t6
 refine go [rd 8 3 2 2 1 o,rd 8 4 1 0 2 o] ?_
 refine AH ?_
 refine Di (t:=265) (t2:=203) (d:=none) (m:=Ot 36) (x:=Ot 37) (kv:=Bu) (ve:=kI) kr underlying265 WS ((c:Int),e) kr kr D kr ([]:List ((Int×Int)×Int)) (I1 rfl) ?_
 intro _ q
 refine⟨_,rfl,?_⟩
 refine⟨kd [],IK ?_⟩
 have E:=q.d.t6
 refine go [rd 9 0 2 0 2 q]<|sA [iV c,uV e] E fun _ s=>g0 ?_
 exact AD (.tuple #[.agg #[iV c,uV e],iV 0]) [rd 0 0 0 0 2 s] s.b.b.d.t6.e.c.c.c.t4
theorem OU(b q s:Nat)(gn:Int):HQ 215 [pV b,.agg #[iV s,uV gn]] [D2 b q 0 s gn] (.tuple #[bT,iV 0]) [F1 b q]:=by
 refine AC func215 ntmps215 fun g w0 R h0=> ?_
 obtain⟨i,j,cl12,k,l,u,y,z,O,P,Q,A⟩:=IF h0
 have B:sat g _ (Cl b [pV i,pV j,pV cl12,iV 256] 170::_):=A
 refine g0<|nP 203 [iV s,uV gn] B (fun S _ C=> ?_)
 have D:=C.a.t9
 refine g0<|AF call117 (BG b i j cl12) D fun _ E=>g0<|dw (AE [0,1,2,3,4,5] (Tr.an 6 (AE [7,8,9,10,11] Tr.nil))) E fun _ m=> ?_
 have F:=m.d.c.t9
 refine go [rd 3 4 0 0 1 m,rd 3 5 1 0 2 m]<|FN call293 (S5 i s gn k l) F fun _ o=>⟨kd [],?_⟩
 have G:=o.e.t9
 refine go [rd 6 4 2 1 1 o]<|AF call292 (OR j q 0 om om) G fun _ p=> ?_
 have H:=p.e.c.c.t9
 refine go [.v 6 6 (DR (q:Int) 0),rd 8 4 3 0 1 p]<|IM call294 (Ln i k l s gn) H fun _ I=>g0<|nP 203 [iV 0,uV 0] I (fun T _ J=> ?_)
 refine sA [iV s,uV gn] J fun _ t=> ?_
 have L:=t.d.t10
 refine go [rd 11 4 5 1 1 t]<|AF call295 (vK j q om om) L fun U M=>g0 ?_
 have N:sat g _ (F1 b q::_):=Mw b q i j cl12 k l u y z M.h.h.b.e.f.f.x.t10
 exact AD _ [] N.c.a.t2
theorem Uq(b q:Nat)(f:Int):HQ 297 [pV b] [Bl b q f] (.tuple #[iV 0,bF]) [Bl b q f]:=by
 refine AC func297 ntmps297 fun g w0 R h0=> ?_
 obtain⟨c,a,cl12,i,j,k,l,m,o⟩:=FL h0
 have p:sat g _ (Cl b [pV c,pV a,pV cl12,iV 256] 170::_):=o
 refine g0<|AF call117 (BG b c a cl12) p fun _ e=> ?_
 have s:=e.d.t8
 refine go [rd 3 4 0 1 1 e]<|AF call371 (Uj a q f om om) s fun x t=>g0 ?_
 have u:sat g _ (Bl b q f::_):=C4 b q f c a cl12 i j k l m t.d.d.d.d.t8
 exact AD _ [] u
theorem iW(b q id s:Nat)(gn:Int):HQ 297 [pV b] [D2 b q id s gn] (.tuple #[iV 0,bF]) [D2 b q id s gn]:=by
 refine AC func297 ntmps297 fun g w0 R h0=> ?_
 obtain⟨c,a,cl12,f,i,j,k,l,m,o,p,t⟩:=IF h0
 have u:sat g _ (Cl b [pV c,pV a,pV cl12,iV 256] 170::_):=t
 refine g0<|AF call117 (BG b c a cl12) u fun _ e=> ?_
 have x:=e.d.t8
 refine go [rd 3 4 0 1 1 e]<|AF call371 (Uj a q 0 om om) x fun A y=>g0 ?_
 have z:sat g _ (D2 b q id s gn::_):=I2 b q id s gn c a cl12 f i j k l m o p y.d.d.d.d.t8
 exact AD _ [] z
theorem OV(b a:Nat):HQ 385 [pV b,iV 0] [Cl b [.map (some a)] 273,Gp kI kI a ([(0,1)]:List (Int×Int))] (.tuple #[iV 1,iV 0]) [Cl b [.map (some a)] 273,Gp kI kI a ([(0,1)]:List (Int×Int))]:=by
 refine AC func385 ntmps385 fun g w0 R c=>go [rd 1 6 0 0 1 c,rd 5 3 0 0 1 c] ?_
 refine AH ?_
 refine AX (d:=31) (.tuple #[iV 1,bT]) kr rfl (BN (t:=271) (z:=iV 0) (m:=Ot 29) (x:=Ot 30) (kv:=kI) (ve:=kI) kr underlying271 Dc kr 0 kr kr (j:=1) c rfl (iV 1) 1 (Bz rfl) rfl) ?_
 refine B1<|g0 ?_
 exact AD _ [] c
theorem Qf(c b:Nat):HQ 384 [pV c,iV 0,iV 2] [Cl c [.map (some b)] 273,Gp kI kI b ([(0,1)]:List (Int×Int))] (.tuple #[bT,iV 0]) [Cl c [.map (some b)] 273,Gp kI kI b ([(0,2)]:List (Int×Int))]:=by
 refine AC func384 ntmps384 fun g w0 R h0=>g0<|DF call385 (OV c b) h0 fun _ d=> ?_
 have e:=d.a.t3
 refine go [rd 4 3 0 0 1 d] ?_
 refine AH ?_
 refine BL (t:=271) (m:=Ot 26) (x:=Ot 27) (y:=Ot 28) (kv:=kI) (ve:=kI) kr kr underlying271 Dc 0 2 kr kr kr e ([(0,2)]:List (Int×Int)) (OS rfl) ?_
 intro _ f
 refine Gq<|g0 ?_
 exact AD _ [] f.a.t3
theorem OW(b a:Nat):HQ 372 [pV b,iV 0] [Cl b [.map (some a)] 273,Gp kI kI a ([(0,1)]:List (Int×Int))] (.tuple #[bT,iV 0]) [Cl b [.map (some a)] 273,Gp kI kI a ([(0,2)]:List (Int×Int))]:=by
 refine AC func372 ntmps372 fun g w0 R h0=>g0<|DF call384 (Qf b a) h0 fun _ c=>g0 ?_
 exact AD _ [] c
theorem OX(b a:Nat):HQ 385 [pV b,iV 0] [Cl b [.map (some a)] 273,Gp kI kI a ([(0,2)]:List (Int×Int))] (.tuple #[iV 2,iV 0]) [Cl b [.map (some a)] 273,Gp kI kI a ([(0,2)]:List (Int×Int))]:=by
 refine AC func385 ntmps385 fun g w0 R c=>go [rd 1 6 0 0 1 c,rd 5 3 0 0 1 c] ?_
 refine AH ?_
 refine AX (d:=31) (.tuple #[iV 2,bT]) kr rfl (BN (t:=271) (z:=iV 0) (m:=Ot 29) (x:=Ot 30) (kv:=kI) (ve:=kI) kr underlying271 Dc kr 0 kr kr (j:=1) c rfl (iV 2) 2 (Bz rfl) rfl) ?_
 refine B1<|g0 ?_
 exact AD _ [] c
theorem K3(c b:Nat):HQ 314 [pV c,iV 0] [Cl c [.map (some b)] 273,Gp kI kI b ([(0,2)]:List (Int×Int))] (iV 0) [Cl c [.map (some b)] 273,Gp kI kI b ([]:List (Int×Int))]:=by
 refine AC func314 ntmps314 fun g w0 R h0=>g0<|DF call385 (OX c b) h0 fun _ e=> ?_
 have f:=e.a.t3
 refine go [rd 6 3 0 0 1 e] ?_
 refine AH ?_
 refine Di (t:=271) (t2:=3) (d:=none) (m:=Ot 23) (x:=Ot 24) (kv:=kI) (ve:=kI) kr underlying271 Dc 0 kr kr f kr ([]:List (Int×Int)) (I1 rfl) ?_
 intro _ i
 refine⟨_,rfl,?_⟩
 refine Gq<|g0 ?_
 exact AD _ [] i.a.t3
theorem iX(b q:Nat):HT prog 297 [pV b] [F1 b q] (fun v K=> ∃f:Int,v= .tuple #[iV 0,bT]∧K= [Bl b q f]):=by
 refine AC func297 ntmps297 fun g w0 R h0=> ?_
 obtain⟨c,a,cl12,l,m,e,o,p,s⟩:=Kz h0
 have t:sat g _ (Cl b [pV c,pV a,pV cl12,iV 256] 170::_):=s
 refine g0<|AF call117 (BG b c a cl12) t fun _ i=> ?_
 have u:=i.d.t8
 refine go [rd 3 4 0 1 1 i]<|cP call371 (iU a q om om) u ?_
 rintro v K _ (⟨f22,rfl,rfl⟩) x
 have j:=B3 x
 have y:=j.f.f.t8
 refine go [rd 6 4 1 2 1 j]<|DF call372 (OW cl12 e) y fun _ k=>go [rd 7 4 3 2 1 k]<|DF call314 (K3 cl12 e) k fun B z=>g0 ?_
 have A:sat g _ (Bl b q f22::_):=C4 b q f22 c a cl12 l m e o p z.b.f.f.f.f.t8
 exact en _ [] ⟨_,_,rfl,⟨f22,rfl,rfl⟩,A⟩
theorem IH(c a b:Nat)(_:0≤ -(a:Int)+255):HQ 385 [pV c,iV a] [Cl c [.map (some b)] 273,Gp kI kI b ([((a:Int),1)]:List (Int×Int))] (.tuple #[iV 1,iV 0]) [Cl c [.map (some b)] 273,Gp kI kI b ([((a:Int),1)]:List (Int×Int))]:=by
 refine AC func385 ntmps385 fun g w0 R e=>go [rd 1 6 0 0 1 e,.v 3 1 (oF ((a:Int)<0)),.v 3 4 (oF ((a:Int)≥256)),rd 5 3 0 0 1 e] ?_
 refine AH ?_
 refine AX (d:=31) (.tuple #[iV 1,bT]) kr rfl (BN (t:=271) (z:=iV 0) (m:=Ot 29) (x:=Ot 30) (kv:=kI) (ve:=kI) kr underlying271 Dc kr (a:Int) kr kr (j:=1) e rfl (iV 1) 1 (Bz rfl) rfl) ?_
 refine B1<|g0 ?_
 exact AD _ [] e
theorem Qg(d a c:Nat)(_:0≤ -(a:Int)+255):HQ 383 [pV d,iV a] [Cl d [.map (some c)] 273,Gp kI kI c ([((a:Int),1)]:List (Int×Int))] (.tuple #[.agg #[iV a,iV 1],iV 0]) [Cl d [.map (some c)] 273,Gp kI kI c ([((a:Int),1)]:List (Int×Int))]:=by
 refine AC func383 ntmps383 fun g w0 R h0=>g0<|nP 498 [iV 0,iV 0] h0 (fun _ _ f=> ?_)
 have i:=f.b.b.t4
 refine g0<|DF call385 (IH d a c om) i fun _ j=> ?_
 have k:=j.b.t4
 refine g0<|sA [iV a,iV 1] k fun _ e=>g0 ?_
 exact AD (.tuple #[.agg #[iV a,iV 1],iV 0]) [rd 0 0 0 0 2 e] e.b.b.t4.c.b.b.t3
theorem II(f a i j d e:Nat)(_:0≤ -(a:Int)+255):HQ 311 [pV f,iV a] [Cl f [pV i,pV j,pV d,iV 256] 170,Cl d [.map (some e)] 273,Gp kI kI e ([((a:Int),1)]:List (Int×Int))] (bF) [Cl f [pV i,pV j,pV d,iV 256] 170,Cl d [.map (some e)] 273,Gp kI kI e ([((a:Int),1)]:List (Int×Int))]:=by
 refine AC func311 ntmps311 fun g w0 R k=> ?_
 have l:=k.b.b.t4
 refine go [rd 1 4 0 2 1 k]<|DF call383 (Qg d a e om) l fun _ m=>g0<|nP 498 [iV 0,iV 0] m (fun _ _ o=> ?_)
 refine sA [iV a,iV 1] o fun _ p=>g0 ?_
 exact AD _ [] p.b.b.c.t5.d.c.c.c.t4
theorem Lo(o i k l e:Nat)(f:Int)(_:0≤ -(i:Int)+255):HQ 294 [pV o,iV i] [Cl o [iV 256,.map (some k),.map (some l)] 267,Gp kI Bu k ([((i:Int),((e:Int),f))]:List (Int×(Int×Int))),Gp Bu kI l ([(((e:Int),f),(i:Int))]:List ((Int×Int)×Int))] (.tuple #[.agg #[iV e,uV f],iV 0]) [Cl o [iV 256,.map (some k),.map (some l)] 267,Gp kI Bu k ([]:List (Int×(Int×Int))),Gp Bu kI l ([]:List ((Int×Int)×Int))]:=by
 refine AC func294 ntmps294 fun g w0 R h0=>g0<|nP 203 [iV 0,uV 0] h0 (fun _ _ A=> ?_)
 have B:=A.a.t5
 refine g0<|AF call368 (EH o i k l om) B fun _ p=>go [rd 4 3 0 1 1 p] ?_
 refine AH ?_
 refine AX (d:=22) (.tuple #[.agg #[iV e,uV f],bT]) kr rfl (BN (t:=264) (z:= .agg #[iV 0,uV 0]) (m:=Ot 20) (x:=Ot 21) (kv:=kI) (ve:=Bu) kr underlying264 Dc kr (i:Int) kr kr (j:=2) p rfl (.agg #[iV e,uV f]) ((e:Int),f) (Bz rfl) rfl) ?_
 refine B1<|g0<|nP 203 [iV 0,uV 0] p (fun _ _ C=> ?_)
 refine sA [iV e,uV f] C fun _ s=> ?_
 have D:=s.c.t6
 refine go [rd 7 3 1 1 1 s] ?_
 refine AH ?_
 refine Di (t:=264) (t2:=3) (d:=none) (m:=Ot 31) (x:=Ot 32) (kv:=kI) (ve:=Bu) kr underlying264 Dc (i:Int) kr kr D kr ([]:List (Int×(Int×Int))) (I1 rfl) ?_
 intro _ E
 refine⟨_,rfl,?_⟩
 refine Gq<|g0<|dw (AE [0,1,2,3,4] (Tr.an 5 Tr.nil)) E fun _ q=> ?_
 have F:=q.d.t6
 refine go [rd 8 3 2 2 1 q,rd 8 4 1 0 2 q] ?_
 refine AH ?_
 refine Di (t:=265) (t2:=203) (d:=none) (m:=Ot 36) (x:=Ot 37) (kv:=Bu) (ve:=kI) kr underlying265 WS ((e:Int),f) kr kr F kr ([]:List ((Int×Int)×Int)) (I1 rfl) ?_
 intro _ u
 refine⟨_,rfl,?_⟩
 refine⟨kd [],IK ?_⟩
 have G:=u.d.t6
 refine go [rd 9 0 2 0 2 u]<|sA [iV e,uV f] G fun _ y=>g0 ?_
 exact AD (.tuple #[.agg #[iV e,uV f],iV 0]) [rd 0 0 0 0 2 y] y.a.b.d.t6.e.c.c.c.t4
theorem Qh(d b c:Nat)(_:0≤ -(b:Int)+255):HQ 384 [pV d,iV b,iV 3] [Cl d [.map (some c)] 273,Gp kI kI c ([((b:Int),1)]:List (Int×Int))] (.tuple #[bT,iV 0]) [Cl d [.map (some c)] 273,Gp kI kI c ([((b:Int),3)]:List (Int×Int))]:=by
 refine AC func384 ntmps384 fun g w0 R h0=>g0<|DF call385 (IH d b c om) h0 fun _ e=> ?_
 have f:=e.a.t3
 refine go [rd 4 3 0 0 1 e] ?_
 refine AH ?_
 refine BL (t:=271) (m:=Ot 26) (x:=Ot 27) (y:=Ot 28) (kv:=kI) (ve:=kI) kr kr underlying271 Dc (b:Int) 3 kr kr kr f ([((b:Int),3)]:List (Int×Int)) (OS rfl) ?_
 intro _ i
 refine Gq<|g0 ?_
 exact AD _ [] i.a.t3
theorem GP(c a b:Nat)(_:0≤ -(a:Int)+255):HQ 313 [pV c,iV a] [Cl c [.map (some b)] 273,Gp kI kI b ([((a:Int),1)]:List (Int×Int))] (.tuple #[bT,iV 0]) [Cl c [.map (some b)] 273,Gp kI kI b ([((a:Int),3)]:List (Int×Int))]:=by
 refine AC func313 ntmps313 fun g w0 R h0=>g0<|DF call384 (Qh c a b om) h0 fun _ d=>g0 ?_
 exact AD _ [] d
theorem OY(c a b:Nat)(_:0≤ -(a:Int)+255):HQ 385 [pV c,iV a] [Cl c [.map (some b)] 273,Gp kI kI b ([((a:Int),3)]:List (Int×Int))] (.tuple #[iV 3,iV 0]) [Cl c [.map (some b)] 273,Gp kI kI b ([((a:Int),3)]:List (Int×Int))]:=by
 refine AC func385 ntmps385 fun g w0 R e=>go [rd 1 6 0 0 1 e,.v 3 1 (oF ((a:Int)<0)),.v 3 4 (oF ((a:Int)≥256)),rd 5 3 0 0 1 e] ?_
 refine AH ?_
 refine AX (d:=31) (.tuple #[iV 3,bT]) kr rfl (BN (t:=271) (z:=iV 0) (m:=Ot 29) (x:=Ot 30) (kv:=kI) (ve:=kI) kr underlying271 Dc kr (a:Int) kr kr (j:=1) e rfl (iV 3) 3 (Bz rfl) rfl) ?_
 refine B1<|g0 ?_
 exact AD _ [] e
theorem GQ(e b c:Nat)(_:0≤ -(b:Int)+255):HQ 314 [pV e,iV b] [Cl e [.map (some c)] 273,Gp kI kI c ([((b:Int),3)]:List (Int×Int))] (iV 0) [Cl e [.map (some c)] 273,Gp kI kI c ([]:List (Int×Int))]:=by
 refine AC func314 ntmps314 fun g w0 R h0=>g0<|DF call385 (OY e b c om) h0 fun _ f=> ?_
 have i:=f.a.t3
 refine go [rd 6 3 0 0 1 f] ?_
 refine AH ?_
 refine Di (t:=271) (t2:=3) (d:=none) (m:=Ot 23) (x:=Ot 24) (kv:=kI) (ve:=kI) kr underlying271 Dc (b:Int) kr kr i kr ([]:List (Int×Int)) (I1 rfl) ?_
 intro _ j
 refine⟨_,rfl,?_⟩
 refine Gq<|g0 ?_
 exact AD _ [] j.a.t3
theorem JY(q s t l j k d a m o u:Nat)(y:Int)(p f:Nat)(_:0≤ -(a:Int)+255)(_:0≤(p:Int)-1)(_:0≤ -(p:Int)+64):HQ 310 [pV q,pV s,pV t] [Cl l [pV j,pV k,pV d,iV 256] 170,Cl t [bF] 4,Cl s [iV a] 3,Cl q [pV l] 77,Cl j [iV 256,.map (some m),.map (some o)] 267,Gp kI Bu m ([((a:Int),((u:Int),y))]:List (Int×(Int×Int))),Gp Bu kI o ([(((u:Int),y),(a:Int))]:List ((Int×Int)×Int)),Cl k ([iV p]++List.replicate 66 (iV 0)) 270,Cl d [.map (some f)] 273,Gp kI kI f ([((a:Int),1)]:List (Int×Int))] (iV 0) [Cl l [pV j,pV k,pV d,iV 256] 170,Cl t [bT] 4,Cl s [iV a] 3,Cl q [pV l] 77,Cl j [iV 256,.map (some m),.map (some o)] 267,Gp kI Bu m ([]:List (Int×(Int×Int))),Gp Bu kI o ([]:List ((Int×Int)×Int)),Cl k ([iV p]++List.replicate 66 (iV 0)) 270,Cl d [.map (some f)] 273,Gp kI kI f ([]:List (Int×Int))]:=by
 refine AC func310 ntmps310 fun g w0 R D=> ?_
 have F:=D.i.i.b.t11
 refine go [rd 1 0 3 0 1 D,rd 1 1 2 0 1 D]<|IM call311 (II l a j k d f om) F fun _ G=> ?_
 have H:=G.c.t11
 refine g0<|sA [bT] H fun _ E=>go [rd 2 0 0 0 1 E]<|dw (AE [0,1,2,3,4,5] (Tr.an 6 Tr.nil)) E fun _ z=> ?_
 have I:=z.h.h.h.t11
 refine go [rd 4 0 5 0 1 z,rd 4 4 1 0 1 z,rd 4 5 4 0 1 z]<|L7 call294 (Lo j a m o u y om) I fun _ J=>⟨kd [],?_⟩
 refine g0<|dw (AE [0,1,2,3,4,5] (Tr.an 6 Tr.nil)) J fun _ A=> ?_
 have L:=A.i.t11
 refine go [rd 5 0 8 0 1 A,rd 5 4 4 1 1 A,rd 5 5 7 0 1 A]<|BZ call312 (qG k p 0 (a:Int) om om) L fun _ M=>⟨kd [],?_⟩
 refine g0<|dw (AE [0,1,2,3,4,5] (Tr.an 6 Tr.nil)) M fun _ B=> ?_
 have N:=B.x.x.t11
 refine go [rd 6 0 9 0 1 B,rd 6 4 5 2 1 B,rd 6 5 8 0 1 B]<|FN call313 (GP d a f om) N fun _ O=>⟨kd [],?_⟩
 refine g0<|dw (AE [0,1,2,3,4,5] (Tr.an 6 (Tr.fl 7 Tr.nil))) O fun _ C=>go [rd 7 0 9 0 1 C,rd 7 4 7 2 1 C,rd 7 5 8 0 1 C]<|FN call314 (GQ d a f om) C fun _ P=>⟨kd [],?_⟩
 refine g0 ?_
 exact AD _ [] P.b.e.e.e.i.i.h.i.t11
theorem OZ(b a m o p d e f i j q:Nat)(s:Int)(l k:Nat)(_:0≤ -(a:Int)+255)(_:0≤(l:Int)-1)(_:0≤ -(l:Int)+64):HQ 309 [pV b,iV a,.func (Fn.func 310) #[] #[pV m,pV o,pV p]] [Cl p [bF] 4,Cl o [iV a] 3,Cl m [pV b] 77,Cl b [pV d,pV e,pV f,iV 256] 170,Cl d [iV 256,.map (some i),.map (some j)] 267,Gp kI Bu i ([((a:Int),((q:Int),s))]:List (Int×(Int×Int))),Gp Bu kI j ([(((q:Int),s),(a:Int))]:List ((Int×Int)×Int)),Cl e ([iV l]++List.replicate 66 (iV 0)) 270,Cl f [.map (some k)] 273,Gp kI kI k ([((a:Int),1)]:List (Int×Int))] (iV 0) [Cl p [bT] 4,Cl o [iV a] 3,Cl m [pV b] 77,Cl b [pV d,pV e,pV f,iV 256] 170,Cl d [iV 256,.map (some i),.map (some j)] 267,Gp kI Bu i ([]:List (Int×(Int×Int))),Gp Bu kI j ([]:List ((Int×Int)×Int)),Cl e ([iV l]++List.replicate 66 (iV 0)) 270,Cl f [.map (some k)] 273,Gp kI kI k ([]:List (Int×Int))]:=by
 refine AC func309 ntmps309 fun g w0 R h0=> ?_
 have u:=h0.c.t11
 refine g0<|AF call117 (BG b d e f) u fun _ t=>go [.v 3 1 (oF ((a:Int)<0)),rd 3 7 0 3 1 t,.v 3 8 (oF ((a:Int)≥256))]<|cP call310 (JY m o p b d e f a i j q s l k om om om) t ?_
 rintro v K z (⟨rfl,rfl⟩) x
 have y:sat g _ (Cl b [pV d,pV e,pV f,iV 256] 170::_):=x
 refine g0 ?_
 exact AD _ [] y.c.c.c.t11
theorem qI(b q id s:Nat)(gn:Int):HQ 224 [pV b,iV id] [D2 b q id s gn] (.tuple #[bT,iV 0]) [Bl b q 0]:=by
 refine AC func224 ntmps224 fun g w0 R h0=> ?_
 obtain⟨c,e,cl12,j,k,l,p,t,F,G,H,u⟩:=IF h0
 have x:sat g _ (Cl b [pV c,pV e,pV cl12,iV 256] 170::_):=u
 refine g0<|nP 77 [pV b] x (fun y _ z=> ?_)
 refine nP 3 [iV id] z (fun A _ B=> ?_)
 refine g0<|nP 4 [bF] B (fun m _ C=> ?_)
 refine sA [bF] C fun _ f=>go [rd 2 0 2 0 1 f,rd 2 1 1 0 1 f]<|cP call309 (OZ b id y A m c e cl12 j k s gn q l om om om) f ?_
 rintro v K I (⟨rfl,rfl⟩) D
 have o:sat g _ (Cl m [bT] 4::_):=D
 refine go [rd 3 0 0 0 1 o] ?_
 have E:sat g _ (Bl b q 0::_):=C4 b q 0 c e cl12 j k l p t o.i.i.i.i.i.i.i.t11
 exact AD _ [] E.d.a.t2
theorem Lp(f e i:Nat):HQ 294 [pV f,iV 0] [Cl f [iV 256,.map (some e),.map (some i)] 267,Gp kI Bu e ([]:List (Int×(Int×Int)))] (.tuple #[.agg #[iV 0,uV 0],iV 5]) [Cl f [iV 256,.map (some e),.map (some i)] 267,Gp kI Bu e ([]:List (Int×(Int×Int)))]:=by
 refine AC func294 ntmps294 fun g w0 R h0=>g0<|nP 203 [iV 0,uV 0] h0 (fun _ _ o=> ?_)
 have p:=o.a.t4
 refine g0<|AF call368 (EH f 0 e i om) p fun _ k=>go [rd 4 3 0 1 1 k] ?_
 refine AH ?_
 refine AX (d:=22) (.tuple #[.agg #[iV 0,uV 0],bF]) kr rfl (Et (t:=264) (z:= .agg #[iV 0,uV 0]) (m:=Ot 20) (x:=Ot 21) (kv:=kI) (ve:=Bu) kr underlying264 Dc kr 0 kr kr (j:=2) k rfl rfl) ?_
 refine B1<|g0<|nP 203 [iV 0,uV 0] k (fun _ _ q=> ?_)
 refine sA [iV 0,uV 0] q fun _ s=> ?_
 have u:=s.b.t5
 refine g0<|sA [iV 0,uV 0] u fun _ l=>g0 ?_
 exact AD _ [rd 0 0 0 0 2 l] l.c.c.t5.d.b.b.t3
theorem JZ(o p q k i j a l s m e:Nat)(_:0≤(m:Int)-1)(_:0≤ -(m:Int)+64):HQ 310 [pV o,pV p,pV q] [Cl k [pV i,pV j,pV a,iV 256] 170,Cl q [bF] 4,Cl p [iV 0] 3,Cl o [pV k] 77,Cl i [iV 256,.map (some l),.map (some s)] 267,Gp kI Bu l ([]:List (Int×(Int×Int))),Cl j ([iV m,iV 0,iV 1]++List.replicate 64 (iV 0)) 270,Cl a [.map (some e)] 273,Gp kI kI e ([(0,1)]:List (Int×Int))] (iV 0) [Cl k [pV i,pV j,pV a,iV 256] 170,Cl q [bT] 4,Cl p [iV 0] 3,Cl o [pV k] 77,Cl i [iV 256,.map (some l),.map (some s)] 267,Gp kI Bu l ([]:List (Int×(Int×Int))),Cl j ([iV m]++List.replicate 66 (iV 0)) 270,Cl a [.map (some e)] 273,Gp kI kI e ([]:List (Int×Int))]:=by
 refine AC func310 ntmps310 fun g w0 R A=> ?_
 have C:=A.h.h.b.t10
 refine go [rd 1 0 3 0 1 A,rd 1 1 2 0 1 A]<|IM call311 (II k 0 i j a e om) C fun _ D=> ?_
 have E:=D.c.t10
 refine g0<|sA [bT] E fun _ B=>go [rd 2 0 0 0 1 B]<|dw (AE [0,1,2,3,4,5] (Tr.an 6 Tr.nil)) B fun _ t=> ?_
 have F:=t.x.x.t10
 refine go [rd 4 0 5 0 1 t,rd 4 4 1 0 1 t,rd 4 5 4 0 1 t]<|FN call294 (Lp i l s) F fun _ G=>⟨kd [],?_⟩
 refine g0<|dw (AE [0,1,2,3,4,5] (Tr.an 6 Tr.nil)) G fun _ u=> ?_
 have H:=u.h.t10
 refine go [rd 5 0 7 0 1 u,rd 5 4 3 1 1 u,rd 5 5 6 0 1 u]<|BZ call312 (qH j m om om) H fun _ I=>⟨kd [],?_⟩
 refine g0<|dw (AE [0,1,2,3,4,5] (Tr.an 6 Tr.nil)) I fun _ y=> ?_
 have J:=y.f.f.t10
 refine go [rd 6 0 8 0 1 y,rd 6 4 4 2 1 y,rd 6 5 7 0 1 y]<|FN call313 (GP a 0 e om) J fun _ L=>⟨kd [],?_⟩
 refine g0<|dw (AE [0,1,2,3,4,5] (Tr.an 6 (Tr.fl 7 Tr.nil))) L fun _ z=>go [rd 7 0 8 0 1 z,rd 7 4 6 2 1 z,rd 7 5 7 0 1 z]<|FN call314 (GQ a 0 e om) z fun _ M=>⟨kd [],?_⟩
 refine g0 ?_
 exact AD _ [] M.b.d.d.h.h.x.h.t10
theorem Oa(a k l m b d e f o j i:Nat)(_:0≤(j:Int)-1)(_:0≤ -(j:Int)+64):HQ 309 [pV a,iV 0,.func (Fn.func 310) #[] #[pV k,pV l,pV m]] [Cl m [bF] 4,Cl l [iV 0] 3,Cl k [pV a] 77,Cl a [pV b,pV d,pV e,iV 256] 170,Cl b [iV 256,.map (some f),.map (some o)] 267,Gp kI Bu f ([]:List (Int×(Int×Int))),Cl d ([iV j,iV 0,iV 1]++List.replicate 64 (iV 0)) 270,Cl e [.map (some i)] 273,Gp kI kI i ([(0,1)]:List (Int×Int))] (iV 0) [Cl m [bT] 4,Cl l [iV 0] 3,Cl k [pV a] 77,Cl a [pV b,pV d,pV e,iV 256] 170,Cl b [iV 256,.map (some f),.map (some o)] 267,Gp kI Bu f ([]:List (Int×(Int×Int))),Cl d ([iV j]++List.replicate 66 (iV 0)) 270,Cl e [.map (some i)] 273,Gp kI kI i ([]:List (Int×Int))]:=by
 refine AC func309 ntmps309 fun g w0 R h0=> ?_
 have q:=h0.c.t10
 refine g0<|AF call117 (BG a b d e) q fun _ p=>go [rd 3 7 0 3 1 p]<|cP call310 (JZ k l m a b d e f o j i om om) p ?_
 rintro v K u (⟨rfl,rfl⟩) s
 have t:sat g _ (Cl a [pV b,pV d,pV e,iV 256] 170::_):=s
 refine g0 ?_
 exact AD _ [] t.c.c.c.t10
theorem qJ(b q:Nat):HQ 224 [pV b,iV 0] [F1 b q] (.tuple #[bT,iV 0]) [Bl b q 0]:=by
 refine AC func224 ntmps224 fun g w0 R h0=> ?_
 obtain⟨c,e,cl12,j,k,l,p,s,t⟩:=Kz h0
 have u:sat g _ (Cl b [pV c,pV e,pV cl12,iV 256] 170::_):=t
 refine g0<|nP 77 [pV b] u (fun x _ y=> ?_)
 refine nP 3 [iV 0] y (fun z _ A=> ?_)
 refine g0<|nP 4 [bF] A (fun m _ B=> ?_)
 refine sA [bF] B fun _ f=> ?_
 have C:=f.i.i.i.h.h.h.h.h.h.t11
 refine go [rd 2 0 2 0 1 f,rd 2 1 1 0 1 f]<|cP call309 (Oa b x z m c e cl12 j k q l om om) C ?_
 rintro v K F (⟨rfl,rfl⟩) D
 have o:sat g _ (Cl m [bT] 4::_):=D
 refine go [rd 3 0 0 0 1 o] ?_
 have E:sat g _ (Bl b q 0::_):=C4 b q 0 c e cl12 j k l p s o.h.h.h.i.i.i.i.t11
 exact AD _ [] E.d.a.t2
theorem K4(b q:Nat)(f:Int)(s:Nat)(gn:Int):HQ 215 [pV b,.agg #[iV s,uV gn]] [Bl b q f] (.tuple #[bF,iV 0]) [Bl b q f]:=by
 refine AC func215 ntmps215 fun g w0 R h0=> ?_
 obtain⟨i,j,cl12,l,m,o,p,t,u⟩:=FL h0
 have y:sat g _ (Cl b [pV i,pV j,pV cl12,iV 256] 170::_):=u
 refine g0<|nP 203 [iV s,uV gn] y (fun G _ z=> ?_)
 have A:=z.a.t9
 refine g0<|AF call117 (BG b i j cl12) A fun _ C=>g0<|dw (AE [0,1,2,3,4,5] (Tr.an 6 (AE [7,8,9,10,11] Tr.nil))) C fun _ k=> ?_
 have D:=k.d.c.t9
 refine go [rd 3 4 0 0 1 k,rd 3 5 1 0 2 k]<|FN call293 (Mx i s gn l m) D fun H E=>⟨kd [],?_⟩
 refine g0 ?_
 have F:sat g _ (Bl b q f::_):=C4 b q f i j cl12 l m o p t E.x.x.x.d.x.e.f.t9
 exact AD _ [] F.B.t2
theorem vO(mq:Int)(_:0≤mq-1)(_:0≤ -mq+256):HT prog 33 [iV mq] [] (fun v K=> ∃b:Nat,v= .tuple #[pV b,iV 0]∧K= [Cl b [iV mq,pO] 191]):=by
 refine AC func33 ntmps33 fun g w0 R h0=>go [.v 1 1 (oF (mq<1)),.v 1 4 (oF (mq>256))]<|nP 191 [iV mq,pO] h0 (fun a _ c=> ?_)
 refine g0 ?_
 exact en _ [] ⟨_,_,rfl,⟨a,rfl,rfl⟩,c⟩
theorem GR(b:Nat)(a:Int)(_:0≤a-1):HQ 122 [pV b] [Cl b [iV a,pO] 191] (bT) [Cl b [iV a,pO] 191]:=by
 refine AC func122 ntmps122 fun g w0 R c=>go [rd 1 6 0 0 1 c,.v 1 7 (oT (a>0))] ?_
 exact AD _ [] c
theorem K5(b:Nat)(mq us:Int)(_:0≤us)(_:0≤mq-1):HQ 219 [pV b,iV us] [Cl b [iV mq,pO] 191] (.tuple #[]) [Cl b [iV mq,pO] 191]:=by
 refine AC func219 ntmps219 fun g w0 R h0=>g0<|AF call122 (GR b mq om) h0 fun _ a=>go [.v 0 4 (oT (us≥0)),rd 0 11 0 0 1 a,.s 0 12] ?_
 by_cases c:us<mq
 ·
  refine go [.v 0 12 (oT _ c)]<|sP [(1,pO)] [iV mq,pO] a fun _ d=>g0 ?_
  exact AD _ [] d
 refine go [.v 0 12 (oF _ c)] ?_
 exact AD _ [] a
theorem Qi(d b:Nat)(c:Int)(_:0≤c-1):HQ 335 [pV d] [Cl d [pV b] 81,Cl b [iV c,pO] 191] (bF) [Cl d [pV b] 81,Cl b [iV c,pO] 191]:=by
 refine AC func335 ntmps335 fun g w0 R e=> ?_
 have f:=e.a.t3
 refine go [rd 1 0 0 0 1 e]<|AF call122 (GR b c om) f fun _ i=>g0 ?_
 exact AD _ [] i.a.t3
theorem Qj(c d:Nat)(a b:Int)(_:0≤b)(_:0≤a)(_:0≤ -a+1099511627776):HQ 336 [pV c,pV d] [Cl d [iV a] 3,Cl c [iV b] 3] (bF) [Cl d [iV a] 3,Cl c [iV b] 3]:=by
 refine AC func336 ntmps336 fun g w0 R e=>go [rd 1 0 1 0 1 e,.v 1 1 (oF (b<0)),rd 1 3 0 0 1 e,.v 1 4 (oF (a<0)),rd 1 7 0 0 1 e,.v 1 8 (oF (a>1099511627776))] ?_
 exact AD _ [] e
theorem Qk(b c:Nat)(a:Int):HQ 337 [pV b,pV c] [Cl c [iV a] 3,Cl b [iV a] 3] (bF) [Cl c [iV a] 3,Cl b [iV a] 3]:=by
 refine AC func337 ntmps337 fun g w0 R d=>go [rd 1 0 1 0 1 d,rd 1 1 0 0 1 d,.v 1 2 (Db a a)] ?_
 exact AD _ [] d
theorem Ob(c j k a l:Nat)(i o:Int)(m:Nat)(p:Int)(_:0≤p-1)(_:0≤o)(_:0≤i)(_:0≤ -i+1099511627776):HQ 334 [.slice (some ⟨c,0,none⟩) 3 3] [Cl c [.func (Fn.func 335) #[] #[pV j],iV 1,.func (Fn.func 336) #[] #[pV k,pV a],iV 2,.func (Fn.func 337) #[] #[pV l,pV a],iV 2] 466,Cl a [iV i] 3,Cl l [iV i] 3,Cl k [iV o] 3,Cl j [pV m] 81,Cl m [iV p,pO] 191] (iV 0) [Cl c [.func (Fn.func 335) #[] #[pV j],iV 1,.func (Fn.func 336) #[] #[pV k,pV a],iV 2,.func (Fn.func 337) #[] #[pV l,pV a],iV 2] 466,Cl a [iV i] 3,Cl l [iV i] 3,Cl k [iV o] 3,Cl j [pV m] 81,Cl m [iV p,pO] 191]:=by
 refine AC func334 ntmps334 fun g w0 R q=>go [.v 1 1 (oJ .i64 (3:Int) 3)]<|DS 39<|go [.s 3 0]<|AS (pV c) (D5 (Ot 5) (Ot 7) c 0 0 3 3 underlying509 2 0 0)<|go [rd 3 1 0 0 2 q]<|nP 466 [Value.nilFunc,iV 0] q (fun _ _ B=> ?_)
 refine sA [.func (Fn.func 335) #[] #[pV j],iV 1] B fun _ t=> ?_
 have C:=t.f.f.t8
 refine go [rd 4 1 0 0 1 t]<|DF call335 (Qi j m p om) C fun _ u=>g0<|Bm<|go [.s 3 0]<|AS (.pointer (some ⟨c,2,none⟩)) (D5 (Ot 5) (Ot 7) c 0 1 3 3 underlying509 2 1 2)<|go [rd 3 1 3 2 2 u]<|nP 466 [Value.nilFunc,iV 0] u (fun _ _ D=> ?_)
 refine sA [.func (Fn.func 336) #[] #[pV k,pV a],iV 2] D fun _ y=> ?_
 have E:=y.x.f.t9
 refine go [rd 4 1 0 0 1 y]<|DF call336 (Qj k a i o om om om) E fun _ z=>g0<|Bm<|go [.s 3 0]<|AS (.pointer (some ⟨c,4,none⟩)) (D5 (Ot 5) (Ot 7) c 0 2 3 3 underlying509 2 2 4)<|go [rd 3 1 6 4 2 z]<|nP 466 [Value.nilFunc,iV 0] z (fun _ _ F=> ?_)
 refine sA [.func (Fn.func 337) #[] #[pV l,pV a],iV 2] F fun _ A=> ?_
 have G:=A.h.b.t10
 refine go [rd 4 1 0 0 1 A]<|DF call337 (Qk l a i) G fun _ H=>g0<|Bm<|g0<|up<|g0 ?_
 exact AD _ [] H.f.f.e.d.d.h.t10.i.f.f.f.f.f.f.t7
theorem Ql(d e a:Nat)(b c:Int)(_:0≤ -c+b-1):HQ 338 [pV d,pV e] [Cl a [iV b,pO] 191,Cl d [iV c] 3,Cl e [pV a] 81] (bT) [Cl a [iV b,pO] 191,Cl d [iV c] 3,Cl e [pV a] 81]:=by
 refine AC func338 ntmps338 fun g w0 R h0=>g0<|dw (AE [0,1,2,3,4,5,6] Tr.nil) h0 fun _ f=>go [rd 1 0 1 0 1 f,rd 1 1 2 0 1 f,rd 1 4 0 0 1 f,.v 1 5 (oT (c<b))] ?_
 exact AD _ [] f
theorem Oc(c b a j k e:Nat)(f i:Int)(_:0≤ -i+f-1):HQ 334 [.slice (some ⟨c,0,none⟩) 3 3] [Cl c [.func (Fn.func 338) #[] #[pV b,pV a],iV 0,.func (Fn.func 339) #[] #[pV a,pV j,pV k],iV 13,.func (Fn.func 341) #[] #[],iV 12] 466,Cl e [iV f,pO] 191,Cl b [iV i] 3,Cl a [pV e] 81] (iV 0) [Cl c [.func (Fn.func 338) #[] #[pV b,pV a],iV 0,.func (Fn.func 339) #[] #[pV a,pV j,pV k],iV 13,.func (Fn.func 341) #[] #[],iV 12] 466,Cl e [iV f,pO] 191,Cl b [iV i] 3,Cl a [pV e] 81]:=by
 refine AC func334 ntmps334 fun g w0 R l=>go [.v 1 1 (oJ .i64 (3:Int) 3)]<|DS 39<|go [.s 3 0]<|AS (pV c) (D5 (Ot 5) (Ot 7) c 0 0 3 3 underlying509 2 0 0)<|go [rd 3 1 0 0 2 l]<|nP 466 [Value.nilFunc,iV 0] l (fun _ _ p=> ?_)
 refine sA [.func (Fn.func 338) #[] #[pV b,pV a],iV 0] p fun _ m=> ?_
 have q:=m.d.d.d.t6
 refine go [rd 4 1 0 0 1 m]<|IM call338 (Ql b a e f i om) q fun _ o=>go [rd 5 1 3 1 1 o]<|up<|g0 ?_
 exact AD _ [] o.d.t6.e.d.d.d.d.t5
theorem vP(b:Nat)(mq us ec:Int)(_:0≤us)(_:0≤mq-us-1)(_:0≤ec)(_:0≤ -ec+1099511627776):HQ 262 [pV b,iV us,iV ec,iV ec] [Cl b [iV mq,pO] 191] (iV 0) [Cl b [iV mq,pO] 191]:=by
 refine AC func262 ntmps262 fun g w0 R h0=>g0<|nP 81 [pV b] h0 (fun d _ m=> ?_)
 refine nP 3 [iV us] m (fun j _ o=> ?_)
 refine nP 3 [iV ec] o (fun k _ p=> ?_)
 refine nP 3 [iV ec] p (fun i _ q=> ?_)
 refine g0<|nG (fun q_=> .slice (some ⟨q_,0,none⟩) 3 3) 466 [.func (Fn.func 335) #[] #[pV d],iV 1,.func (Fn.func 336) #[] #[pV j,pV i],iV 2,.func (Fn.func 337) #[] #[pV k,pV i],iV 2] q (fun s _ t=>⟨kd [],?_⟩)
 refine U7 call334 (Ob s d j i k ec us b mq om om om om) t fun _ l=> ?_
 have u:=l.e.t7
 refine go [rd 4 0 4 0 1 l,rd 4 1 3 0 1 l]<|AF call219 (K5 b mq us om om) u fun _ y=>g0<|nG (fun q_=> .slice (some ⟨q_,0,none⟩) 3 3) 466 [.func (Fn.func 338) #[] #[pV j,pV d],iV 0,.func (Fn.func 339) #[] #[pV d,pV k,pV i],iV 13,.func (Fn.func 341) #[] #[],iV 12] y (fun z _ A=>⟨kd [],?_⟩)
 refine IL call334 (Oc z j d k i b mq us om) A.f.f.c.c.t8 fun _ B=>g0 ?_
 exact AD _ [] B.a.t8.x.a.t2
theorem Od(a c d e f:Nat):HQ 56 [.agg #[iV a,iV c,iV d,iV e,iV f]] [] (.agg #[iV a,iV c,iV d,iV e,iV f]) []:=by
 refine AC func56 ntmps56 fun g w0 R h0=>g0<|nP 133 [iV a,iV c,iV d,iV e,iV f] h0 (fun j _ m=> ?_)
 refine nP 59 [iV 0,iV 0,iV 0,iV 0,iV 0] m (fun _ _ k=> ?_)
 refine go [.s 1 0]<|AS (pV j) (AA (x:=Ot 1) (i:=(Operand.const (iV 0))) (b:=j) (off:=0) (z:=0) kr underlying133 1 kr 0 kr kr om om 0 om _)<|go [rd 1 1 1 0 1 k,.s 1 2]<|AS (.pointer (some ⟨j,1,none⟩)) (AA (x:=Ot 1) (i:=(Operand.const (iV 1))) (b:=j) (off:=0) (z:=1) kr underlying133 1 kr 1 kr kr om om 1 om _)<|go [rd 1 3 1 1 1 k,.s 1 4]<|AS (.pointer (some ⟨j,2,none⟩)) (AA (x:=Ot 1) (i:=(Operand.const (iV 2))) (b:=j) (off:=0) (z:=2) kr underlying133 1 kr 2 kr kr om om 2 om _)<|go [rd 1 5 1 2 1 k,.s 1 6]<|AS (.pointer (some ⟨j,3,none⟩)) (AA (x:=Ot 1) (i:=(Operand.const (iV 3))) (b:=j) (off:=0) (z:=3) kr underlying133 1 kr 3 kr kr om om 3 om _)<|go [rd 1 7 1 3 1 k,.s 1 8]<|AS (.pointer (some ⟨j,4,none⟩)) (AA (x:=Ot 1) (i:=(Operand.const (iV 4))) (b:=j) (off:=0) (z:=4) kr underlying133 1 kr 4 kr kr om om 4 om _)<|go [rd 1 9 1 4 1 k]<|sA [iV a,iV c,iV d,iV e,iV f] k fun _ l=>g0 ?_
 exact AD (.agg #[iV a,iV c,iV d,iV e,iV f]) [rd 0 0 0 0 5 l] l.b.t1
theorem vQ(b n:Nat)(S:Ts):HQ 25 [pV b,iV 0] [TW b n S] (.tuple #[.agg #[iV (S.R.length:Int),iV (((AT S.R 1).length:Nat):Int),iV (((AT S.R 2).length:Nat):Int),iV (((AT S.R 3).length:Nat):Int),iV (((AT S.R 4).length:Nat):Int)],iV 0]) [TW b n S]:=by
 refine AC func25 ntmps25 fun g w0 R d=> ?_
 have hW_:=(IZ d).1;have hrl_:=hW_.rl;have hsm_:=Qb hW_
 refine g0<|nP 59 [iV 0,iV 0,iV 0,iV 0,iV 0] d (fun _ _ u=> ?_)
 have y:=u.a.t3
 refine g0<|cP call47 (Ni b n S) y ?_
 rintro v K _ (⟨U,rfl,rfl⟩) A
 have B:=CW A
 refine g0<|AF call54 (YL b n S) B fun _ C=>go [.v 5 3 (oI ((S.R.length:Int)+0) (S.R.length:Int))]<|nP 133 [iV 0,iV 0,iV 0,iV 0,iV 0] C (fun c _ D=> ?_)
 refine sA [iV (S.R.length:Int),iV 0,iV 0,iV 0,iV 0] D fun _ E=>g0<|DS 39<|g0<|dw (AE [0,1,2,3,4] (Tr.an 5 (AE [6,7,8] (Tr.an 9 Tr.nil)))) E fun _ e=>go [.s 9 1]<|lw (.pointer (some ⟨c,1,none⟩)) (fun _=>AA (x:=Ot 6) (i:=Ot 31) (b:=c) (off:=0) (z:=1) kr underlying133 1 kr 1 kr kr om om 1 om _) ?_
 have F:=e.a.t5
 refine go [rd 9 2 0 1 1 e]<|cG call55 (Hr b n S 1) F ?_
 rintro v K _ (⟨V,W,rfl,rfl⟩) G
 have f:=CW G
 refine⟨kd [rd 0 2 2 1 1 f],?_⟩
 refine go [.v 9 7 (oI (0+(((AT S.R 1).length:Nat):Int)) (((AT S.R 1).length:Nat):Int)),.s 9 8]<|lw (.pointer (some ⟨c,1,none⟩)) (fun _=>AA (x:=Ot 6) (i:=Ot 31) (b:=c) (off:=0) (z:=1) kr underlying133 1 kr 1 kr kr om om 1 om _)<|sG [(1,iV (((AT S.R 1).length:Nat):Int))] [iV (S.R.length:Int),iV (((AT S.R 1).length:Nat):Int),iV 0,iV 0,iV 0] f.b.t6 fun _ H=>⟨kd [],?_⟩
 refine g0<|Bm<|g0<|dw (AE [0,1,2,3,4] (Tr.an 5 (AE [6,7,8] (Tr.an 9 Tr.nil)))) H fun _ j=>go [.s 9 1]<|lw (.pointer (some ⟨c,2,none⟩)) (fun _=>AA (x:=Ot 6) (i:=Ot 31) (b:=c) (off:=0) (z:=2) kr underlying133 1 kr 2 kr kr om om 2 om _) ?_
 have I:=j.a.t6
 refine go [rd 9 2 0 2 1 j]<|cG call55 (Hr b n S 2) I ?_
 rintro v K _ (⟨X,Y,rfl,rfl⟩) J
 have k:=CW J
 refine⟨kd [rd 0 2 2 2 1 k],?_⟩
 refine go [.v 9 7 (oI (0+(((AT S.R 2).length:Nat):Int)) (((AT S.R 2).length:Nat):Int)),.s 9 8]<|lw (.pointer (some ⟨c,2,none⟩)) (fun _=>AA (x:=Ot 6) (i:=Ot 31) (b:=c) (off:=0) (z:=2) kr underlying133 1 kr 2 kr kr om om 2 om _)<|sG [(2,iV (((AT S.R 2).length:Nat):Int))] [iV (S.R.length:Int),iV (((AT S.R 1).length:Nat):Int),iV (((AT S.R 2).length:Nat):Int),iV 0,iV 0] k.b.t7 fun _ L=>⟨kd [],?_⟩
 refine g0<|Bm<|g0<|dw (AE [0,1,2,3,4] (Tr.an 5 (AE [6,7,8] (Tr.an 9 Tr.nil)))) L fun _ l=>go [.s 9 1]<|lw (.pointer (some ⟨c,3,none⟩)) (fun _=>AA (x:=Ot 6) (i:=Ot 31) (b:=c) (off:=0) (z:=3) kr underlying133 1 kr 3 kr kr om om 3 om _) ?_
 have M:=l.a.t7
 refine go [rd 9 2 0 3 1 l]<|cG call55 (Hr b n S 3) M ?_
 rintro v K _ (⟨Z,aa,rfl,rfl⟩) N
 have m:=CW N
 refine⟨kd [rd 0 2 2 3 1 m],?_⟩
 refine go [.v 9 7 (oI (0+(((AT S.R 3).length:Nat):Int)) (((AT S.R 3).length:Nat):Int)),.s 9 8]<|lw (.pointer (some ⟨c,3,none⟩)) (fun _=>AA (x:=Ot 6) (i:=Ot 31) (b:=c) (off:=0) (z:=3) kr underlying133 1 kr 3 kr kr om om 3 om _)<|sG [(3,iV (((AT S.R 3).length:Nat):Int))] [iV (S.R.length:Int),iV (((AT S.R 1).length:Nat):Int),iV (((AT S.R 2).length:Nat):Int),iV (((AT S.R 3).length:Nat):Int),iV 0] m.b.t8 fun _ O=>⟨kd [],?_⟩
 refine g0<|Bm<|g0<|dw (AE [0,1,2,3,4] (Tr.an 5 (AE [6,7,8] (Tr.an 9 Tr.nil)))) O fun _ o=>go [.s 9 1]<|lw (.pointer (some ⟨c,4,none⟩)) (fun _=>AA (x:=Ot 6) (i:=Ot 31) (b:=c) (off:=0) (z:=4) kr underlying133 1 kr 4 kr kr om om 4 om _) ?_
 have P:=o.a.t8
 refine go [rd 9 2 0 4 1 o]<|cG call55 (Hr b n S 4) P ?_
 rintro v K _ (⟨ab,ac,rfl,rfl⟩) Q
 have p:=CW Q
 refine⟨kd [rd 0 2 2 4 1 p],?_⟩
 refine go [.v 9 7 (oI (0+(((AT S.R 4).length:Nat):Int)) (((AT S.R 4).length:Nat):Int)),.s 9 8]<|lw (.pointer (some ⟨c,4,none⟩)) (fun _=>AA (x:=Ot 6) (i:=Ot 31) (b:=c) (off:=0) (z:=4) kr underlying133 1 kr 4 kr kr om om 4 om _)<|sG [(4,iV (((AT S.R 4).length:Nat):Int))] [iV (S.R.length:Int),iV (((AT S.R 1).length:Nat):Int),iV (((AT S.R 2).length:Nat):Int),iV (((AT S.R 3).length:Nat):Int),iV (((AT S.R 4).length:Nat):Int)] p.b.t9 fun _ q=>⟨kd [],?_⟩
 refine g0<|Bm<|g0<|up<|go [rd 10 0 0 0 5 q]<|AP call56 (Od S.R.length ((AT S.R 1).length) ((AT S.R 2).length) ((AT S.R 3).length) ((AT S.R 4).length)) q fun _ T=>sA [iV (S.R.length:Int),iV (((AT S.R 1).length:Nat):Int),iV (((AT S.R 2).length:Nat):Int),iV (((AT S.R 3).length:Nat):Int),iV (((AT S.R 4).length:Nat):Int)] T.x.t9 fun _ t=>g0 ?_
 exact AD _ [rd 0 0 0 0 5 t] t.b.t9.h.a.t2
theorem Lq(a c d e f:Int):HQ 424 [.agg #[iV a,iV c,iV d,iV e,iV f]] [] (.agg #[iV a,iV c,iV d,iV e,iV f]) []:=by
 refine AC func424 ntmps424 fun g w0 R h0=>g0<|nP 59 [iV a,iV c,iV d,iV e,iV f] h0 (fun _ _ k=> ?_)
 refine nP 133 [iV 0,iV 0,iV 0,iV 0,iV 0] k (fun _ _ i=> ?_)
 refine go [rd 1 1 1 0 1 i,rd 1 3 1 1 1 i,rd 1 5 1 2 1 i,rd 1 7 1 3 1 i,rd 1 9 1 4 1 i]<|sA [iV a,iV c,iV d,iV e,iV f] i fun _ j=>g0 ?_
 exact AD _ [rd 0 0 0 0 5 j] j.b.t1
theorem Lr(f b c d e:Int)(_:0≤ -f+10000)(_:0≤b)(_:0≤c)(_:0≤d)(_:0≤e)(_:0≤b+c+d+e-f)(_:0≤ -b-c-d-e+f):HQ 380 [.agg #[iV f,iV b,iV c,iV d,iV e]] [] (iV 0) []:=by
 refine AC func380 ntmps380 fun g w0 R h0=>g0<|nP 59 [iV f,iV b,iV c,iV d,iV e] h0 (fun _ _ i=> ?_)
 refine go [rd 2 0 0 0 5 i]<|AP call424 (Lq f b c d e) i fun _ j=>g0<|DS 39<|go [.v 5 1 (oF (f<0)),.v 5 4 (oF (f>10000))]<|Bm<|go [.v 5 1 (oF (b<0)),.v 5 4 (oF (b>10000)),.v 8 2 (oI (0+b) b)]<|Bm<|go [.v 5 1 (oF (c<0)),.v 5 4 (oF (c>10000)),.v 8 2 (CD (b+c))]<|Bm<|go [.v 5 1 (oF (d<0)),.v 5 4 (oF (d>10000)),.v 8 2 (CD ((b+c)+d))]<|Bm<|go [.v 5 1 (oF (e<0)),.v 5 4 (oF (e>10000)),.v 8 2 (CD ((b+c+d)+e))] ?_
 refine Bm<|g0<|up<|go [rd 10 2 0 0 1 j,.v 10 3 (Db (b+c+d+e) f)] ?_
 exact AD _ [] j.a.t1
theorem qK(b d e c f:Int)(_:0≤d)(_:0≤e)(_:0≤c)(_:0≤f)(_:0≤ -b+2000)(_:0≤b-d-e-c-f)(_:0≤d+e+c+f-b):HQ 305 [.agg #[iV b,iV d,iV e,iV c,iV f]] [] (.tuple #[iV (b-c),iV 0]) []:=by
 refine AC func305 ntmps305 fun g w0 R h0=>g0<|nP 59 [iV b,iV d,iV e,iV c,iV f] h0 (fun _ _ j=> ?_)
 refine go [rd 1 0 0 0 5 j]<|AP call380 (Lr b d e c f om om om om om om om) j fun _ i=>go [rd 4 1 0 0 1 i,rd 4 3 0 3 1 i,.v 4 4 (CD (b-c))] ?_
 exact AD _ [] i.a.t1
theorem S6{S:Ts}{d:Ky}{e:Int}(h:Ba S d=e)(he:e≠0):CR S d=B7:=by
 unfold CR
 rw[if_neg om]
def Fo(x:Int×Int):List Value:= [iV x.1,iV x.2]
theorem Cx:Enc 2 Fo:=⟨fun _=>rfl,fun x v hv=>by simp[Fo] at hv;rcases hv with rfl |rfl<;>rfl⟩
def Ur(b:Nat)(tz:Int)(E:E3)(mm:Nat):List AB:= [Cl b [iV tz,Value.map (some mm)] 125,Gp kv ES mm E]
def Bj(b:Nat)(tz:Int)(E:E3):AB:=fun h=> ∃mm:Nat,(0≤tz∧tz≤100000)∧Aj (Ur b tz E mm) h
theorem GT{g w:World}{L_:List AB}{b:Nat}{tz:Int}{E:E3}(h:sat g w (Bj b tz E::L_)): ∃mm:Nat,(0≤tz∧tz≤100000)∧sat g w (Ur b tz E mm++L_):=by
 obtain⟨mm,hp,h2⟩:=Af (X:=Nat) (p:=fun q_=>(0≤tz∧tz≤100000)) (B:=fun q_=>Aj (Ur b tz E q_)) h (fun _ hk=>by obtain⟨mm,a,hk⟩:=hk;exact⟨mm,a,hk⟩)
 exact⟨mm,hp,AK h2⟩
theorem C5{g w:World}{L_:List AB}(b:Nat)(tz:Int)(E:E3)(mm:Nat)(a:0≤tz∧tz≤100000)(h:sat g w (Ur b tz E mm++L_)):sat g w (Bj b tz E::L_):=AI (AO h) fun _ hk=>⟨mm,a,hk⟩
theorem vR:HT prog 27 [] [] (fun v K=> ∃b:Nat,v=pV b∧K= [Bj b 0 []]):=by
 refine AC func27 ntmps27 fun g w0 R h0=>g0 ?_
 refine AH ?_
 refine Bw (t:=123) (d:=1) kv ES kr kr rfl h0 ?_
 intro c _ e
 refine B1<|g0<|nP 125 [iV 0,.map (some c)] e (fun a j f=> ?_)
 refine g0 ?_
 have i:sat g _ (Bj a 0 []::_):=C5 a 0 [] c om f
 exact en _ [] ⟨_,_,rfl,⟨a,rfl,rfl⟩,i⟩
theorem Da(a:Nat)(b:Int)(c:Nat):HQ 50 [pV a] [Cl a [iV b,.map (some c)] 125] (bT) [Cl a [iV b,.map (some c)] 125]:=by
 refine AC func50 ntmps50 fun g w0 R d=>go [rd 1 6 0 1 1 d] ?_
 exact AD _ [] d
theorem qL(b:Nat)(tz:Int)(E:E3)(oz og:Int)(L:List UInt8)(E2:E3)(hG:Aa E (1,oz,og)=none)(hS:Au E (1,oz,og) (L, -1,0,0,2)=E2)(_:0≤oz)(_:0≤ -oz+63)(_:0≤og-1)(_:0≤ -og+4294967295)(_:0≤(Ag L))(_:0≤ -(Ag L))(_:0≤ -(E.length:Int)+1999):HQ 205 [pV b,.agg #[iV 1,iV oz,uV og],sV L] [Bj b tz E] (iV 0) [Bj b tz E2]:=by
 refine AC func205 ntmps205 fun g w0 R h0=> ?_
 obtain⟨e,X,A⟩:=GT h0
 have B:sat g _ (Cl b [iV tz,.map (some e)] 125::_):=A
 refine g0<|nP 48 [iV 1,iV oz,uV og] B (fun q _ C=> ?_)
 have D:=C.a.t4
 refine g0<|AF call50 (Da b tz e) D fun _ u=>go [rd 3 0 1 0 3 u]<|AP call273 (Bg 1 oz og om om om) u fun _ F=>g0<|AP call131 (Zl L om om) F fun _ G=>g0<|dw (AE [0,1,2,3,4] (Tr.an2 5 (AE [6,7,8] (Tr.an 9 (Tr.an 10 (Tr.fl 11 Tr.nil)))) 9 (Tr.an 5 (AE [6,7,8] (Tr.an 10 (Tr.fl 11 Tr.nil)))))) G fun _ f=>go [rd 7 3 0 1 1 f,rd 7 4 1 0 3 f] ?_
 refine IN ?_ ?_
 ·
  refine AH ?_
  refine AX (d:=27) (.tuple #[.agg #[sV [],iV 0,iV 0,iV 0,iV 0],bF]) kr rfl (Et (t:=123) (z:= .agg #[sV [],iV 0,iV 0,iV 0,iV 0]) (m:=Ot 25) (x:=Ot 26) (kv:=kv) (ve:=ES) kr underlying123 Wz kr (1,oz,og) kr kr (j:=2) f rfl hG) ?_
  refine⟨kd [],DE ?_⟩
  refine g0<|nG (fun q_=>pV q_) 127 [sV [],iV 0,iV 0,iV 0,iV 0] f (fun H _ I=>⟨kd [],?_⟩)
  refine sB [sV [],iV 0,iV 0,iV 0,iV 0] I fun _ k=>⟨kd [],?_⟩
  refine go [rd 10 3 1 1 1 k,.s 10 4]<|AS (iV (E.length:Int)) (Pa (kv:=kv) (ve:=ES) (t:=123) (x:=Ot 34) kr underlying123 kr (j:=3) k rfl)<|go [.v 10 5 (oF ((E.length:Int)≥2000))]<|dw (AE [0,1,2,3,4,5,6] (Tr.an 7 Tr.nil)) k fun _ l=> ?_
  have J:=l.c.t5
  refine go [rd 12 3 1 1 1 l,rd 12 4 2 0 3 l] ?_
  refine AH ?_
  refine BL (t:=123) (m:=Ot 40) (x:=Ot 41) (y:=Ot 43) (kv:=kv) (ve:=ES) kr kr underlying123 Wz (1,oz,og) (L, -1,0,0,2) kr kr kr J (Au E (1,oz,og) (L, -1,0,0,2)) rfl ?_
  intro M N
  refine⟨kd [],IK ?_⟩
  refine g0 ?_
  have O:sat g M [Gp kv ES e E2,Cl H [sV [],iV 0,iV 0,iV 0,iV 0] 127,Cl b [iV tz,.map (some e)] 125,Cl q [iV 1,iV oz,uV og] 48,R]:=by rw[←hS];exact N
  have P:sat g _ (Bj b tz E2::_):=C5 b tz E2 e om O.b.t5
  exact AD _ [] P.c.a.t2
 refine nG (fun q_=>pV q_) 127 [sV [],iV 0,iV 0,iV 0,iV 0] f (fun Q _ i=>⟨kd [rd 0 4 2 0 3 i,rd 0 3 1 1 1 i],?_⟩)
 refine AH ?_
 refine AX (d:=27) (.tuple #[.agg #[sV [],iV 0,iV 0,iV 0,iV 0],bF]) kr rfl (Et (t:=123) (z:= .agg #[sV [],iV 0,iV 0,iV 0,iV 0]) (m:=Ot 25) (x:=Ot 26) (kv:=kv) (ve:=ES) kr underlying123 Wz kr (1,oz,og) kr kr (j:=3) i rfl hG) ?_
 refine⟨kd [],DE ?_⟩
 refine g0<|sB [sV [],iV 0,iV 0,iV 0,iV 0] i fun _ o=>⟨kd [],?_⟩
 refine go [rd 10 3 1 1 1 o,.s 10 4]<|AS (iV (E.length:Int)) (Pa (kv:=kv) (ve:=ES) (t:=123) (x:=Ot 34) kr underlying123 kr (j:=3) o rfl)<|go [.v 10 5 (oF ((E.length:Int)≥2000))]<|dw (AE [0,1,2,3,4,5,6] (Tr.an 7 Tr.nil)) o fun _ p=> ?_
 have S:=p.c.t5
 refine go [rd 12 3 1 1 1 p,rd 12 4 2 0 3 p] ?_
 refine AH ?_
 refine BL (t:=123) (m:=Ot 40) (x:=Ot 41) (y:=Ot 43) (kv:=kv) (ve:=ES) kr kr underlying123 Wz (1,oz,og) (L, -1,0,0,2) kr kr kr S (Au E (1,oz,og) (L, -1,0,0,2)) rfl ?_
 intro T U
 refine⟨kd [],IK ?_⟩
 refine g0 ?_
 have V:sat g T [Gp kv ES e E2,Cl Q [sV [],iV 0,iV 0,iV 0,iV 0] 127,Cl b [iV tz,.map (some e)] 125,Cl q [iV 1,iV oz,uV og] 48,R]:=by rw[←hS];exact U
 have W:sat g _ (Bj b tz E2::_):=C5 b tz E2 e om V.b.t5
 exact AD _ [] W.c.a.t2
theorem Oe(c d b:Int)(_:0≤c)(_:0≤ -c+63)(_:0≤d-1)(_:0≤ -d+4294967295)(_:0≤b-1)(_:0≤ -b+3):HQ 304 [.agg #[iV 0,iV 1,iV c,uV d,iV b,iV 1]] [] (iV 0) []:=by
 refine AC func304 ntmps304 fun g w0 R h0=>g0<|nP 50 [iV 0,iV 1,iV c,uV d,iV b,iV 1] h0 (fun _ _ f=> ?_)
 refine go [rd 1 1 0 0 1 f,rd 1 5 0 0 1 f,rd 1 10 0 1 3 f]<|AP call273 (Bg 1 c d om om om) f fun _ e=>go [rd 1 16 0 4 1 e,.v 1 17 (oF (b<1)),rd 1 21 0 4 1 e,.v 1 22 (oF (b>3)),rd 1 26 0 5 1 e,rd 1 31 0 5 1 e] ?_
 exact AD _ [] e.a.t1
theorem lF(b:Nat)(tz:Int)(E:E3)(oz og wy:Int)(L:List UInt8)(E2:E3)(hG:Aa E (1,oz,og)=some (L, -1,0,0,2))(hS:Au E (1,oz,og) (L,tz,0,wy,3)=E2)(_:0≤oz)(_:0≤ -oz+63)(_:0≤og-1)(_:0≤ -og+4294967295)(_:0≤wy-1)(_:0≤ -wy+3)(_:0≤tz)(_:0≤ -tz+9999):HQ 218 [pV b,.agg #[iV 0,iV 1,iV oz,uV og,iV wy,iV 1]] [Bj b tz E] (iV 0) [Bj b (tz+1) E2]:=by
 refine AC func218 ntmps218 fun g w0 R h0=> ?_
 obtain⟨e,aj,M⟩:=GT h0
 have N:sat g _ (Cl b [iV tz,.map (some e)] 125::_):=M
 refine g0<|nP 50 [iV 0,iV 1,iV oz,uV og,iV wy,iV 1] N (fun B _ O=> ?_)
 have P:=O.a.t4
 refine g0<|AF call50 (Da b tz e) P fun _ C=>go [rd 3 0 1 0 6 C]<|AP call304 (Oe oz og wy om om om om om om) C fun _ Q=>g0<|dw (AE [0,1,2,3,4,5] (Tr.an2 6 (AE [7,8,9] (Tr.an 10 (Tr.an 11 (Tr.fl 12 Tr.nil)))) 10 (Tr.an 6 (AE [7,8,9] (Tr.an 11 (Tr.fl 12 Tr.nil)))))) Q fun _ f=>go [rd 5 3 0 1 1 f,rd 5 5 1 1 3 f] ?_
 refine IN ?_ ?_
 ·
  refine AH ?_
  refine AX (d:=22) (.tuple #[.agg #[sV L,iV (-1),iV 0,iV 0,iV 2],bT]) kr rfl (BN (t:=123) (z:= .agg #[sV [],iV 0,iV 0,iV 0,iV 0]) (m:=Ot 19) (x:=Ot 21) (kv:=kv) (ve:=ES) kr underlying123 Wz kr (1,oz,og) kr kr (j:=2) f rfl (.agg #[sV L,iV (-1),iV 0,iV 0,iV 2]) _ hG rfl) ?_
  refine⟨kd [],DE ?_⟩
  refine g0<|nG (fun q_=>pV q_) 127 [sV [],iV 0,iV 0,iV 0,iV 0] f (fun S _ T=>⟨kd [],?_⟩)
  refine sB [sV L,iV (-1),iV 0,iV 0,iV 2] T fun _ q=>⟨kd [],?_⟩
  refine go [rd 8 1 0 4 1 q,rd 10 1 0 1 1 q]<|dw (AE [0,1,2,3,4,5,6,7,8] (Tr.an 9 (Tr.fl 10 (Tr.an 11 (Tr.fl 12 (Tr.an 13 Tr.nil)))))) q fun _ i=>go [rd 11 3 1 0 1 i,rd 11 5 2 0 1 i,rd 11 7 2 4 1 i]<|sG [(1,iV tz)] [sV L,iV tz,iV 0,iV 0,iV 2] i fun _ s=>⟨kd [rd 0 7 2 4 1 s,rd 0 5 2 0 1 s],?_⟩
  refine g0<|sG [(2,iV 0)] [sV L,iV tz,iV 0,iV 0,iV 2] s fun _ D=>⟨kd [rd 0 7 2 4 1 D],?_⟩
  refine g0<|sG [(3,iV wy)] [sV L,iV tz,iV 0,iV wy,iV 2] D fun _ F=>⟨kd [],?_⟩
  refine go [rd 12 1 2 5 1 F]<|sP [(4,iV 3)] [sV L,iV tz,iV 0,iV wy,iV 3] F fun _ G=> ?_
  have U:=G.a.t5
  refine go [rd 17 3 1 0 1 G,.v 17 4 (CD (tz+1))]<|sP [(0,iV (tz+1))] [iV (tz+1),.map (some e)] U fun _ V=>g0<|dw (AE [0,1,2,3,4,5,6] (Tr.an 7 Tr.nil)) V fun _ k=> ?_
  have W:=k.c.t5
  refine go [rd 18 3 0 1 1 k,rd 18 5 2 1 3 k,rd 18 6 1 0 5 k] ?_
  refine AH ?_
  refine BL (t:=123) (m:=Ot 65) (x:=Ot 67) (y:=Ot 68) (kv:=kv) (ve:=ES) kr kr underlying123 Wz (1,oz,og) (L,tz,0,wy,3) kr kr kr W (Au E (1,oz,og) (L,tz,0,wy,3)) rfl ?_
  intro X Y
  refine⟨kd [],IK ?_⟩
  refine g0 ?_
  have Z:sat g X [Gp kv ES e E2,Cl b [iV (tz+1),.map (some e)] 125,Cl S [sV L,iV tz,iV 0,iV wy,iV 3] 127,Cl B [iV 0,iV 1,iV oz,uV og,iV wy,iV 1] 50,R]:=by rw[←hS];exact Y
  have aa:sat g _ (Bj b (tz+1) E2::_):=C5 b (tz+1) E2 e om Z.a.t5
  exact AD _ [] aa.c.a.t2
 refine nG (fun q_=>pV q_) 127 [sV [],iV 0,iV 0,iV 0,iV 0] f (fun ab _ l=>⟨kd [rd 0 5 2 1 3 l,rd 0 3 1 1 1 l],?_⟩)
 refine AH ?_
 refine AX (d:=22) (.tuple #[.agg #[sV L,iV (-1),iV 0,iV 0,iV 2],bT]) kr rfl (BN (t:=123) (z:= .agg #[sV [],iV 0,iV 0,iV 0,iV 0]) (m:=Ot 19) (x:=Ot 21) (kv:=kv) (ve:=ES) kr underlying123 Wz kr (1,oz,og) kr kr (j:=3) l rfl (.agg #[sV L,iV (-1),iV 0,iV 0,iV 2]) _ hG rfl) ?_
 refine⟨kd [],DE ?_⟩
 refine g0<|sB [sV L,iV (-1),iV 0,iV 0,iV 2] l fun _ u=>⟨kd [],?_⟩
 refine go [rd 8 1 0 4 1 u,rd 10 1 0 1 1 u]<|dw (AE [0,1,2,3,4,5,6,7,8] (Tr.an 9 (Tr.fl 10 (Tr.an 11 (Tr.fl 12 (Tr.an 13 Tr.nil)))))) u fun _ o=>go [rd 11 3 1 0 1 o,rd 11 5 2 0 1 o,rd 11 7 2 4 1 o]<|sG [(1,iV tz)] [sV L,iV tz,iV 0,iV 0,iV 2] o fun _ A=>⟨kd [rd 0 7 2 4 1 A,rd 0 5 2 0 1 A],?_⟩
 refine g0<|sG [(2,iV 0)] [sV L,iV tz,iV 0,iV 0,iV 2] A fun _ H=>⟨kd [rd 0 7 2 4 1 H],?_⟩
 refine g0<|sG [(3,iV wy)] [sV L,iV tz,iV 0,iV wy,iV 2] H fun _ I=>⟨kd [],?_⟩
 refine go [rd 12 1 2 5 1 I]<|sP [(4,iV 3)] [sV L,iV tz,iV 0,iV wy,iV 3] I fun _ J=> ?_
 have ac:=J.a.t5
 refine go [rd 17 3 1 0 1 J,.v 17 4 (CD (tz+1))]<|sP [(0,iV (tz+1))] [iV (tz+1),.map (some e)] ac fun _ ad=>g0<|dw (AE [0,1,2,3,4,5,6] (Tr.an 7 Tr.nil)) ad fun _ p=> ?_
 have ae:=p.c.t5
 refine go [rd 18 3 0 1 1 p,rd 18 5 2 1 3 p,rd 18 6 1 0 5 p] ?_
 refine AH ?_
 refine BL (t:=123) (m:=Ot 65) (x:=Ot 67) (y:=Ot 68) (kv:=kv) (ve:=ES) kr kr underlying123 Wz (1,oz,og) (L,tz,0,wy,3) kr kr kr ae (Au E (1,oz,og) (L,tz,0,wy,3)) rfl ?_
 intro af ag
 refine⟨kd [],IK ?_⟩
 refine g0 ?_
 have ah:sat g af [Gp kv ES e E2,Cl b [iV (tz+1),.map (some e)] 125,Cl ab [sV L,iV tz,iV 0,iV wy,iV 3] 127,Cl B [iV 0,iV 1,iV oz,uV og,iV wy,iV 1] 50,R]:=by rw[←hS];exact ag
 have ai:sat g _ (Bj b (tz+1) E2::_):=C5 b (tz+1) E2 e om ah.a.t5
 exact AD _ [] ai.c.a.t2
end Go.Proofs.YtcgkoffnknpgjaaGreatDoor

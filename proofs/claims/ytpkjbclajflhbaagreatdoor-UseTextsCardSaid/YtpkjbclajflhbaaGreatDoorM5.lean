/- Contracts and laws for the proof, joined by a program. No condition. -/
import Derived.Test.YtpkjbclajflhbaaGreatDoorM4
set_option linter.all false
noncomputable section
open Go Go.Conc Go.TM Go.Proofs
set_option maxRecDepth 100000
open Go.IntKind (wrap)
section
namespace Go.Y
set_option maxHeartbeats 0
set_option linter.unusedVariables false
variable {X:XP} {h:LH} {A:Value->LH->Prop}
variable {a b c d e f g i j k l m:Int}{n o p q r s t u v w x y z:Nat}{B C D E F G H I J K L M:Option Addr}
theorem w3705:FX X 10 #[.agg #[a,b,c,d,.slice B n o,.slice C p q,.slice D r s]] h A (.cI 42 #[.agg #[a,b,c,d,.slice B n o,.slice C p q,.slice D r s]] fun i=>bif i != 0 then .rt (.tuple #[.string { data:=#[] },i]) else .cl 44 #[a] fun f=>.unStr f fun g=>.nds [d,.pp 1 3,c,.pp 1 2,b,.pp 1 1,.pp 1 0] (.cl 44 #[b] fun f=>.unStr f fun I=>.nds [d,.pp 1 3,c,.pp 1 2,.pp 1 1,.pp 1 0] (.cl 44 #[c] fun f=>.unStr f fun J=>.nds [d,.pp 1 3,.pp 1 2,.pp 1 1,.pp 1 0] (.cl 44 #[d] fun f=>.unStr f fun K=>.nds [.pp 1 3,.pp 1 2,.pp 1 1,.pp 1 0] (.sem false (Instr.buildSlice 81 4 #[(0,.string g),(1,.string I),(2,.string J),(3,.string K)]) fun f=>.unS f fun j i k=>.nds [.pp 1 3,.pp 1 2,.pp 1 1,.pp 1 0] (.cl 43 #[.string { data:=#[117,115,101] },.slice j i k] fun f=>.unStr f fun g=>.nds [.pp 1 3,.pp 1 2,.pp 1 1,.pp 1 0] (.loop [.string g,.int .i64 0] (fun e=>.popStr e fun g e=>.pi e fun i e=>.unNil e (bif decide (i<(↑n:Int)) then .need (0<=i/\i<(↑n:Int)) (.someA B fun j=>.li ((j.add (i.toNat*2)).add 0) fun v=>.li ((j.add (i.toNat*2)).add 1) fun t=>.cl 45 #[.agg #[v,t]] fun f=>.unStr f fun x=>.sem false (Instr.buildSlice 81 1 #[(0,.string x)]) fun f=>.unS f fun j l k=>.cl 43 #[.string { data:=#[101,120,99,117,115,101] },.slice j l k] fun f=>.unStr f fun u=>.sem false (Sem.bind (eqGuard BinOp.add 9 (Operand.tmp 37) (Operand.tmp 45) (.string g) (.string u)) fun E=>binOp BinOp.add 9 (.string g) (.string u)) fun f=>.unStr f fun g=>.ag [.string g,.int .i64 (wrap .i64 (i+1))]) else .bk [.string g,i])) (fun e=>.popStr e fun g e=>.pi e fun i e=>.unNil e (.loop [.string g,.int .i64 0] (fun e=>.popStr e fun g e=>.pi e fun i e=>.unNil e (bif decide (i<(↑p:Int)) then .need (0<=i/\i<(↑p:Int)) (.someA C fun j=>.li ((j.add (i.toNat*4)).add 0) fun v=>.li ((j.add (i.toNat*4)).add 1) fun t=>.li ((j.add (i.toNat*4)).add 2) fun l=>.loadS ((j.add (i.toNat*4)).add 3) fun m w k=>.cl 45 #[.agg #[v,t]] fun f=>.unStr f fun x=>.nds [.S m w k,.pp 8 3,l,.pp 8 2,.pp 8 0,.val (.string g)] (.cl 44 #[l] fun f=>.unStr f fun u=>.nds [.S m w k,.pp 8 3,.pp 8 2,.pp 8 0,.val (.string g)] (.cl 46 #[.slice m w k] fun f=>.unStr f fun z=>.nds [.pp 8 3,.pp 8 2,.pp 8 0,.val (.string g)] (.sem false (Instr.buildSlice 81 3 #[(0,.string x),(1,.string u),(2,.string z)]) fun f=>.unS f fun j H k=>.nds [.pp 8 3,.pp 8 2,.pp 8 0,.val (.string g)] (.cl 43 #[.string { data:=#[112,97,112,101,114] },.slice j H k] fun f=>.unStr f fun y=>.nds [.pp 8 3,.pp 8 2,.pp 8 0,.val (.string g)] (.sem false (Sem.bind (eqGuard BinOp.add 9 (Operand.tmp 59) (Operand.tmp 70) (.string g) (.string y)) fun E=>binOp BinOp.add 9 (.string g) (.string y)) fun f=>.unStr f fun g=>.nds [.pp 8 3,.pp 8 2,.pp 8 0] (.ag [.string g,.int .i64 (wrap .i64 (i+1))]))))))) else .bk [.string g,i])) (fun e=>.popStr e fun g e=>.pi e fun i e=>.unNil e (.loop [.string g,.int .i64 0] (fun e=>.popStr e fun g e=>.pi e fun i e=>.unNil e (bif decide (i<(↑r:Int)) then .need (0<=i/\i<(↑r:Int)) (.someA D fun j=>.li ((j.add (i.toNat*3)).add 0) fun v=>.li ((j.add (i.toNat*3)).add 1) fun t=>.loadS ((j.add (i.toNat*3)).add 2) fun m l k=>.cl 44 #[v] fun f=>.unStr f fun x=>.nds [.S m l k,.pp 10 2,t,.pp 10 1,.pp 10 0,.val (.string g)] (.cl 44 #[t] fun f=>.unStr f fun u=>.nds [.S m l k,.pp 10 2,.pp 10 1,.pp 10 0,.val (.string g)] (.cl 46 #[.slice m l k] fun f=>.unStr f fun z=>.nds [.pp 10 2,.pp 10 1,.pp 10 0,.val (.string g)] (.sem false (Instr.buildSlice 81 3 #[(0,.string x),(1,.string u),(2,.string z)]) fun f=>.unS f fun j w k=>.nds [.pp 10 2,.pp 10 1,.pp 10 0,.val (.string g)] (.cl 43 #[.string { data:=#[114,101,113,117,101,115,116] },.slice j w k] fun f=>.unStr f fun y=>.nds [.pp 10 2,.pp 10 1,.pp 10 0,.val (.string g)] (.sem false (Sem.bind (eqGuard BinOp.add 9 (Operand.tmp 84) (Operand.tmp 95) (.string g) (.string y)) fun E=>binOp BinOp.add 9 (.string g) (.string y)) fun f=>.unStr f fun g=>.nds [.pp 10 2,.pp 10 1,.pp 10 0] (.ag [.string g,.int .i64 (wrap .i64 (i+1))]))))))) else .bk [.string g,i])) (fun e=>.popStr e fun g e=>.pi e fun i e=>.unNil e (.sem false (Builtin.len_ #[9] 3 #[.string g]) fun f=>.ui f fun i=>bif decide (i>60000) then .rt (.tuple #[.string { data:=#[] },.int .i64 2]) else .rt (.tuple #[.string g,.int .i64 0]))) (fun e=>.popStr e fun g e=>.pi e fun i e=>.unNil e (.rt (.tuple #[.string { data:=#[] },.int .i64 0]))) fun F G=>.fail)) (fun e=>.popStr e fun g e=>.pi e fun i e=>.unNil e (.rt (.tuple #[.string { data:=#[] },.int .i64 0]))) fun F G=>.fail)) (fun e=>.popStr e fun g e=>.pi e fun i e=>.unNil e (.rt (.tuple #[.string { data:=#[] },.int .i64 0]))) fun F G=>.fail))))))):=fk [1,8,10] [⟨0,[(5,.str),(6,.int .i64)],[1],[],[],[]⟩,⟨2,[(5,.str),(7,.int .i64)],[1],[],[],[]⟩,⟨4,[(5,.str),(9,.int .i64)],[1],[],[],[]⟩] [] Tryz.f10
theorem w3707{c0:ByteArray}:FX X 12 #[.string c0] h A (.sem false (Builtin.len_ #[9] 3 #[.string c0]) fun f=>.ui f fun c=>bif decide (c>60000) then .rt (.tuple #[.agg #[.int .i64 0,.int .i64 0,.int .i64 0,.int .i64 0,.slice none 0 0,.slice none 0 0,.slice none 0 0],.int .i64 0,.int .i64 2]) else .cl 51 #[.string c0] fun f=>.unS f fun b c e=>.loop [.int .i64 0,.int .i64 0,.int .i64 (-1),.int .i64 0,.int .i64 0,.int .i64 0,.int .i64 0,.int .i64 0,.slice none 0 0,.slice none 0 0,.slice none 0 0,.int .i64 0,.int .i64 0,.int .i64 0,.int .i64 0,.slice none 0 0,.slice none 0 0,.slice none 0 0] (fun a=>.pi a fun y a=>.pi a fun I a=>.pi a fun s a=>.pi a fun d a=>.pi a fun B a=>.pi a fun C a=>.pi a fun D a=>.pi a fun E a=>.popS a fun n F e a=>.popS a fun o z p a=>.popS a fun K H q a=>.pi a fun g a=>.pi a fun i a=>.pi a fun j a=>.pi a fun k a=>.popS a fun t l v a=>.popS a fun u m w a=>.popS a fun G r x a=>.unNil a (bif decide (d<(↑c:Int)) then .need (0<=d/\d<(↑c:Int)) (.someA b fun b=>.loadStr (b.add (d.toNat*1)) fun J=>.cT 52 #[.string J] fun f a=>.unStr f fun J=>.unCons a fun f a=>.unS f fun b c l0=>.unCons a fun f a=>.unB f fun N=>.unNil a (.sem false (Instr.buildSlice 81 4 #[(0,.string { data:=#[117,115,101] }),(1,.string { data:=#[101,120,99,117,115,101] }),(2,.string { data:=#[112,97,112,101,114] }),(3,.string { data:=#[114,101,113,117,101,115,116] })]) fun f=>.unS f fun g0 p0 m0=>.cI 53 #[.slice g0 p0 m0,.string J] fun R=>.blk (bif !N then .rn [.int .i64 (wrap .i64 (d+1)),.int .i64 3,.int .i64 0,.int .i64 0,.int .i64 0,.int .i64 0,.slice none 0 0,.slice none 0 0,.slice none 0 0] else bif decide (R<s) then .rn [.int .i64 (wrap .i64 (d+1)),.int .i64 3,.int .i64 0,.int .i64 0,.int .i64 0,.int .i64 0,.slice none 0 0,.slice none 0 0,.slice none 0 0] else bif !(R==0)==(d==0) then .rn [.int .i64 (wrap .i64 (d+1)),.int .i64 3,.int .i64 0,.int .i64 0,.int .i64 0,.int .i64 0,.slice none 0 0,.slice none 0 0,.slice none 0 0] else .ag [y,I,B,C,D,E,.slice n F e,.slice o z p,.slice K H q]) (fun a=>.pi a fun S a=>.pi a fun U a=>.pi a fun V a=>.pi a fun W a=>.pi a fun Y a=>.pi a fun Z a=>.popS a fun L a0 e a=>.popS a fun M b0 O a=>.popS a fun d0 q0 Q a=>.unNil a (.cT 54 #[.agg #[g,i,j,k,.slice t l v,.slice u m w,.slice G r x],.string J,.slice b c l0] fun f a=>.unAgg f fun o0=>.pi o0 fun c y0=>.pi y0 fun r0 z0=>.pi z0 fun s0 a1=>.pi a1 fun t0 b1=>.popS b1 fun b u0 i0 c1=>.popS c1 fun e0 v0 j0 d1=>.popS d1 fun f0 x0 k0 e1=>.unNil e1 (.unCons a fun f a=>.unB f fun N=>.unNil a (bif !N then .rn [.int .i64 (wrap .i64 (d+1)),.int .i64 3,s,d,.int .i64 0,.int .i64 0,.int .i64 0,.int .i64 0,.slice none 0 0,.slice none 0 0,.slice none 0 0,g,i,j,k,.slice t l v,.slice u m w,.slice G r x] else .ag [S,U,R,.int .i64 (wrap .i64 (d+1)),V,W,Y,Z,.slice L a0 e,.slice M b0 O,.slice d0 q0 Q,c,r0,s0,t0,.slice b u0 i0,.slice e0 v0 j0,.slice f0 x0 k0])))) (fun a=>.pi a fun c a=>.pi a fun S a=>.pi a fun U a=>.pi a fun V a=>.pi a fun W a=>.pi a fun Y a=>.popS a fun b Z e a=>.popS a fun L a0 O a=>.popS a fun M b0 Q a=>.unNil a (.rn [c,S,s,d,U,V,W,Y,.slice b Z e,.slice L a0 O,.slice M b0 Q,g,i,j,k,.slice t l v,.slice u m w,.slice G r x])) fun f1 g1=>.fail)) else .bk [y,I,s,d,B,C,D,E,.slice n F e,.slice o z p,.slice K H q,g,i,j,k,.slice t l v,.slice u m w,.slice G r x])) (fun a=>.pi a fun y a=>.pi a fun I a=>.pi a fun s a=>.pi a fun d a=>.pi a fun B a=>.pi a fun C a=>.pi a fun D a=>.pi a fun E a=>.popS a fun b F e a=>.popS a fun b z e a=>.popS a fun b H e a=>.pi a fun g a=>.pi a fun i a=>.pi a fun j a=>.pi a fun k a=>.popS a fun b l e a=>.popS a fun n m p a=>.popS a fun o r q a=>.unNil a (bif (↑c:Int)==0 then .rt (.tuple #[.agg #[.int .i64 0,.int .i64 0,.int .i64 0,.int .i64 0,.slice none 0 0,.slice none 0 0,.slice none 0 0],.int .i64 0,.int .i64 3]) else .cI 42 #[.agg #[g,i,j,k,.slice b l e,.slice n m p,.slice o r q]] fun c=>bif c != 0 then .rt (.tuple #[.agg #[.int .i64 0,.int .i64 0,.int .i64 0,.int .i64 0,.slice none 0 0,.slice none 0 0,.slice none 0 0],.int .i64 0,c]) else .rt (.tuple #[.agg #[g,i,j,k,.slice b l e,.slice n m p,.slice o r q],.int .i64 0,.int .i64 0]))) (fun a=>.pi a fun c a=>.pi a fun y a=>.pi a fun I a=>.pi a fun s a=>.pi a fun d a=>.pi a fun B a=>.pi a fun C a=>.pi a fun D a=>.popS a fun b E e a=>.popS a fun n F p a=>.popS a fun o z q a=>.pi a fun H a=>.pi a fun g a=>.pi a fun i a=>.pi a fun j a=>.popS a fun K k v a=>.popS a fun t l w a=>.popS a fun u m x a=>.unNil a (.rt (.tuple #[.agg #[d,B,C,D,.slice b E e,.slice n F p,.slice o z q],c,y]))) fun f1 g1=>.fail):=fk [2,5,13] [⟨0,[(3,.int .i64),(4,.int .i64),(7,.int .i64),(8,.int .i64),(12288,.int .i64),(12289,.int .i64),(12290,.int .i64),(12291,.int .i64),(12292,.slice),(12293,.slice),(12294,.slice),(24576,.int .i64),(24577,.int .i64),(24578,.int .i64),(24579,.int .i64),(24580,.slice),(24581,.slice),(24582,.slice)],[],[],[],[]⟩] [⟨13,[(3,.int .i64),(4,.int .i64),(12288,.int .i64),(12289,.int .i64),(12290,.int .i64),(12291,.int .i64),(12292,.slice),(12293,.slice),(12294,.slice)],[5],[],[],[]⟩] Tryz.f12
theorem w3708:FX X 13 #[.agg #[a,b,c,d,.slice B n o,.slice C p q,.slice D r s],.agg #[e,f,g,i,.slice E t u,.slice F v w,.slice G x y]] h A (.blk (bif a != e then .rn [false] else bif b != f then .rn [false] else bif c != g then .rn [false] else bif d != i then .rn [false] else .cB 55 #[.slice B n o,.slice E t u] fun L=>bif !L then .rn [false] else bif (↑p:Int) != (↑v:Int) then .rn [false] else bif (↑r:Int) != (↑x:Int) then .rn [false] else .ag [false]) (fun k=>.popB k fun L k=>.unNil k (.loop [L,.int .i64 0] (fun k=>.popB k fun L k=>.pi k fun j k=>.unNil k (bif decide (j<(↑p:Int)) then .blk (.need (0<=j/\j<(↑p:Int)) (.someA C fun m=>.li ((m.add (j.toNat*4)).add 0) fun M=>.li ((m.add (j.toNat*4)).add 1) fun N=>.li ((m.add (j.toNat*4)).add 2) fun O=>.loadS ((m.add (j.toNat*4)).add 3) fun U K I=>.need (0<=j/\j<(↑v:Int)) (.someA F fun l=>.li ((l.add (j.toNat*4)).add 0) fun z=>.li ((l.add (j.toNat*4)).add 1) fun H=>.li ((l.add (j.toNat*4)).add 2) fun R=>.loadS ((l.add (j.toNat*4)).add 3) fun Q S J=>.both (.li ((l.add (j.toNat*4)).add 0) fun t0=>.li ((l.add (j.toNat*4)).add 1) fun f0=>.li ((l.add (j.toNat*4)).add 2) fun g0=>.loadS ((l.add (j.toNat*4)).add 3) fun u0 i0 a0=>.ne (.agg #[t0,f0,g0,.slice u0 i0 a0]) (.agg #[z,H,R,.slice Q S J]) (.need (0<=j/\j<(↑v:Int)) (.someA F fun V=>.ne (.pointer (some (V.add (j.toNat*4)))) (.pointer (some (l.add (j.toNat*4)))) (.nds [j,.S F v w,.pp 3 5] (.li ((m.add (j.toNat*4)).add 0) fun j0=>.li ((m.add (j.toNat*4)).add 1) fun k0=>.li ((m.add (j.toNat*4)).add 2) fun l0=>.loadS ((m.add (j.toNat*4)).add 3) fun v0 m0 b0=>.ne (.agg #[j0,k0,l0,.slice v0 m0 b0]) (.agg #[M,N,O,.slice U K I]) (.need (0<=j/\j<(↑p:Int)) (.someA C fun W=>.ne (.pointer (some (W.add (j.toNat*4)))) (.pointer (some (m.add (j.toNat*4)))) (.nds [j,.S C p q,.pp 2 5] (.li ((l.add (j.toNat*4)).add 0) fun o0=>.li ((l.add (j.toNat*4)).add 1) fun p0=>.li ((l.add (j.toNat*4)).add 2) fun q0=>.loadS ((l.add (j.toNat*4)).add 3) fun x0 r0 c0=>.ne (.agg #[o0,p0,q0,.slice x0 r0 c0]) (.agg #[z,H,R,.slice Q S J]) (.need (0<=j/\j<(↑v:Int)) (.someA F fun Y=>.ne (.pointer (some (Y.add (j.toNat*4)))) (.pointer (some (l.add (j.toNat*4)))) (.nds [j,.S F v w,.pp 3 5] (.li ((m.add (j.toNat*4)).add 0) fun s0=>.li ((m.add (j.toNat*4)).add 1) fun d1=>.li ((m.add (j.toNat*4)).add 2) fun e1=>.loadS ((m.add (j.toNat*4)).add 3) fun y0 f1 d0=>.ne (.agg #[s0,d1,e1,.slice y0 f1 d0]) (.agg #[M,N,O,.slice U K I]) (.need (0<=j/\j<(↑p:Int)) (.someA C fun Z=>.ne (.pointer (some (Z.add (j.toNat*4)))) (.pointer (some (m.add (j.toNat*4)))) (.nds [j,.S C p q,.pp 2 5] (.li ((l.add (j.toNat*4)).add 0) fun g1=>.li ((l.add (j.toNat*4)).add 1) fun i1=>.li ((l.add (j.toNat*4)).add 2) fun j1=>.loadS ((l.add (j.toNat*4)).add 3) fun z0 k1 e0=>.ne (.agg #[g1,i1,j1,.slice z0 k1 e0]) (.agg #[z,H,R,.slice Q S J]) (.need (0<=j/\j<(↑v:Int)) (.someA F fun m=>.ne (.pointer (some (m.add (j.toNat*4)))) (.pointer (some (l.add (j.toNat*4)))) (.nds [j,.S F v w,.pp 3 5] (.ag [M,N,O,.slice U K I,z,H,R,.slice Q S J]))))))))))))))))))))) (.li ((l.add (j.toNat*4)).add 0) fun t0=>.li ((l.add (j.toNat*4)).add 1) fun f0=>.li ((l.add (j.toNat*4)).add 2) fun g0=>.loadS ((l.add (j.toNat*4)).add 3) fun u0 i0 a0=>.ne (.agg #[t0,f0,g0,.slice u0 i0 a0]) (.agg #[z,H,R,.slice Q S J]) (.need (0<=j/\j<(↑v:Int)) (.someA F fun V=>.ne (.pointer (some (V.add (j.toNat*4)))) (.pointer (some (l.add (j.toNat*4)))) (.nds [j,.S F v w,.pp 3 5] (.li ((m.add (j.toNat*4)).add 0) fun j0=>.li ((m.add (j.toNat*4)).add 1) fun k0=>.li ((m.add (j.toNat*4)).add 2) fun l0=>.loadS ((m.add (j.toNat*4)).add 3) fun v0 m0 b0=>.ne (.agg #[j0,k0,l0,.slice v0 m0 b0]) (.agg #[M,N,O,.slice U K I]) (.need (0<=j/\j<(↑p:Int)) (.someA C fun W=>.ne (.pointer (some (W.add (j.toNat*4)))) (.pointer (some (m.add (j.toNat*4)))) (.nds [j,.S C p q,.pp 2 5] (.li ((l.add (j.toNat*4)).add 0) fun o0=>.li ((l.add (j.toNat*4)).add 1) fun p0=>.li ((l.add (j.toNat*4)).add 2) fun q0=>.loadS ((l.add (j.toNat*4)).add 3) fun x0 r0 c0=>.ne (.agg #[o0,p0,q0,.slice x0 r0 c0]) (.agg #[z,H,R,.slice Q S J]) (.need (0<=j/\j<(↑v:Int)) (.someA F fun Y=>.ne (.pointer (some (Y.add (j.toNat*4)))) (.pointer (some (l.add (j.toNat*4)))) (.nds [j,.S F v w,.pp 3 5] (.li ((m.add (j.toNat*4)).add 0) fun s0=>.li ((m.add (j.toNat*4)).add 1) fun d1=>.li ((m.add (j.toNat*4)).add 2) fun e1=>.loadS ((m.add (j.toNat*4)).add 3) fun y0 f1 d0=>.ne (.agg #[s0,d1,e1,.slice y0 f1 d0]) (.agg #[M,N,O,.slice U K I]) (.need (0<=j/\j<(↑p:Int)) (.someA C fun Z=>.ne (.pointer (some (Z.add (j.toNat*4)))) (.pointer (some (m.add (j.toNat*4)))) (.nds [j,.S C p q,.pp 2 5] (.li ((l.add (j.toNat*4)).add 0) fun g1=>.li ((l.add (j.toNat*4)).add 1) fun i1=>.li ((l.add (j.toNat*4)).add 2) fun j1=>.loadS ((l.add (j.toNat*4)).add 3) fun z0 k1 e0=>.ne (.agg #[g1,i1,j1,.slice z0 k1 e0]) (.agg #[z,H,R,.slice Q S J]) (.need (0<=j/\j<(↑v:Int)) (.someA F fun m=>.ne (.pointer (some (m.add (j.toNat*4)))) (.pointer (some (l.add (j.toNat*4)))) (.nds [j,.S F v w,.pp 3 5] (.ag [M,N,O,.slice U K I,z,H,R,.slice Q S J])))))))))))))))))))))))) (fun k=>.pi k fun M k=>.pi k fun N k=>.pi k fun O k=>.popS k fun m K I k=>.pi k fun z k=>.pi k fun H k=>.pi k fun R k=>.popS k fun l S J k=>.unNil k (.sem false (Sem.bind (eqGuard BinOp.neq 46 (Operand.tmp 81) (Operand.tmp 83) (.agg #[M,N]) (.agg #[z,H])) fun o1=>binOp BinOp.neq 46 (.agg #[M,N]) (.agg #[z,H])) fun m1=>.unB m1 fun c1=>bif c1 then .rn [false,j] else bif O != R then .rn [false,j] else .cB 30 #[.slice m K I,.slice l S J] fun l1=>bif !l1 then .rn [false,j] else .ag [L,.int .i64 (wrap .i64 (j+1))])) (fun k=>.pi k fun M k=>.pi k fun N k=>.pi k fun O k=>.popS k fun m K I k=>.pi k fun z k=>.pi k fun H k=>.pi k fun R k=>.popS k fun m S I k=>.unNil k (.rn [L,j])) fun a1 b1=>.fail else .bk [L,j])) (fun k=>.popB k fun L k=>.pi k fun j k=>.unNil k (.loop [L,.int .i64 0] (fun k=>.popB k fun L k=>.pi k fun j k=>.unNil k (bif decide (j<(↑r:Int)) then .blk (.need (0<=j/\j<(↑r:Int)) (.someA D fun m=>.li ((m.add (j.toNat*3)).add 0) fun M=>.li ((m.add (j.toNat*3)).add 1) fun N=>.loadS ((m.add (j.toNat*3)).add 2) fun U O I=>.need (0<=j/\j<(↑x:Int)) (.someA G fun l=>.li ((l.add (j.toNat*3)).add 0) fun K=>.li ((l.add (j.toNat*3)).add 1) fun z=>.loadS ((l.add (j.toNat*3)).add 2) fun Q H J=>.both (.li ((l.add (j.toNat*3)).add 0) fun R=>.li ((l.add (j.toNat*3)).add 1) fun S=>.loadS ((l.add (j.toNat*3)).add 2) fun u0 t0 a0=>.ne (.agg #[R,S,.slice u0 t0 a0]) (.agg #[K,z,.slice Q H J]) (.need (0<=j/\j<(↑x:Int)) (.someA G fun V=>.ne (.pointer (some (V.add (j.toNat*3)))) (.pointer (some (l.add (j.toNat*3)))) (.nds [j,.S G x y,.pp 3 6] (.li ((m.add (j.toNat*3)).add 0) fun f0=>.li ((m.add (j.toNat*3)).add 1) fun g0=>.loadS ((m.add (j.toNat*3)).add 2) fun v0 i0 b0=>.ne (.agg #[f0,g0,.slice v0 i0 b0]) (.agg #[M,N,.slice U O I]) (.need (0<=j/\j<(↑r:Int)) (.someA D fun W=>.ne (.pointer (some (W.add (j.toNat*3)))) (.pointer (some (m.add (j.toNat*3)))) (.nds [j,.S D r s,.pp 2 6] (.li ((l.add (j.toNat*3)).add 0) fun j0=>.li ((l.add (j.toNat*3)).add 1) fun k0=>.loadS ((l.add (j.toNat*3)).add 2) fun x0 l0 c0=>.ne (.agg #[j0,k0,.slice x0 l0 c0]) (.agg #[K,z,.slice Q H J]) (.need (0<=j/\j<(↑x:Int)) (.someA G fun Y=>.ne (.pointer (some (Y.add (j.toNat*3)))) (.pointer (some (l.add (j.toNat*3)))) (.nds [j,.S G x y,.pp 3 6] (.li ((m.add (j.toNat*3)).add 0) fun m0=>.li ((m.add (j.toNat*3)).add 1) fun o0=>.loadS ((m.add (j.toNat*3)).add 2) fun y0 p0 d0=>.ne (.agg #[m0,o0,.slice y0 p0 d0]) (.agg #[M,N,.slice U O I]) (.need (0<=j/\j<(↑r:Int)) (.someA D fun Z=>.ne (.pointer (some (Z.add (j.toNat*3)))) (.pointer (some (m.add (j.toNat*3)))) (.nds [j,.S D r s,.pp 2 6] (.li ((l.add (j.toNat*3)).add 0) fun q0=>.li ((l.add (j.toNat*3)).add 1) fun r0=>.loadS ((l.add (j.toNat*3)).add 2) fun z0 s0 e0=>.ne (.agg #[q0,r0,.slice z0 s0 e0]) (.agg #[K,z,.slice Q H J]) (.need (0<=j/\j<(↑x:Int)) (.someA G fun m=>.ne (.pointer (some (m.add (j.toNat*3)))) (.pointer (some (l.add (j.toNat*3)))) (.nds [j,.S G x y,.pp 3 6] (.ag [M,N,.slice U O I,K,z,.slice Q H J]))))))))))))))))))))) (.li ((l.add (j.toNat*3)).add 0) fun R=>.li ((l.add (j.toNat*3)).add 1) fun S=>.loadS ((l.add (j.toNat*3)).add 2) fun u0 t0 a0=>.ne (.agg #[R,S,.slice u0 t0 a0]) (.agg #[K,z,.slice Q H J]) (.need (0<=j/\j<(↑x:Int)) (.someA G fun V=>.ne (.pointer (some (V.add (j.toNat*3)))) (.pointer (some (l.add (j.toNat*3)))) (.nds [j,.S G x y,.pp 3 6] (.li ((m.add (j.toNat*3)).add 0) fun f0=>.li ((m.add (j.toNat*3)).add 1) fun g0=>.loadS ((m.add (j.toNat*3)).add 2) fun v0 i0 b0=>.ne (.agg #[f0,g0,.slice v0 i0 b0]) (.agg #[M,N,.slice U O I]) (.need (0<=j/\j<(↑r:Int)) (.someA D fun W=>.ne (.pointer (some (W.add (j.toNat*3)))) (.pointer (some (m.add (j.toNat*3)))) (.nds [j,.S D r s,.pp 2 6] (.li ((l.add (j.toNat*3)).add 0) fun j0=>.li ((l.add (j.toNat*3)).add 1) fun k0=>.loadS ((l.add (j.toNat*3)).add 2) fun x0 l0 c0=>.ne (.agg #[j0,k0,.slice x0 l0 c0]) (.agg #[K,z,.slice Q H J]) (.need (0<=j/\j<(↑x:Int)) (.someA G fun Y=>.ne (.pointer (some (Y.add (j.toNat*3)))) (.pointer (some (l.add (j.toNat*3)))) (.nds [j,.S G x y,.pp 3 6] (.li ((m.add (j.toNat*3)).add 0) fun m0=>.li ((m.add (j.toNat*3)).add 1) fun o0=>.loadS ((m.add (j.toNat*3)).add 2) fun y0 p0 d0=>.ne (.agg #[m0,o0,.slice y0 p0 d0]) (.agg #[M,N,.slice U O I]) (.need (0<=j/\j<(↑r:Int)) (.someA D fun Z=>.ne (.pointer (some (Z.add (j.toNat*3)))) (.pointer (some (m.add (j.toNat*3)))) (.nds [j,.S D r s,.pp 2 6] (.li ((l.add (j.toNat*3)).add 0) fun q0=>.li ((l.add (j.toNat*3)).add 1) fun r0=>.loadS ((l.add (j.toNat*3)).add 2) fun z0 s0 e0=>.ne (.agg #[q0,r0,.slice z0 s0 e0]) (.agg #[K,z,.slice Q H J]) (.need (0<=j/\j<(↑x:Int)) (.someA G fun m=>.ne (.pointer (some (m.add (j.toNat*3)))) (.pointer (some (l.add (j.toNat*3)))) (.nds [j,.S G x y,.pp 3 6] (.ag [M,N,.slice U O I,K,z,.slice Q H J])))))))))))))))))))))))) (fun k=>.pi k fun M k=>.pi k fun N k=>.popS k fun m O I k=>.pi k fun K k=>.pi k fun z k=>.popS k fun l H J k=>.unNil k (bif M != K then .rn [false,j] else bif N != z then .rn [false,j] else .cB 30 #[.slice m O I,.slice l H J] fun c1=>bif !c1 then .rn [false,j] else .ag [L,.int .i64 (wrap .i64 (j+1))])) (fun k=>.pi k fun M k=>.pi k fun N k=>.popS k fun m O I k=>.pi k fun K k=>.pi k fun z k=>.popS k fun m H I k=>.unNil k (.rn [L,j])) fun a1 b1=>.fail else .bk [L,j])) (fun k=>.popB k fun L k=>.pi k fun j k=>.unNil k (.rt (.bool true))) (fun k=>.popB k fun L k=>.pi k fun j k=>.unNil k (.rt (.bool L))) fun a1 b1=>.fail)) (fun k=>.popB k fun L k=>.pi k fun j k=>.unNil k (.rt (.bool L))) fun a1 b1=>.fail)) (fun k=>.popB k fun L k=>.unNil k (.rt (.bool L))) fun a1 b1=>.fail):=fk [2,3,6,7,9,10] [⟨0,[(4,.bool),(5,.int .i64)],[2,3],[],[],[]⟩,⟨2,[(4,.bool),(8,.int .i64)],[2,3],[],[],[]⟩] [{ id:=7,slots:=[(28672,.int .i64),(28673,.int .i64),(28674,.int .i64),(28675,.slice),(32768,.int .i64),(32769,.int .i64),(32770,.int .i64),(32771,.slice)],ro:=[2,3],outs:=[],pps:=[6,7] },{ id:=13,slots:=[(40960,.int .i64),(40961,.int .i64),(40962,.slice),(45056,.int .i64),(45057,.int .i64),(45058,.slice)],ro:=[2,3],outs:=[],pps:=[9,10] },⟨3,[(4,.bool)],[2,3],[],[],[]⟩] Tryz.f13
def n3732(u v w x:Int)(m:Option Addr)(l k:Nat)(p:Option Addr)(o n:Nat)(F:Option Addr)(E D:Nat)(Q:ByteArray)(N:Option Addr)(J m0:Nat):T:=.sem false (Sem.bind (eqGuard BinOp.eql 9 (Operand.tmp 20) (Operand.const (.string { data:=#[117,115,101] })) (.string Q) (.string { data:=#[117,115,101] })) fun c0=>binOp BinOp.eql 9 (.string Q) (.string { data:=#[117,115,101] })) fun b=>.unB b fun s=>bif s then .cT 107 #[.slice N J m0] fun b a=>.unS b fun d c e=>.unCons a fun b a=>.unB b fun s=>.unNil a (.blk (bif !s then .rn [false,u,v,w,x,.slice m l k,.slice p o n,.slice F E D] else bif (↑c:Int) != 4 then .rn [false,u,v,w,x,.slice m l k,.slice p o n,.slice F E D] else .ag [false,.int .i64 0,.int .i64 0,.int .i64 0,.int .i64 0,.slice none 0 0,.slice none 0 0,.slice none 0 0]) (fun a=>.popB a fun s a=>.pi a fun g a=>.pi a fun i a=>.pi a fun f a=>.pi a fun t a=>.popS a fun y B j a=>.popS a fun r C q a=>.popS a fun z G M a=>.unNil a (.need ((0:Int)<=0/\0<(↑c:Int)) (.someA d fun K=>.li (K.add 0) fun U=>.need ((0:Int)<=1/\1<(↑c:Int)) (.someA d fun H=>.li (H.add 1) fun O=>.need ((0:Int)<=2/\2<(↑c:Int)) (.someA d fun R=>.li (R.add 2) fun Z=>.need ((0:Int)<=3/\3<(↑c:Int)) (.someA d fun L=>.li (L.add 3) fun V=>.li (L.add 3) fun o0=>.ne o0 V (.need ((0:Int)<=3/\3<(↑c:Int)) (.someA d fun j0=>.ne (.pointer (some (j0.add 3))) (.pointer (some (L.add 3))) (.nS d c e (.li (R.add 2) fun p0=>.ne p0 Z (.need ((0:Int)<=2/\2<(↑c:Int)) (.someA d fun k0=>.ne (.pointer (some (k0.add 2))) (.pointer (some (R.add 2))) (.nS d c e (.li (H.add 1) fun q0=>.ne q0 O (.need ((0:Int)<=1/\1<(↑c:Int)) (.someA d fun e0=>.ne (.pointer (some (e0.add 1))) (.pointer (some (H.add 1))) (.nS d c e (.li (L.add 3) fun r0=>.ne r0 V (.need ((0:Int)<=3/\3<(↑c:Int)) (.someA d fun f0=>.ne (.pointer (some (f0.add 3))) (.pointer (some (L.add 3))) (.nS d c e (.li (R.add 2) fun s0=>.ne s0 Z (.need ((0:Int)<=2/\2<(↑c:Int)) (.someA d fun g0=>.ne (.pointer (some (g0.add 2))) (.pointer (some (R.add 2))) (.nS d c e (.li (L.add 3) fun t0=>.ne t0 V (.need ((0:Int)<=3/\3<(↑c:Int)) (.someA d fun i0=>.ne (.pointer (some (i0.add 3))) (.pointer (some (L.add 3))) (.nS d c e (.rt (.tuple #[.agg #[U,O,Z,V,.slice m l k,.slice p o n,.slice F E D],true]))))))))))))))))))))))))))))))) (fun a=>.popB a fun s a=>.pi a fun c a=>.pi a fun g a=>.pi a fun i a=>.pi a fun f a=>.popS a fun d t e a=>.popS a fun y B j a=>.popS a fun r C q a=>.unNil a (.rt (.tuple #[.agg #[c,g,i,f,.slice d t e,.slice y B j,.slice r C q],s]))) fun u0 v0=>.fail) else .sem false (Sem.bind (eqGuard BinOp.eql 9 (Operand.tmp 20) (Operand.const (.string { data:=#[101,120,99,117,115,101] })) (.string Q) (.string { data:=#[101,120,99,117,115,101] })) fun c0=>binOp BinOp.eql 9 (.string Q) (.string { data:=#[101,120,99,117,115,101] })) fun b=>.unB b fun s=>bif s then bif (↑J:Int) != 1 then .rt (.tuple #[.agg #[u,v,w,x,.slice m l k,.slice p o n,.slice F E D],false]) else .need ((0:Int)<=0/\0<(↑J:Int)) (.someA N fun d=>.loadStr (d.add 0) fun I=>.cT 108 #[.string I] fun b a=>.unAgg b fun Y=>.pi Y fun c a0=>.pi a0 fun g b0=>.unNil b0 (.unCons a fun b a=>.unB b fun s=>.unNil a (.both (.sem false (Instr.buildSlice 22 0 #[]) fun b=>.unS b fun d i e=>.nds [.val (.agg #[c,g]),.S m l k,.pp 3 4] (.both (.sem false (Builtin.append_ #[22,22] 22 #[.slice d i e,.slice m l k]) fun b=>.unS b fun d f e=>.nds [.val (.agg #[c,g]),.pp 3 4] (.sem false (Instr.buildSlice 22 1 #[(0,.agg #[c,g])]) fun b=>.unS b fun y c j=>.np 3 4 (.sem false (Builtin.append_ #[22,22] 22 #[.slice d f e,.slice y c j]) fun b=>.unS b fun d c e=>.np 3 4 (.rt (.tuple #[.agg #[u,v,w,x,.slice d c e,.slice p o n,.slice F E D],s]))))) (.sem false (Instr.buildSlice 22 1 #[(0,.agg #[c,g])]) fun b=>.unS b fun y c j=>.nds [.S m l k,.pp 3 4] (.sem false (Builtin.append_ #[22,22] 22 #[.slice d i e,.slice m l k]) fun b=>.unS b fun d f e=>.np 3 4 (.sem false (Builtin.append_ #[22,22] 22 #[.slice d f e,.slice y c j]) fun b=>.unS b fun d c e=>.np 3 4 (.rt (.tuple #[.agg #[u,v,w,x,.slice d c e,.slice p o n,.slice F E D],s]))))))) (.sem false (Instr.buildSlice 22 1 #[(0,.agg #[c,g])]) fun b=>.unS b fun d c e=>.nds [.S m l k,.pp 3 4] (.sem false (Instr.buildSlice 22 0 #[]) fun b=>.unS b fun y i j=>.nds [.S m l k,.pp 3 4] (.sem false (Builtin.append_ #[22,22] 22 #[.slice y i j,.slice m l k]) fun b=>.unS b fun r f q=>.np 3 4 (.sem false (Builtin.append_ #[22,22] 22 #[.slice r f q,.slice d c e]) fun b=>.unS b fun d c e=>.np 3 4 (.rt (.tuple #[.agg #[u,v,w,x,.slice d c e,.slice p o n,.slice F E D],s]))))))))) else bif (↑J:Int) != 3 then .rt (.tuple #[.agg #[u,v,w,x,.slice m l k,.slice p o n,.slice F E D],false]) else .need ((0:Int)<=1/\1<(↑J:Int)) (.someA N fun d=>.loadStr (d.add 1) fun I=>.cT 109 #[.string I] fun b a=>.ui b fun c=>.unCons a fun b a=>.unB b fun s=>.unNil a (.need ((0:Int)<=2/\2<(↑J:Int)) (.someA N fun d=>.loadStr (d.add 2) fun I=>.cT 110 #[.string I] fun b a=>.unS b fun d g e=>.unCons a fun b a=>.unB b fun d0=>.unNil a (.sem false (Sem.bind (eqGuard BinOp.eql 9 (Operand.tmp 94) (Operand.const (.string { data:=#[112,97,112,101,114] })) (.string Q) (.string { data:=#[112,97,112,101,114] })) fun c0=>binOp BinOp.eql 9 (.string Q) (.string { data:=#[112,97,112,101,114] })) fun b=>.unB b fun l0=>bif l0 then .need ((0:Int)<=0/\0<(↑J:Int)) (.someA N fun y=>.loadStr (y.add 0) fun I=>.cT 108 #[.string I] fun b a=>.unAgg b fun Y=>.pi Y fun i a0=>.pi a0 fun f b0=>.unNil b0 (.unCons a fun b a=>.unB b fun W=>.unNil a (.blk (.both (.sem false (Instr.buildSlice 23 0 #[]) fun b=>.unS b fun r t j=>.nds [.val (.agg #[i,f,c,.slice d g e]),.S d g e,c,.val (.agg #[i,f]),.S p o n,.pp 3 5] (.both (.sem false (Builtin.append_ #[23,23] 23 #[.slice r t j,.slice p o n]) fun b=>.unS b fun z B q=>.nds [.val (.agg #[i,f,c,.slice d g e]),.S d g e,c,.val (.agg #[i,f]),.pp 3 5] (.sem false (Instr.buildSlice 23 1 #[(0,.agg #[i,f,c,.slice d g e])]) fun b=>.unS b fun K C M=>.nds [.S d g e,c,.val (.agg #[i,f]),.pp 3 5] (.sem false (Builtin.append_ #[23,23] 23 #[.slice z B q,.slice K C M]) fun b=>.unS b fun H G S=>.nds [.S d g e,c,.val (.agg #[i,f]),.pp 3 5] (.ag [u,v,w,x,.slice m l k,.slice H G S,.slice F E D])))) (.sem false (Instr.buildSlice 23 1 #[(0,.agg #[i,f,c,.slice d g e])]) fun b=>.unS b fun z B q=>.nds [.S d g e,c,.val (.agg #[i,f]),.S p o n,.pp 3 5] (.sem false (Builtin.append_ #[23,23] 23 #[.slice r t j,.slice p o n]) fun b=>.unS b fun K C M=>.nds [.S d g e,c,.val (.agg #[i,f]),.pp 3 5] (.sem false (Builtin.append_ #[23,23] 23 #[.slice K C M,.slice z B q]) fun b=>.unS b fun H G S=>.nds [.S d g e,c,.val (.agg #[i,f]),.pp 3 5] (.ag [u,v,w,x,.slice m l k,.slice H G S,.slice F E D])))))) (.sem false (Instr.buildSlice 23 1 #[(0,.agg #[i,f,c,.slice d g e])]) fun b=>.unS b fun r t j=>.nds [.S d g e,c,.val (.agg #[i,f]),.S p o n,.pp 3 5] (.sem false (Instr.buildSlice 23 0 #[]) fun b=>.unS b fun z B q=>.nds [.S d g e,c,.val (.agg #[i,f]),.S p o n,.pp 3 5] (.sem false (Builtin.append_ #[23,23] 23 #[.slice z B q,.slice p o n]) fun b=>.unS b fun K C M=>.nds [.S d g e,c,.val (.agg #[i,f]),.pp 3 5] (.sem false (Builtin.append_ #[23,23] 23 #[.slice K C M,.slice r t j]) fun b=>.unS b fun H G S=>.nds [.S d g e,c,.val (.agg #[i,f]),.pp 3 5] (.ag [u,v,w,x,.slice m l k,.slice H G S,.slice F E D])))))) (fun a=>.pi a fun c a=>.pi a fun t a=>.pi a fun B a=>.pi a fun C a=>.popS a fun d G e a=>.popS a fun r U j a=>.popS a fun z O q a=>.unNil a (bif s then bif d0 then .rt (.tuple #[.agg #[c,t,B,C,.slice d G e,.slice r U j,.slice z O q],W]) else .rt (.tuple #[.agg #[c,t,B,C,.slice d G e,.slice r U j,.slice z O q],false]) else .rt (.tuple #[.agg #[c,t,B,C,.slice d G e,.slice r U j,.slice z O q],false]))) (fun a=>.pi a fun c a=>.pi a fun c a=>.pi a fun c a=>.pi a fun c a=>.popS a fun d c e a=>.popS a fun d c e a=>.popS a fun d c e a=>.unNil a (.rt (.tuple #[.agg #[.int .i64 0,.int .i64 0,.int .i64 0,.int .i64 0,.slice none 0 0,.slice none 0 0,.slice none 0 0],false]))) fun u0 v0=>.fail))) else .need ((0:Int)<=0/\0<(↑J:Int)) (.someA N fun y=>.loadStr (y.add 0) fun I=>.cT 109 #[.string I] fun b a=>.ui b fun i=>.unCons a fun b a=>.unB b fun W=>.unNil a (.sem false (Instr.buildSlice 24 0 #[]) fun b=>.unS b fun r f j=>.sem false (Builtin.append_ #[24,24] 24 #[.slice r f j,.slice F E D]) fun b=>.unS b fun z t q=>.sem false (Instr.buildSlice 24 1 #[(0,.agg #[i,c,.slice d g e])]) fun b=>.unS b fun d c e=>.sem false (Builtin.append_ #[24,24] 24 #[.slice z t q,.slice d c e]) fun b=>.unS b fun d c e=>bif s then bif d0 then .rt (.tuple #[.agg #[u,v,w,x,.slice m l k,.slice p o n,.slice d c e],W]) else .rt (.tuple #[.agg #[u,v,w,x,.slice m l k,.slice p o n,.slice d c e],false]) else .rt (.tuple #[.agg #[u,v,w,x,.slice m l k,.slice p o n,.slice d c e],false])))))))
theorem w3732(u_0 u_1 u_2 u_3:Int)(u_4p:Option Addr)(u_4n u_4c:Nat)(u_5p:Option Addr)(u_5n u_5c:Nat)(u_6p:Option Addr)(u_6n u_6c:Nat)(word:ByteArray)(fp:Option Addr)(fn fc:Nat):FX X 54 #[.agg #[u_0,u_1,u_2,u_3,.slice u_4p u_4n u_4c,.slice u_5p u_5n u_5c,.slice u_6p u_6n u_6c],.string word,.slice fp fn fc] h A (n3732 u_0 u_1 u_2 u_3 u_4p u_4n u_4c u_5p u_5n u_5c u_6p u_6n u_6c word fp fn fc):=fk [3,6,10,16] [] [⟨6,[(7,.bool),(28672,.int .i64),(28673,.int .i64),(28674,.int .i64),(28675,.int .i64),(28676,.slice),(28677,.slice),(28678,.slice)],[3],[],[],[]⟩,⟨21,[(16384,.int .i64),(16385,.int .i64),(16386,.int .i64),(16387,.int .i64),(16388,.slice),(16389,.slice),(16390,.slice)],[6,10,16],[],[],[]⟩] Tryz.f54
theorem w3759{f:ByteArray}:FX X 110 #[.string f] h A (.cT 158 #[.string f] fun a b=>.unS a fun c e d=>.unCons b fun a b=>.unB a fun g=>.unNil b (.cT 107 #[.slice c e d] fun a b=>.unS a fun c e d=>.unCons b fun a b=>.unB a fun i=>.unNil b (bif g then .rt (.tuple #[.slice c e d,i]) else .rt (.tuple #[.slice c e d,false])))):=fk [] [] [] Tryz.f110
end Go.Y
end
section
namespace Go.TM.Tp
open Go.Lib (decDigits)
theorem lineTo_len{B:Nat}{w:Bs}:∀ {fs:List Bs},(∀ f∈fs,f.length<=B)->(lineTo w fs).length<=w.length+1+fs.length*(B+1):=by
 intro fs h;have key:∀ fs:List Bs,(∀ f∈fs,f.length<=B)->(fs.flatMap fun f=>f++[59]).length<=fs.length*(B+1):=by
  intro fs
  induction fs with
  | nil=>intro _;simp
  | cons f fs b =>
   intro h;have c:=b fun x a=>h x (List.mem_cons_of_mem _ a);have d:=h f (by simp);rw[List.flatMap_cons,List.length_append,List.length_append,List.length_cons,List.length_cons,List.length_nil,Nat.succ_mul];omega
 have:=key fs h;unfold lineTo;rw[List.length_append,List.length_cons];omega
theorem Hp{B:Nat}{c:UInt8}:∀ {l:List Bs},(∀ f∈l,f.length<=B)->(joinS c l).length<=l.length*(B+1)
 | [],_=>by simp[joinS]
 | [a],h=>by have:=h a (by simp);simp[joinS];omega
 | a::b::l,h=>by
  have e:=Hp (c:=c) (l:=b::l) fun x d=>h x (List.mem_cons_of_mem _ d);have g:=h a (by simp);show (a++c::joinS c (b::l)).length<=(b::l).length.succ*(B+1);rw[List.length_append,List.length_cons,Nat.succ_mul];omega
end Go.TM.Tp
namespace Go.Y.Txt
open Go.TM.Tp
open Go.Lib (decDigits)
attribute [local irreducible] T.wp CV FWK
variable {h:LH}{p:Option Addr}{n c:Nat}
theorem c3724{x:Span}(l:Fits x.first)(m:Fits x.last):Gr Tryz.prog 45 #[.agg #[.int .i64 x.first,.int .i64 x.last]] h fun r _=>r=.string (str (da x)):=by
 obtain⟨a,b⟩:=x;obtain⟨a,rfl⟩ : ∃ n:Nat,a=n:=⟨a.toNat,by have:=l.1;simp only at this;omega⟩
 obtain⟨b,rfl⟩ : ∃ n:Nat,b=n:=⟨b.toNat,by have:=m.1;simp only at this;omega⟩
 have o:a<1000000000:=by have:=l.2;simp only at this;omega
 have hb:b<1000000000:=by have:=m.2;simp only at this;omega
 have t:=Ds (k:=9) (n:=a) (by omega);have u:=Ds (k:=9) (n:=b) (by omega);refine w3724 Qk ?_;rw[Uo];simp only[Int.toNat_natCast];refine Ql (fun e=>?_) (fun e=>?_)
 ·have:a=b:=by
   have:(a:Int)=b:=by simpa using e
   omega
  rw[if_pos this];refine t_gr (c3723 a o) ?_;rintro _ p c rfl;refine Qj ?_;exact Qa ⟨c,rfl⟩
 ·have j:¬ a=b:=fun s=>by subst s;simp at e
  rw[if_neg j];refine t_gr (c3723 a o) ?_;rintro _ p c rfl;refine Qj ?_;refine gZ ?_;have d:∀ {x y:Operand} {Q:Leaf->LH->Prop} {h:LH} {K:Value->T},(K (.string (str (decDigits a++[45])))).wp X0 Tryz.prog Q h->(T.sem false (Sem.bind (eqGuard .add 9 x y (.string (str (decDigits a))) (.string (str [45]))) fun _=>binOp .add 9 (.string (str (decDigits a))) (.string (str [45]))) K).wp X0 Tryz.prog Q h:=fun i=>Zi undS (by simp;omega) i;have f:∀ {x y:Operand} {Q:Leaf->LH->Prop} {h:LH} {K:Value->T},(K (.string (str (decDigits a++45::decDigits b)))).wp X0 Tryz.prog Q h->(T.sem false (Sem.bind (eqGuard .add 9 x y (.string (str (decDigits a++[45]))) (.string (str (decDigits b)))) fun _=>binOp .add 9 (.string (str (decDigits a++[45]))) (.string (str (decDigits b)))) K).wp X0 Tryz.prog Q h:=fun i=>Zi undS (by simp;omega) (by simpa using i);refine Jw ?_ ?_
  ·refine d (Qj ?_);refine gZ ?_;refine t_gr (c3723 b hb) ?_;rintro _ q g rfl;refine Qj ?_;refine gZ ?_;refine f (Qj ?_);refine gZ ?_;exact Qa ⟨LH.le_trans c g,rfl⟩
  ·refine t_gr (c3723 b hb) ?_;rintro _ q g rfl;refine Qj ?_;refine gZ ?_;refine d (Qj ?_);refine gZ ?_;refine f (Qj ?_);refine gZ ?_;exact Qa ⟨LH.le_trans c g,rfl⟩
theorem c3722{w:Bs}{fs:List Bs}(s:BsS h p n c fs)(hw:w.length<=2^20)(C:fs.length<=2^20)(l:∀ f∈fs,f.length<=2^20):Pu Tryz.prog 43 #[.string (str w),.slice p n c] h (.string (str (lineS w fs))):=by
 refine w3722 Qk ?_;have D:=s.2.1;refine Zi (b:=[58]) undS (by simp;omega) (Qj ?_);have small:∀ i,(lineTo w (fs.take i)).length<=2^43:=fun i=>by
  have v:=lineTo_len (B:=2^20) (w:=w) (fs:=fs.take i) fun f j=>l f (List.mem_of_mem_take j);have g:(fs.take i).length<=2^20:=by rw[List.length_take];omega
  have y:(fs.take i).length*(2^20+1)<=2^20*(2^20+1):=Nat.mul_le_mul_right _ g;omega
 refine Ja (fun m e h'=>h=h'/\∃ i:Nat,e=[.string (str (lineTo w (fs.take i))),.int .i64 i]/\i<=n/\m=n-i) (fun e h'=>h=h'/\∃ i:Int,e=[.string (str (lineTo w fs)),.int .i64 i]) ⟨rfl,0,by simp[lineTo],Nat.zero_le _,rfl⟩ ?_ ?_
 ·rintro Y m e _ r ⟨rfl,i,rfl,A,rfl⟩;refine Jd ?_;refine yJ (fun o=>?_) (fun o=>?_)
  ·have k:=List.getElem?_eq_getElem (show i<fs.length by omega);have d:=List.getElem_mem (show i<fs.length by omega);generalize fs[i]=x at k d;obtain⟨a,z,q⟩:=s.at k;have t:0<=(i:Int)/\(i:Int)<(n:Int):=by omega
   have E:=small i;have u:=l x d;refine gZ ?_;refine Qt (by rw[Int.toNat_natCast];exact q) ?_;refine Zi undS (by omega) (Qj ?_);refine Zi (b:=[59]) undS (by simp;omega) (Qj ?_);refine Qi (r (n-(i+1)) _ _ (by omega) ⟨rfl,i+1,?_,by omega,rfl⟩);rw[Qh (by omega) (by omega),Jr k,lineTo_snoc];rfl
  ·have g:=small i;rw[List.take_of_length_le (by omega)];exact gH ⟨rfl,_,rfl⟩
 ·rintro e _ ⟨rfl,i,rfl⟩;have g:=small fs.length;rw[List.take_of_length_le (Nat.le_refl _)]at g;refine Jd ?_;refine gZ ?_;refine Zi (b:=[10]) undS (by simp;omega) (Qj ?_);refine Qa ⟨?_,rfl⟩;rw[lineTo_end]
theorem c3742{l:List Bs}(s:BsS h p n c l)(G:l.length<=2^20)(u:∀ f∈l,f.length<=2^20):Pu Tryz.prog 92 #[.slice p n c] h (.string (str (joinS 44 l))):=by
 refine w3742 Qk ?_;have H:=s.2.1;have small:∀ i,(joinS 44 (l.take i)).length<=2^43:=fun i=>by
  have C:=Hp (B:=2^20) (c:=44) (l:=l.take i) fun f m=>u f (List.mem_of_mem_take m);have j:(l.take i).length<=2^20:=by rw[List.length_take];omega
  have D:(l.take i).length*(2^20+1)<=2^20*(2^20+1):=Nat.mul_le_mul_right _ j;omega
 refine Ja (fun v g h'=>h=h'/\∃ i:Nat,g=[.string (str (joinS 44 (l.take i))),.int .i64 i]/\i<=n/\v=n-i) (fun g h'=>h=h'/\∃ i:Int,g=[.string (str (joinS 44 l)),.int .i64 i]) ⟨rfl,0,rfl,Nat.zero_le _,rfl⟩ ?_ ?_
 ·rintro Y v g _ t ⟨rfl,i,rfl,F,rfl⟩;refine Jd ?_;refine yJ (fun w=>?_) (fun w=>?_)
  ·have k:=List.getElem?_eq_getElem (show i<l.length by omega);have d:=List.getElem_mem (show i<l.length by omega);generalize l[i]=x at k d;obtain⟨a,E,r⟩:=s.at k;have z:0<=(i:Int)/\(i:Int)<(n:Int):=by omega
   have I:=small i;have A:=u x d;refine t_if (fun y=>?_) (fun y=>?_)
   ·refine Zi (b:=[44]) undS (by simp;omega) (Qj ?_);refine gZ ?_;refine Qt (by rw[Int.toNat_natCast];exact r) ?_;refine Zi undS (by simp;omega) (Qj ?_);refine Qi (t (n-(i+1)) _ _ (by omega) ⟨rfl,i+1,?_,by omega,rfl⟩);have q:l.take i≠[]:=fun e=>by
     have j:(l.take i).length=0:=by rw[e];rfl
     rw[List.length_take]at j;omega
    rw[Qh (by omega) (by omega),Jr k,Uc q,List.append_assoc];rfl
   ·have o:i=0:=by omega
    subst o;refine gZ ?_;refine Qt (by rw[Int.toNat_natCast];exact r) ?_;refine Zi (a:=[]) undS (by simp;omega) (Qj ?_);refine Qi (t (n-(0+1)) _ _ (by omega) ⟨rfl,0+1,?_,by omega,rfl⟩);rw[Qh (by omega) (by omega),Jr k];rfl
  ·have j:=small i;rw[List.take_of_length_le (by omega)];exact gH ⟨rfl,_,rfl⟩
 ·rintro g _ ⟨rfl,i,rfl⟩;refine Jd ?_;refine gZ ?_;exact Qa ⟨rfl,rfl⟩
theorem c3725{l:List Int}(s:Sl IntE 1 h.get p n l)(K:l.length<=2^19)(A:∀ v∈l,Fits v):Gr Tryz.prog 46 #[.slice p n c] h fun r _=>r=.string (str (li l)):=by
 refine w3725 Qk ?_;have L:=s.1;refine Ja (fun B o h'=>h.le h'/\∃ (q:Option Addr) (m k i:Nat),o=[.slice q m k,.int .i64 i]/\i<=n/\B=n-i/\Growing BsEnc 9 1 h.get h'.get q m k ((l.take i).map di)) (fun o h'=>h.le h'/\∃ (q:Option Addr) (m k:Nat) (i:Int),o=[.slice q m k,.int .i64 i]/\Growing BsEnc 9 1 h.get h'.get q m k (l.map di))
  ⟨LH.le_refl _,none,0,0,0,rfl,Nat.zero_le _,rfl,Growing.nil⟩ ?_ ?_
 ·rintro Y B o E G ⟨b,q,m,k,i,rfl,J,rfl,g⟩;refine yJ (fun D=>?_) (fun D=>?_)
  ·have y:=List.getElem?_eq_getElem (show i<l.length by omega);have e:=List.getElem_mem (show i<l.length by omega);generalize l[i]=x at y e;obtain⟨a,H,t⟩:=(s.le IntE.grow b.1).2.2 i x y;unfold IntE at t;rw[U2]at t;have w:0<=(i:Int)/\(i:Int)<(n:Int):=by omega
   have d:=A x e;obtain⟨v,rfl⟩ : ∃ v:Nat,x=v:=⟨x.toNat,by have:=d.1;omega⟩
   refine gT w (gS2 H (gL0 (by rw[Int.toNat_natCast];exact t) ?_));refine t_gr (c3723 v (by have:=d.2;omega)) ?_;rintro _ F j rfl;refine Qj ?_;refine Um (decDigits v) (by rw[List.length_map,List.length_take];omega) (g.le j.1) (LH.le_trans b j) fun I C h' z _ g'=>?_;refine Qi (G (n-(i+1)) _ _ (by omega) ⟨z,I,m+1,C,i+1,?_,by omega,rfl,?_⟩)
   ·rw[Qh (by omega) (by omega)];rfl
   ·rw[Jr y,List.map_append];exact g'
  ·rw[List.take_of_length_le (by omega)]at g;exact gH ⟨b,q,m,k,_,rfl,g⟩
 ·rintro o E ⟨b,q,m,k,i,rfl,g⟩;refine gZ ?_;refine t_pu (c3742 (growS g (by rw[List.length_map];omega)) (by rw[List.length_map];omega) (fun f u=>?_)) ?_
  ·obtain⟨v,hv,rfl⟩:=List.mem_map.1 u;have F:=(A v hv).lt;have:=Ds (k:=9) (n:=v.toNat) (by omega);show (decDigits v.toNat).length<=_;omega
  refine Qj ?_;refine Qa ⟨b,?_⟩;unfold li listS;rw[List.map_map];rfl
def ListA(o:Option (List Nat))(r:Value)(h:LH):Prop:=match o with
 | some m=>∃ p n c,r=.tuple #[.slice p n c,.bool true]/\InS h p n c (ints m)
 | none=>∃ p n c,r=.tuple #[.slice p n c,.bool false]/\InS h p n c []
theorem c3759(l:Bs)(o:l.length<=2^19):Gr Tryz.prog 110 #[.string (str l)] h fun r h'=>ListA (listL l) r h':=by
 refine w3759 Qk ?_;have j:=J1 44 l;refine t_gr (c3773 l o) ?_;intro r i b hr;rcases hr with⟨rfl,rfl⟩|⟨d,⟨hm,rfl⟩|⟨hm,p,n,k,rfl,s⟩⟩
 ·refine gZ ?_;refine t_gr (c3756 (h:=i) BsS.nil (by simp) (by simp)) ?_;intro r g a hr;obtain⟨q,m,c,rfl,f⟩ : NumsA (some []) r g:=hr;refine yT ?_;exact Qa ⟨LH.le_trans b a,q,m,c,rfl,f⟩
 ·have e:listL l=none:=by
   unfold listL;rw[if_neg d];exact Hl (x:=[]) rfl hm
  rw[e];refine gZ ?_;refine t_gr (c3756 (h:=i) BsS.nil (by simp) (by simp)) ?_;intro r g a hr;obtain⟨q,m,c,rfl,f⟩ : NumsA (some []) r g:=hr;refine yF ?_;exact Qa ⟨LH.le_trans b a,q,m,c,rfl,f⟩
 ·have e:listL l=numsL (cut 44 l):=by unfold listL;rw[if_neg d]
  rw[e];refine gZ ?_;refine t_gr (c3756 s (by omega) (fun x t=>by have:=Zh t;omega)) ?_;intro r g a hr;cases hv:numsL (cut 44 l) with
  | none =>
   rw[hv]at hr;have hr:r=.tuple #[.slice none 0 0,.bool false]:=hr;subst hr;refine yT ?_;exact Qa ⟨LH.le_trans b a,none,0,0,rfl,InS.nil⟩
  | some v =>
   rw[hv]at hr;obtain⟨q,m,c,rfl,f⟩:=hr;refine yT ?_;exact Qa ⟨LH.le_trans b a,q,m,c,rfl,f⟩
end Go.Y.Txt
end
namespace Go.Y
section
attribute [local irreducible] T.wp CV FWK
def indexF(x:Int):Nat->List Int->Int
 | _,[]=>-1
 | i,y::l=>if x==y then i else indexF x (i+1) l
variable {h:LH}{p:Option Addr}{n c:Nat}{l:List Int}{z:Addr}{d:Int}{fv:Value}{f:FileC}{u:UseFile}
theorem indexF_ge(x:Int):∀ (l:List Int) (i:Nat),decide (indexF x i l>=0)=l.contains x:=by
 intro l
 induction l with
 | nil=>intro i;rfl
 | cons y l a =>
  intro i;rw[indexF,List.contains_cons];split
  ·rename_i h;rw[h];simp
  ·rename_i h;have h':(x==y)=false:=by simpa using h
   rw[a,h',Bool.false_or]
theorem c106(d:Sl IntE 1 h.get p n l)(x:Int):Pu Tryz.prog 195 #[.slice p n c,x] h (.int .i64 (indexF x 0 l)):=by
 refine w106 Qk ?_;have r:=d.1;have hb:=d.2.1;refine Qz (fun m e h'=>h'=h/\∃ i:Nat,e=[.int .i64 0,.int .i64 i]/\i<=n/\m=n-i/\indexF x 0 l=indexF x i (l.drop i)) ⟨rfl,0,rfl,Nat.zero_le _,rfl,rfl⟩ ?_;rintro Y m e _ j ⟨rfl,i,rfl,q,rfl,hc⟩;refine yJ (fun f=>?_) (fun f=>?_)
 ·obtain⟨y,a,k,o,g⟩:=d.at (i:=i) (by omega);unfold IntE at g;refine gZ ?_;rw[Jh k,indexF]at hc;refine Ql (fun b=>?_) (fun b=>?_)
  ·refine gZ ?_;refine Qa ⟨?_,rfl⟩;rw[hc,if_pos b]
  ·refine Qi (j (n-(i+1)) _ _ (by omega) ⟨rfl,i+1,?_,by omega,rfl,?_⟩)
   ·rw[Qh (by omega) (by omega)];rfl
   ·rw[hc,if_neg (by simp[b])]
 ·refine gZ ?_;refine Qa ⟨?_,rfl⟩;rw[hc,List.drop_eq_nil_of_le (by omega)];rfl
theorem c100(a:Sl IntE 1 h.get p n l)(x:Int):Pu Tryz.prog 166 #[.slice p n c,x] h (.bool (l.contains x)):=by
 refine w100 Qk ?_;refine t_pu (c106 a x) ?_;refine gZ ?_;refine Qa ⟨?_,rfl⟩;rw[indexF_ge]
theorem c80(c:h.get.cell? z=some (.int .i64 d))(a b:Int):Pu Tryz.prog 132 #[.agg #[a,b],.pointer (some z)] h (.bool (isIn d a b)):=by
 refine w80 Qk ?_;refine gZ ?_;refine t_pu (c81 _ _ _) ?_;refine gZ ?_;exact Qa ⟨rfl,rfl⟩
def placeF{α:Type}(f:α->Bool):Nat->List α->Int
 | _,[]=>-1
 | i,y::l=>if f y then i else placeF f (i+1) l
theorem placeF_ge{α:Type}(f:α->Bool):∀ (l:List α) (i:Nat),decide (placeF f i l>=0)=l.any f:=by
 intro l
 induction l with
 | nil=>intro i;rfl
 | cons y l a =>
  intro i;rw[placeF,List.any_cons];split
  ·rename_i h;rw[h];simp
  ·rename_i h;have h':f y=false:=by simpa using h
   rw[a,h',Bool.false_or]
theorem c98{l:List Span}{g:Span->Bool}(j:Sl SpanE 2 h.get p n l)(t:∀ x h',h.le h'->CV X0 Tryz.prog fv #[.agg #[.int .i64 x.first,.int .i64 x.last]] h' fun r f=>h'.le f/\r=.bool (g x)) :
  Gr Tryz.prog 167 #[.slice p n c,fv] h fun r _=>r=.int .i64 (placeF g 0 l):=by
 refine w98 Qk ?_;have A:=j.1;have hb:=j.2.1;refine Qz (fun m o h'=>h.le h'/\∃ i:Nat,o=[.int .i64 0,.int .i64 i]/\i<=n/\m=n-i/\placeF g 0 l=placeF g i (l.drop i)) ⟨LH.le_refl _,0,rfl,Nat.zero_le _,rfl,rfl⟩ ?_;rintro Y m o d s ⟨hle,i,rfl,z,rfl,hc⟩;refine yJ (fun q=>?_) (fun q=>?_)
 ·obtain⟨x,a,u,y,v,w⟩:=(j.le SpanE.grow hle.1).at (i:=i) (by omega);refine gZ ?_;refine Jb (t x d hle) ?_;rintro _ k ⟨b,rfl⟩;refine gZ ?_;rw[Jh u,placeF]at hc;refine Ql (fun e=>?_) (fun e=>?_)
  ·refine gZ ?_;refine Qa ⟨LH.le_trans hle b,?_⟩;rw[hc,if_pos e]
  ·refine Qi (s (n-(i+1)) _ _ (by omega) ⟨LH.le_trans hle b,i+1,?_,by omega,rfl,?_⟩)
   ·rw[Qh (by omega) (by omega)];rfl
   ·rw[hc,if_neg (by simp[e])]
 ·refine gZ ?_;refine Qa ⟨hle,?_⟩;rw[hc,List.drop_eq_nil_of_le (by omega)];rfl
theorem c79{l:List Span}{g:Span->Bool}(d:Sl SpanE 2 h.get p n l)(b:∀ x h',h.le h'->CV X0 Tryz.prog fv #[.agg #[.int .i64 x.first,.int .i64 x.last]] h' fun r a=>h'.le a/\r=.bool (g x)) :
  Gr Tryz.prog 131 #[.slice p n c,fv] h fun r _=>r=.bool (l.any g):=by
 refine w79 Qk ?_;refine t_gr (c98 d b) ?_;rintro _ h' hle rfl;refine gZ ?_;refine Qa ⟨hle,?_⟩;rw[placeF_ge]
def Asks(v:Value)(h:LH)(u:UseFile)(g:Int):Prop:=numbersF u=0->∀ (f:FileC) h',h.le h'->FileR h'.get f u->CV X0 Tryz.prog v #[fileV f u] h' fun r h''=>h'.le h''/\r=.int .i64 g
theorem Asks.le{v:Value}{h h':LH}{u:UseFile}{g:Int}(d:h.le h')(a:Asks v h u g):Asks v h' u g:=fun e f c b=>a e f c (LH.le_trans d b)
theorem c82(a:h.get.cell? z=some (.int .i64 d)):Pu Tryz.prog 134 #[fileV f u,.pointer (some z)] h (.int .i64 (if isDay d then 0 else 1)):=by
 refine w82 Qk ?_;refine gZ ?_;refine t_pu (c84 _) ?_;refine gZ ?_;refine t_pu (c83 _ _) ?_;refine gZ ?_;refine Qa ⟨?_,rfl⟩;unfold isDay;cases isIn d 0 2000<;>rfl
theorem c85(a:IsI (u.lands-1))(b:h.get.cell? z=some (.int .i64 d)):Pu Tryz.prog 137 #[fileV f u,.pointer (some z)] h (.int .i64 (if isIn d 0 (u.lands-1) then 0 else 6)):=by
 refine w85 Qk ?_;refine gZ ?_;refine t_pu (c86 (f:=f) a _) ?_;refine gZ ?_;refine t_pu (c83 _ _) ?_;refine gZ ?_;refine Qa ⟨?_,rfl⟩;cases isIn d 0 (u.lands-1)<;>rfl
theorem c87(a:IsI (u.items-1))(b:h.get.cell? z=some (.int .i64 d)):Pu Tryz.prog 139 #[fileV f u,.pointer (some z)] h (.int .i64 (if isIn d 0 (u.items-1) then 0 else 6)):=by
 refine w87 Qk ?_;refine gZ ?_;rw[Qh a.1 a.2];refine t_pu (c81 _ _ _) ?_;refine gZ ?_;refine t_pu (c83 _ _) ?_;refine gZ ?_;refine Qa ⟨?_,rfl⟩;cases isIn d 0 (u.items-1)<;>rfl
def dayQ(d:Int):Int:=if isDay d then 0 else 1
def landQ(u:UseFile)(d:Int):Int:=if isIn d 0 (u.lands-1) then 0 else 6
def itemQ(u:UseFile)(d:Int):Int:=if isIn d 0 (u.items-1) then 0 else 6
theorem c54(u:UseFile)(d:Int):Gr Tryz.prog 73 #[d] h fun r h'=>(∃ fn a b,r=Value.func fn a b)/\Asks r h' u (dayQ d):=by
 refine w54 Qk ?_;refine Z9 fun r hr=>?_;have c:Cells.cell? (h.get.upd r (true,.cells #[.int .i64 d] 3 (0,0))) ⟨r,0,none⟩=some (.int .i64 d):=Qv rfl;refine Qa ⟨Qr hr,⟨_,_,_,rfl⟩,fun e f h' hle _=>?_⟩;exact Zl Qk (by rfl) (U4 (c82 (Qe hle.1 c)))
theorem c58(u:UseFile)(d:Int):Gr Tryz.prog 75 #[d] h fun r h'=>(∃ fn a b,r=Value.func fn a b)/\Asks r h' u (landQ u d):=by
 refine w58 Qk ?_;refine Z9 fun r hr=>?_;have e:Cells.cell? (h.get.upd r (true,.cells #[.int .i64 d] 3 (0,0))) ⟨r,0,none⟩=some (.int .i64 d):=Qv rfl;refine Qa ⟨Qr hr,⟨_,_,_,rfl⟩,fun c f h' hle _=>?_⟩;exact Zl Qk (by rfl) (U4 (c85 (Kf c) (Qe hle.1 e)))
theorem c59(u:UseFile)(d:Int):Gr Tryz.prog 76 #[d] h fun r h'=>(∃ fn a b,r=Value.func fn a b)/\Asks r h' u (itemQ u d):=by
 refine w59 Qk ?_;refine Z9 fun r hr=>?_;have e:Cells.cell? (h.get.upd r (true,.cells #[.int .i64 d] 3 (0,0))) ⟨r,0,none⟩=some (.int .i64 d):=Qv rfl;refine Qa ⟨Qr hr,⟨_,_,_,rfl⟩,fun c f h' hle _=>?_⟩;exact Zl Qk (by rfl) (U4 (c87 (Ge c) (Qe hle.1 e)))
end
section
attribute [local irreducible] T.wp CV FWK
def De(f:FuncId)(args:Array Value)(h:LH)(d m:Nat)(fc:FileC)(u:UseFile)(V:Value->LH->Prop):Prop:=FW X0 Tryz.prog f args h fun r h'=>Mv m h h'/\Desk h'.get d m fc u/\V r h'
variable {h:LH}{f:FileC}{d m c:Nat}{u:UseFile}{es':Array MapEntry}
theorem t_de{X:XP}{Q:Leaf->LH->Prop}{f:FuncId}{args:Array Value}{b:FileC}{k:Value->T}{V:Value->LH->Prop}(c:De f args h d m b u V)(e:∀ v h',Mv m h h'->Desk h'.get d m b u->V v h'->(k v).wp X Tryz.prog Q h'):(T.call false f args k).wp X Tryz.prog Q h :=
 Jn (Dd c) fun v h' a=>e v h' a.1 a.2.1 a.2.2
theorem two119:twoInts Tryz.prog 225=true:=by kernel_rfl
theorem Y4:twoInts Tryz.prog 46=true:=by kernel_rfl
theorem Y9:Wz Tryz.prog 3=true:=by kernel_rfl
theorem Desk.updMap{h:Cells}(k:Desk h d m f u)(he:∀ e∈es'.toList,∃ day:Int,e.key=.agg #[.int .i64 day,.int .i64 u.idle]/\e.val=.agg #[.int .i64 (window u day).first,.int .i64 day]):Rd h (h.upd m (true,.map es' c))/\Desk (h.upd m (true,.map es' c)) d m f u:=by
 have hr:Rd h (h.upd m (true,.map es' c)):=by
  intro a v hc;have b:a.block≠m:=by
   intro e;obtain⟨es,c,hm⟩:=k.isMap;unfold Cells.cell? at hc;rw[e,hm]at hc;cases hc
  unfold Cells.cell? at hc ⊢;rw[Qp _ _ b];exact hc
 exact⟨hr,k.file.rd hr,k.rep.rd hr,fun j g=>hr _ _ (k.counts j g),hr _ _ k.mapp,_,_,Qm _ _ _,he⟩
theorem Mv.updMap:Mv m h { h with get:=h.get.upd m (true,.map es' c) } :=
 ⟨fun r x hr a=>by show Cells.upd _ _ _ r=_;rw[Qp _ _ hr];exact a,fun _ _ _=>⟨es',c,Qm _ _ _⟩,rfl,rfl,rfl⟩
theorem c55(k:Desk h.get d m f u)(I:1<=u.idle/\u.idle<=2000)(day:Int)(O:0<=day/\day<=2000) :
  De 74 #[.pointer (some ⟨d,0,none⟩),.int .i64 day] h d m f u fun r _=>r=.agg #[.int .i64 (window u day).first,day]:=by
 refine w55 Qk ?_;obtain⟨f0,f1,f2,f3,f4,f5,f6⟩:=k.file;have J:=k.mapp;obtain⟨es,c,hm,j⟩:=k.map;have g:∀ e∈es.toList,IsKey Tryz.prog 225 e.key:=fun e he=>by obtain⟨B,b,_⟩:=j e he;exact .inr ⟨two119,B,u.idle,b⟩
 have a:IsKey Tryz.prog 225 (.agg #[day,.int .i64 u.idle]):=.inr ⟨two119,_,_,rfl⟩;have found:∀ e∈es.toList,e.key=.agg #[day,.int .i64 u.idle]->e.val=.agg #[.int .i64 (window u day).first,day]:=by
  intro e he i;obtain⟨B,b,v⟩:=j e he;rw[i]at b;simp only[Value.agg.injEq,Array.mk.injEq,List.cons.injEq,Value.int.injEq,and_true,true_and]at b;rw[v,b]
 refine gZ ?_;refine Q1 (fun q h'=>q=[.int .i64 0,.int .i64 0]/\h=h') ?_ ?_
 ·refine gZ ?_;refine Jw ?_ ?_
  ·refine Ut Yk K1 ⟨c,hm⟩ a g (fun e he i=>?_) fun A=>?_
   ·rw[found e he i];simp only[if_true];refine yT ?_;refine gZ ?_;exact Qa ⟨Mv.refl,k,rfl⟩
   ·simp only[if_true];refine yF ?_;exact Qi ⟨rfl,rfl⟩
  ·refine gZ ?_;refine Ut Yk K1 ⟨c,hm⟩ a g (fun e he i=>?_) fun A=>?_
   ·rw[found e he i];simp only[if_true];refine yT ?_;refine gZ ?_;exact Qa ⟨Mv.refl,k,rfl⟩
   ·simp only[if_true];refine yF ?_;exact Qi ⟨rfl,rfl⟩
 ·rintro q _ ⟨rfl,rfl⟩;refine gZ ?_;refine Qz (fun D q h'=>h=h'/\∃ (x:Nat) (n:Int),q=[.int .i64 (u.idle-n),.int .i64 x,.int .i64 day]/\x<=2000/\0<=n/\n<u.idle/\x=D/\firstDay (counts u) u.idle day.toNat 0=firstDay (counts u) u.idle x n)
   ⟨rfl,day.toNat,0,by simp;omega,by omega,by omega,by omega,rfl,rfl⟩ ?_
  rintro Y D q _ C ⟨rfl,x,n,rfl,P,L,M,rfl,hc⟩;have fin:∀ (w:Int),w=(window u day).first->∀ {K:Value->T} {Q:Leaf->LH->Prop},(∀ h',Mv m h h'->Desk h'.get d m f u->(K undef).wp X0 Tryz.prog Q h')->(T.sem false (Sem.bind (Instr.mapUpdate 217 (.map (some m)) (.agg #[day,.int .i64 u.idle]) (.agg #[.int .i64 w,day])) fun _=>pure (.tuple #[])) K).wp X0 Tryz.prog Q h:=by
   intro w hw K Q H;refine t_mapUpdate Yk ⟨c,hm⟩ a g fun es' N b _ _=>H _ Mv.updMap (Desk.updMap k fun e he=>?_).2;rcases b e he with⟨b,v⟩|b
   ·exact⟨day,b,by rw[v,hw]⟩
   ·exact j e b
  refine yJ (fun F=>?_) (fun F=>?_)
  ·have z:h.get.cell? ((Addr.add ⟨d,0,none⟩ 7).add ((x:Int).toNat*1))=some (.bool (counts u x)):=by
    have G:0+7+(x:Int).toNat*1=7+x:=by omega
    rw[Qo,Qo,G];exact k.counts x (by omega)
   obtain⟨y,rfl⟩ : ∃ y,x=y+1:=⟨x-1,by omega⟩
   refine gZ ?_;rw[firstDay]at hc;refine Ql (fun t=>?_) (fun t=>?_)
   ·have l:(if counts u ((y+1:Nat):Int)=true then n+1 else n)=n+1:=if_pos t;simp only[l]at hc;rw[Qh (by omega) (by omega)];refine Ql (fun o=>?_) (fun o=>?_)
    ·refine gZ ?_;have p:u.idle-n-1=0:=by simpa using o
     rw[if_pos (by omega)]at hc;refine fin _ (by rw[window];exact hc.symm) fun h' hv i=>?_;exact Qa ⟨hv,i,by rw[window,hc]⟩
    ·have p:u.idle-n-1≠0:=by simpa using o
     rw[if_neg (by omega)]at hc;refine Qi (C y _ _ (by omega) ⟨rfl,y,n+1,?_,by omega,by omega,by omega,rfl,hc⟩);have E:u.idle-n-1=u.idle-(n+1):=by omega
     have s:((y+1:Nat):Int)-1=(y:Int):=by omega
     rw[Qh (by omega) (by omega),E,s]
   ·have l:(if counts u ((y+1:Nat):Int)=true then n+1 else n)=n:=if_neg (by rw[t];simp);simp only[l]at hc;refine Ql (fun o=>?_) (fun o=>?_)
    ·exfalso;have p:u.idle-n=0:=by simpa using o
     omega
    ·rw[if_neg (by omega)]at hc;refine Qi (C y _ _ (by omega) ⟨rfl,y,n,?_,by omega,by omega,by omega,rfl,hc⟩);have s:((y+1:Nat):Int)-1=(y:Int):=by omega
     rw[Qh (by omega) (by omega),s]
  ·refine gZ ?_;obtain rfl:x=0:=by omega
   rw[firstDay]at hc;refine fin _ (by rw[window];exact hc.symm) fun h' hv i=>?_;exact Qa ⟨hv,i,by rw[window,hc];rfl⟩
end
section
attribute [local irreducible] T.wp CV FWK
def AskSl(h:LH)(p:Option Addr)(n:Nat)(u:UseFile)(l:List Int):Prop :=
 n=l.length/\l.length<4611686018427387904/\∀ i g,l[i]?=some g->∃ a v,p=some a/\h.get.cell? (a.add (i*1))=some v/\Asks v h u g
def deskOf(f:FileC)(u:UseFile)(m:Nat):Array Value:=match buildV Tryz.prog 220 [(0,fileV f u),(2,.map (some m))] with
 | some (.agg cs)=>cs
 | _=>#[]
variable {h:Cells}{r i:Nat}{m:Bool}{cs:Array Value}{el:TypeId}
theorem deskOf_build(f:FileC)(u:UseFile)(m:Nat):buildV Tryz.prog 220 [(0,fileV f u),(2,.map (some m))]=some (.agg (deskOf f u m)):=by kernel_rfl
theorem deskOf_size(f:FileC)(u:UseFile)(m:Nat):(deskOf f u m).size=2009:=by kernel_rfl
theorem deskOf_0(f:FileC)(u:UseFile)(m:Nat):(deskOf f u m)[0]?=some (.int .i64 u.items):=by kernel_rfl
theorem deskOf_1(f:FileC)(u:UseFile)(m:Nat):(deskOf f u m)[1]?=some (.int .i64 u.lands):=by kernel_rfl
theorem deskOf_2(f:FileC)(u:UseFile)(m:Nat):(deskOf f u m)[2]?=some (.int .i64 u.from_):=by kernel_rfl
theorem deskOf_3(f:FileC)(u:UseFile)(m:Nat):(deskOf f u m)[3]?=some (.int .i64 u.idle):=by kernel_rfl
theorem deskOf_4(f:FileC)(u:UseFile)(m:Nat):(deskOf f u m)[4]?=some (.slice f.p4 f.n4 f.c4):=by kernel_rfl
theorem deskOf_5(f:FileC)(u:UseFile)(m:Nat):(deskOf f u m)[5]?=some (.slice f.p5 f.n5 f.c5):=by kernel_rfl
theorem deskOf_6(f:FileC)(u:UseFile)(m:Nat):(deskOf f u m)[6]?=some (.slice f.p6 f.n6 f.c6):=by kernel_rfl
theorem deskOf_m(f:FileC)(u:UseFile)(m:Nat):(deskOf f u m)[2008]?=some (.map (some m)):=by kernel_rfl
attribute [irreducible] deskOf
def openF(u:UseFile)(l:List Int):Int:=if checkF u≠0 then checkF u else firstF (fun _ x=>x) 0 l
def Opened(h h':LH)(f:FileC)(u:UseFile)(g:Int)(r:Value):Prop :=
 h.le h'/\((g≠0/\r=.tuple #[.pointer none,.int .i64 g])\/(g=0/\∃ d m,r=.tuple #[.pointer (some ⟨d,0,none⟩),.int .i64 0]/\h.get d=none/\h.get m=none/\Desk h'.get d m f u))
theorem setCell_upd{v:Value}(hr:h r=some (m,.cells cs el (0,0))):h.setCell ⟨r,i,none⟩ v=h.upd r (m,.cells (cs.setIfInBounds i v) el (0,0)):=by
 funext b;unfold Cells.setCell Cells.upd;by_cases e:b=r
 ·subst e;simp[hr]
 ·simp[e]
theorem frozen_plain(hr:h r=some (m,.cells cs el (0,0))):h.frozen? ⟨r,i,none⟩=false:=by
 simp[Cells.frozen?,hr]
theorem c53{h:LH}{f:FileC}{u:UseFile}{p:Option Addr}{n c:Nat}{l:List Int}(hp:Parts h.get)(hu:FileR h.get f u)(hw:AskSl h p n u l) :
  FW X0 Tryz.prog 72 #[fileV f u,.slice p n c] h fun r h'=>Opened h h' f u (openF u l) r:=by
 refine w53 Qk ?_;refine t_gr (c26 hp hu) ?_;rintro _ s0 R rfl;refine yI (fun X=>?_) (fun X=>?_)
 ·have w:checkF u≠0:=by simpa using X
  refine Qa ⟨R,.inl ⟨?_,?_⟩⟩
  ·rw[openF,if_pos w];exact w
  ·rw[openF,if_pos w]
 have w:checkF u=0:=by simpa using X
 have l0:=Kn w;have ho:openF u l=firstF (fun _ x=>x) 0 l:=by rw[openF,if_neg (by simp[w])]
 have hn:=hw.1;have hb:=hw.2.1;refine Qz (fun V W h'=>h.le h'/\∃ i:Nat,W=[.pointer none,.int .i64 0,.int .i64 i]/\i<=n/\V=n-i/\openF u l=firstF (fun _ x=>x) i (l.drop i)) ⟨R,0,rfl,Nat.zero_le _,rfl,ho⟩ ?_;rintro Y V W z hY ⟨hle,i,rfl,U,rfl,hc⟩;refine yJ (fun e1=>?_) (fun e1=>?_)
 ·obtain⟨g,hg⟩ : ∃ g,l[i]?=some g:=⟨l[i]'(by omega),List.getElem?_eq_getElem (by omega)⟩
  obtain⟨a,v,ha,hv,N⟩:=hw.2.2 i g hg;have n0:=Qe hle.1 hv;refine gT (by omega) (gS2 ha (Jv n0 ?_));refine Jb (N l0 f z hle (hu.le hle.1)) ?_;rintro _ u0 ⟨S,rfl⟩;refine gZ ?_;rw[Jh hg,firstF]at hc;refine Ql (fun Z=>?_) (fun Z=>?_)
  ·have B:g≠0:=by simpa using Z
   refine gZ ?_;rw[if_pos B]at hc;exact Qa ⟨LH.le_trans hle S,.inl ⟨by rw[hc];exact B,by rw[hc]⟩⟩
  ·have B:g=0:=by simpa using Z
   rw[if_neg (by simp[B])]at hc;refine Qi (hY (n-(i+1)) _ _ (by omega) ⟨LH.le_trans hle S,i+1,?_,by omega,rfl,hc⟩);rw[Qh (by omega) (by omega)];rfl
 ·refine gZ ?_;rw[List.drop_eq_nil_of_le (by omega),firstF]at hc;refine D2 fun m hm=>?_;refine gZ ?_;have M:z.le _:=Qr (x:=(true,.map #[] 0)) hm;refine t_struct (deskOf_build f u m) ?_;refine Z9 fun d J=>?_;have o0:LH.le _ _:=Qr (x:=(true,.cells (deskOf f u m) 220 (0,0))) J;have O:d≠m:=by
   rintro rfl;change Cells.upd _ _ _ d=none at J;rw[Qm]at J;cases J
  have g0:h.get d=none:=by
   cases hx:h.get d with
   | none=>rfl
   | some x=>rw[(LH.le_trans hle M).1 _ _ hx]at J;cases J
  have k0:h.get m=none:=by
   cases hx:h.get m with
   | none=>rfl
   | some x=>rw[hle.1 _ _ hx]at hm;cases hm
  refine Qz (fun V W h'=>∃ (i:Nat) (cs:Array Value),W=[.int .i64 i]/\i<=2001/\V=2001-i/\z.le h'/\h'.get m=some (true,.map #[] 0)/\h'.get d=some (true,.cells cs 220 (0,0))/\cs.size=2009/\(∀ j,j<7\/j=2008->cs[j]?=(deskOf f u m)[j]?)/\∀ j:Nat,j<i->cs[7+j]?=some (.bool (counts u j)))
   (n:=2001) ⟨0,deskOf f u m,rfl,by omega,by omega,LH.le_trans M o0,?_,Qm _ _ _,deskOf_size _ _ _,fun _ _=>rfl,fun j hj=>by omega⟩ ?_
  ·show Cells.upd _ _ _ m=_;rw[Qp _ _ (Ne.symm O)];exact Qm _ _ _
  rintro Y2 y0 z0 k a0 ⟨j,cs,rfl,hj,rfl,F,K,D,m0,q,I⟩;refine yJ (fun e5=>?_) (fun e5=>?_)
  ·refine Z9 fun t y=>?_;have p0:t≠d:=by rintro rfl;rw[D]at y;cases y
   have q0:t≠m:=by rintro rfl;rw[K]at y;cases y
   have x0:k.le _:=Qr (x:=(true,.cells #[.int .i64 0] 3 (0,0))) y;have A:(k.get.upd t (true,.cells #[.int .i64 0] 3 (0,0))) t=some (true,.cells #[.int .i64 0] 3 (0,0)):=Qm _ _ _;refine Dg rfl ⟨_,A⟩ (v₀:=.int .i64 0) (by show Cells.cell? _ _=_;exact Qv rfl) (frozen_plain (i:=0) A) ?_;have P:(k.get.upd t (true,.cells #[.int .i64 0] 3 (0,0))).setCell ⟨t,0,none⟩ (.int .i64 j)=k.get.upd t (true,.cells #[.int .i64 j] 3 (0,0)):=by
    rw[setCell_upd A];funext b;unfold Cells.upd;by_cases e:b=t<;>simp[e]
   have L:(k.get.upd t (true,.cells #[.int .i64 0] 3 (0,0))).setCell (Addr.add ⟨t,0,none⟩ 0) (.int .i64 j)=k.get.upd t (true,.cells #[.int .i64 j] 3 (0,0)):=P;simp only[L];have G:k.le { k with get:=k.get.upd t (true,.cells #[.int .i64 j] 3 (0,0)) }:=Qr y;have hz:Cells.cell? (k.get.upd t (true,.cells #[.int .i64 j] 3 (0,0))) ⟨t,0,none⟩=some (.int .i64 j):=Qv rfl;refine gL0 hz ?_;refine gS2 rfl ?_;refine t_gr (c79 (g:=fun x=>isIn j x.first x.last) (hu.le (LH.le_trans (LH.le_trans hle F) G).1).excuses fun x h' j0=>Zl Qk (by rfl) (U4 (c80 (Qe j0.1 hz) _ _))) ?_;rintro _ Q H rfl;have w0:=Qe H.1 hz;have E:=(LH.le_trans G H).1 _ _ D;refine gZ ?_;have c0:Q.get.cell? ⟨d,7+j,none⟩=some (cs[7+j]'(by omega)):=by
    simp only[Cells.cell?,E];simp[show 7+j<cs.size by omega]
   have C:Addr.add (Addr.add (Addr.add ⟨d,0,none⟩ 7) ((j:Int).toNat*1)) 0=⟨d,7+j,none⟩:=by
    have h7:0+7+(j:Int).toNat*1+0=7+j:=by omega
    rw[Qo,Qo,Qo,h7]
   refine Dg rfl ?_ (v₀:=cs[7+j]'(by omega)) ?_ ?_ ?_
   ·rw[C];exact⟨_,E⟩
   ·rw[C];exact c0
   ·rw[C];exact frozen_plain E
   rw[C,setCell_upd E];refine gZ ?_;refine Qi (a0 (2001-(j+1)) _ _ (by omega) ⟨j+1,_,?_,by omega,rfl,?_,?_,Qm _ _ _,by rw[Array.size_setIfInBounds];exact m0,?_,?_⟩)
   ·rw[Qh (by omega) (by omega)];rfl
   ·have:=LH.le_trans (LH.le_trans F G) H;refine⟨fun b x hb=>?_,this.2⟩;have b0:b≠d:=by
     rintro rfl;rw[M.1 _ _ hb]at J;cases J
    show Cells.upd _ _ _ b=_;rw[Qp _ _ b0];exact this.1 _ _ hb
   ·show Cells.upd _ _ _ m=_;rw[Qp _ _ (Ne.symm O)];exact(LH.le_trans G H).1 _ _ K
   ·intro i U;rw[Array.getElem?_setIfInBounds_ne (by omega)];exact q i U
   ·intro i U;by_cases e:i=j
    ·subst e;rw[Array.getElem?_setIfInBounds_self,if_pos (by omega)];congr 2;simp only[counts,List.not_any_eq_all_not]
    ·rw[Array.getElem?_setIfInBounds_ne (by omega)];exact I i (by omega)
  ·refine gZ ?_;have o:∀ i v,cs[i]?=some v->k.get.cell? (Addr.add ⟨d,0,none⟩ i)=some v:=by
    intro i v hv;rw[Qo,Nat.zero_add];simp only[Cells.cell?,D];simpa using hv
   have s:∀ i v,cs[i]?=some v->k.get.cell? ⟨d,i,none⟩=some v:=by
    intro i v hv;simp only[Cells.cell?,D];simpa using hv
   refine Qa ⟨LH.le_trans hle F,.inr ⟨hc,d,m,rfl,g0,k0,?_,hu.le (LH.le_trans hle F).1,?_,?_,?_⟩⟩
   ·exact⟨o _ _ ((q 0 (by omega)).trans (deskOf_0 _ _ _)),o _ _ ((q 1 (by omega)).trans (deskOf_1 _ _ _)),o _ _ ((q 2 (by omega)).trans (deskOf_2 _ _ _)),o _ _ ((q 3 (by omega)).trans (deskOf_3 _ _ _)),
     o _ _ ((q 4 (by omega)).trans (deskOf_4 _ _ _)),o _ _ ((q 5 (by omega)).trans (deskOf_5 _ _ _)),o _ _ ((q 6 (by omega)).trans (deskOf_6 _ _ _))⟩
   ·intro i U;exact s _ _ (I i (by omega))
   ·exact s _ _ ((q 2008 (.inr rfl)).trans (deskOf_m _ _ _))
   ·exact⟨_,_,K,fun e he=>by simp at he⟩
end
section
attribute [local irreducible] T.wp CV FWK
variable {h:LH}{X:XP}{Q:Leaf->LH->Prop}{k:Value->T}{u:UseFile}{v0 v1:Value}{g0 g1:Int}{l:List Int}
theorem Mv.le_of{m:Nat}{a h':LH}(hle:h.le a)(hm:h.get m=none)(mv:Mv m a h'):h.le h':=by
 refine⟨fun r x hr=>mv.keep r x ?_ (hle.1 r x hr),mv.same.1.trans hle.2.1,mv.same.2.1.trans hle.2.2.1,mv.same.2.2.trans hle.2.2.2⟩;rintro rfl;rw[hm]at hr;cases hr
theorem asks1(n:∃ fn a b,v0=Value.func fn a b)(l:Asks v0 h u g0)(m:∀ r h',h.le h'->AskSl h' (some ⟨r,0,none⟩) 1 u [g0]->(k (.slice (some ⟨r,0,none⟩) 1 1)).wp X Tryz.prog Q h'):(T.sem false (Instr.buildSlice 216 1 #[(0,v0)]) k).wp X Tryz.prog Q h:=by
 obtain⟨c,f,j,rfl⟩:=n;refine Zu Yl Yy (by decide) (by decide) (cells:=#[.func c f j]) (by kernel_rfl) fun r hr=>?_;have e:h.le _:=Qr (x:=(true,.cells #[.func c f j] 149 (0,0))) hr;refine m r _ e ⟨rfl,by show 1<_;omega,?_⟩;intro i g d;have hc:∀ i v,(#[.func c f j]:Array Value)[i]?=some v->Cells.cell? (h.get.upd r (true,.cells #[.func c f j] 149 (0,0))) (Addr.add ⟨r,0,none⟩ (i*1))=some v:=by
  intro i v hv;rw[Qo,Nat.zero_add,Nat.mul_one];exact Qv hv
 match i,d with
 | 0,d=>simp at d;subst d;exact⟨_,_,rfl,hc 0 _ rfl,l.le e⟩
 | i+1,d=>simp at d
theorem Y1(s:∃ fn a b,v0=Value.func fn a b)(o:Asks v0 h u g0)(t:∃ fn a b,v1=Value.func fn a b)(p:Asks v1 h u g1)(q:∀ r h',h.le h'->AskSl h' (some ⟨r,0,none⟩) 2 u [g0,g1]->(k (.slice (some ⟨r,0,none⟩) 2 2)).wp X Tryz.prog Q h'):(T.sem false (Instr.buildSlice 216 2 #[(0,v0),(1,v1)]) k).wp X Tryz.prog Q h:=by
 obtain⟨c,j,m,rfl⟩:=s;obtain⟨d,l,n,rfl⟩:=t;refine Zu Yl Yy (by decide) (by decide) (cells:=#[.func c j m,.func d l n]) (by kernel_rfl) fun r hr=>?_;have f:h.le _:=Qr (x:=(true,.cells #[.func c j m,.func d l n] 149 (0,0))) hr;refine q r _ f ⟨rfl,by show 2<_;omega,?_⟩;intro i g e;have hc:∀ i v,(#[.func c j m,.func d l n]:Array Value)[i]?=some v->Cells.cell? (h.get.upd r (true,.cells #[.func c j m,.func d l n] 149 (0,0))) (Addr.add ⟨r,0,none⟩ (i*1))=some v:=by
  intro i v hv;rw[Qo,Nat.zero_add,Nat.mul_one];exact Qv hv
 match i,e with
 | 0,e=>simp at e;subst e;exact⟨_,_,rfl,hc 0 _ rfl,o.le f⟩
 | 1,e=>simp at e;subst e;exact⟨_,_,rfl,hc 1 _ rfl,p.le f⟩
 | i+2,e=>simp at e
theorem asks3{v2:Value}{s:Int}(A:∃ fn a b,v0=Value.func fn a b)(t:Asks v0 h u g0)(B:∃ fn a b,v1=Value.func fn a b)(w:Asks v1 h u g1)(C:∃ fn a b,v2=Value.func fn a b)(y:Asks v2 h u s)(z:∀ r h',h.le h'->AskSl h' (some ⟨r,0,none⟩) 3 u [g0,g1,s]->(k (.slice (some ⟨r,0,none⟩) 3 3)).wp X Tryz.prog Q h'):(T.sem false (Instr.buildSlice 216 3 #[(0,v0),(1,v1),(2,v2)]) k).wp X Tryz.prog Q h:=by
 obtain⟨d,l,o,rfl⟩:=A;obtain⟨e,m,p,rfl⟩:=B;obtain⟨f,n,q,rfl⟩:=C;refine Zu Yl Yy (by decide) (by decide) (cells:=#[.func d l o,.func e m p,.func f n q]) (by kernel_rfl) fun r hr=>?_;have j:h.le _:=Qr (x:=(true,.cells #[.func d l o,.func e m p,.func f n q] 149 (0,0))) hr;refine z r _ j ⟨rfl,by show 3<_;omega,?_⟩;intro i g c;have hc:∀ i v,(#[.func d l o,.func e m p,.func f n q]:Array Value)[i]?=some v->Cells.cell? (h.get.upd r (true,.cells #[.func d l o,.func e m p,.func f n q] 149 (0,0))) (Addr.add ⟨r,0,none⟩ (i*1))=some v:=by
  intro i v hv;rw[Qo,Nat.zero_add,Nat.mul_one];exact Qv hv
 match i,c with
 | 0,c=>simp at c;subst c;exact⟨_,_,rfl,hc 0 _ rfl,t.le j⟩
 | 1,c=>simp at c;subst c;exact⟨_,_,rfl,hc 1 _ rfl,w.le j⟩
 | 2,c=>simp at c;subst c;exact⟨_,_,rfl,hc 2 _ rfl,y.le j⟩
 | i+3,c=>simp at c
theorem Zc(h:openF u l=0):numbersF u=0/\checkF u=0:=by
 unfold openF at h;split at h
 ·rename_i a;exact absurd h a
 ·rename_i a;have:checkF u=0:=by simpa using a
  exact⟨Kn this,this⟩
theorem firstF_zero:∀ {i:Nat},firstF (fun _ x=>x) i l=0->∀ x∈l,x=0:=by
 induction l with
 | nil=>intro i _ x a;simp at a
 | cons y l d =>
  intro i h x a;unfold firstF at h;split at h
  ·rename_i b;exact absurd h b
  ·rename_i b;have c:y=0:=by simpa using b
   rcases List.mem_cons.1 a with rfl|a
   ·exact c
   ·exact d h x a
theorem D5(h:openF u l=0):∀ x∈l,x=0:=by
 have h0:=(Zc h).2;unfold openF at h;rw[if_neg (by simp[h0])]at h;exact firstF_zero h
theorem dayQ_zero{d:Int}(h:dayQ d=0):0<=d/\d<=2000:=by
 unfold dayQ at h;split at h
 ·rename_i a;simpa[isDay,isIn] using a
 ·cases h
def windowR(u:UseFile)(day:Int):Value:=if openF u [dayQ day]≠0 then .tuple #[.agg #[.int .i64 0,.int .i64 0],.int .i64 (openF u [dayQ day])] else .tuple #[.agg #[.int .i64 (window u day).first,.int .i64 day],.int .i64 0]
theorem c17{f:FileC}(s:Parts h.get)(hu:FileR h.get f u)(day:Int):Gr Tryz.prog 22 #[fileV f u,day] h fun r _=>r=windowR u day:=by
 refine w17 Qk ?_;refine t_gr (c54 u day) ?_;rintro v l i ⟨q,a⟩;refine gZ ?_;refine asks1 q a fun r n j w=>?_;refine gZ ?_;have b:=LH.le_trans i j;refine Jn (c53 (f:=f) (s.le b.1) (hu.le b.1) w) ?_;rintro v o ⟨g,⟨c,rfl⟩|⟨h0,d,m,rfl,x,hm,k⟩⟩
 ·refine gZ ?_;refine Ql (fun _=>?_) (fun e=>absurd (by simpa using e) c);refine Qa ⟨LH.le_trans b g,?_⟩;show _=windowR u day;rw[windowR,if_pos c]
 ·refine yF ?_;have t:=dayQ_zero (D5 h0 _ (by simp;rfl));refine t_de (c55 k (Kb (Zc h0).1).2.2.2 day t) ?_;rintro _ p mv y rfl;refine gZ ?_;refine Qa ⟨LH.le_trans b (Mv.le_of g hm mv),?_⟩;show _=windowR u day;rw[windowR,if_neg (by simpa using h0)]
end
section
attribute [local irreducible] T.wp CV FWK
theorem c88{h:LH}(p:Option Addr)(land item:Int):Gr Tryz.prog 140 #[.pointer p,land,item] h fun r h'=>∃ g i j,r=.func (.func 168) #[] #[.pointer (some g),.pointer (some i),.pointer (some j)] /\
  h'.get.cell? g=some (.pointer p)/\h'.get.cell? i=some (.int .i64 land)/\h'.get.cell? j=some (.int .i64 item):=by
 refine w88 Qk ?_;refine Z9 fun r hr=>?_;refine Z9 fun d a=>?_;refine Z9 fun f b=>?_;have l:h.le _:=Qr (x:=(true,.cells #[.pointer p] 146 (0,0))) hr;have e:=Qr (x:=(true,.cells #[.int .i64 land] 3 (0,0))) a;have c:=Qr (x:=(true,.cells #[.int .i64 item] 3 (0,0))) b;have k:Cells.cell? (h.get.upd r (true,.cells #[.pointer p] 146 (0,0))) ⟨r,0,none⟩=some (.pointer p):=Qv rfl;have c2:Cells.cell? ((h.get.upd r (true,.cells #[.pointer p] 146 (0,0))).upd d (true,.cells #[.int .i64 land] 3 (0,0))) ⟨d,0,none⟩=some (.int .i64 land):=Qv rfl;have c3:Cells.cell? (((h.get.upd r (true,.cells #[.pointer p] 146 (0,0))).upd d (true,.cells #[.int .i64 land] 3 (0,0))).upd f (true,.cells #[.int .i64 item] 3 (0,0))) ⟨f,0,none⟩=some (.int .i64 item):=Qv rfl;exact Qa ⟨LH.le_trans (LH.le_trans l e) c,_,_,_,rfl,Qe c.1 (Qe e.1 k),Qe c.1 c2,c3⟩
def handed(V:Nat->Value)(s:Paper->Bool):List Paper->Nat->List (List Value)
 | [],_=>[]
 | x::l,i=>if s x then [V i]::handed V s l (i+1) else handed V s l (i+1)
theorem handed_len(V:Nat->Value)(s:Paper->Bool):∀ (l:List Paper) (i:Nat),(handed V s l i).length=(l.filter s).length:=by
 intro l
 induction l with
 | nil=>intro i;rfl
 | cons x l a=>intro i;rw[handed,List.filter_cons];split<;>simp[a]
theorem handed_get(V:Nat->Value)(s:Paper->Bool):∀ (l:List Paper) (i k:Nat) xs,(handed V s l i)[k]?=some xs->∃ x j,(l.filter s)[k]?=some x/\l[j]?=some x/\xs=[V (i+j)]:=by
 intro l
 induction l with
 | nil=>intro i k xs h;simp[handed]at h
 | cons x l e =>
  intro i k xs h;rw[handed]at h;rw[List.filter_cons];split at h
  ·rename_i d;rw[if_pos d];cases k with
   | zero=>simp at h;exact⟨x,0,rfl,rfl,by simp[<- h]⟩
   | succ k =>
    obtain⟨y,j,a,b,c⟩:=e (i+1) k xs (by simpa using h);exact⟨y,j+1,by simpa using a,by simpa using b,by rw[c,show i+1+j=i+(j+1) by omega]⟩
  ·rename_i d;rw[if_neg d];obtain⟨y,j,a,b,c⟩:=e (i+1) k xs h;exact⟨y,j+1,a,by simpa using b,by rw[c,show i+1+j=i+(j+1) by omega]⟩
theorem hands99{X:XP}(hX:XOK X){h₀:LH}{d:Nat}{Q S U:Addr}{land item:Int}{p:Option Addr}{n c:Nat}{ps:List Paper}(N:h₀.get.cell? Q=some (.pointer (some ⟨d,0,none⟩)))(O:h₀.get.cell? S=some (.int .i64 land))(P:h₀.get.cell? U=some (.int .i64 item))
 (h5:h₀.get.cell? (Addr.add ⟨d,0,none⟩ 5)=some (.slice p n c))(K:Sl PaperE 4 h₀.get p n ps) :
  ∃ L,L.length=(ps.filter (showsB land item)).length/\(∀ (i:Nat) xs,L[i]?=some xs->∃ x q m c,(ps.filter (showsB land item))[i]?=some x/\xs=[paperV x q m c]/\Sl IntE 1 h₀.get q m x.items) /\
   Hands X Tryz.prog (.func (.func 168) #[] #[.pointer (some Q),.pointer (some S),.pointer (some U)]) h₀ L:=by
 let R:Nat->Value->Prop:=fun i v=>∃ x a q m c,ps[i]?=some x/\p=some a/\v=paperV x q m c/\h₀.get.cell? ((a.add (i*4)).add 0)=some (.int .i64 x.days.first)/\h₀.get.cell? ((a.add (i*4)).add 1)=some (.int .i64 x.days.last)/\h₀.get.cell? ((a.add (i*4)).add 2)=some (.int .i64 x.land)/\h₀.get.cell? ((a.add (i*4)).add 3)=some (.slice q m c)/\Sl IntE 1 h₀.get q m x.items;have hR:∀ i x,ps[i]?=some x->∃ v,R i v:=by
  intro i x s;obtain⟨a,ha,C,w,z,q,m,k,e4,e5⟩:=K.2.2 i x s;exact⟨_,x,a,q,m,k,s,ha,rfl,C,w,z,e4,e5⟩
 let V:Nat->Value:=fun i=>Classical.epsilon (R i);have hV:∀ i x,ps[i]?=some x->R i (V i):=fun i x s=>Classical.epsilon_spec (hR i x s);refine⟨handed V (showsB land item) ps 0,handed_len _ _ _ _,?_,?_⟩
 ·intro i xs hi;obtain⟨x,j,h1,W,Z⟩:=handed_get _ _ _ _ _ _ hi;rw[Nat.zero_add]at Z;obtain⟨x',a,q,m,k,g1,_,g3,_,_,_,_,g8⟩:=hV j x W;rw[W]at g1;cases g1;exact⟨x,q,m,k,h1,by rw[Z,g3],g8⟩
 ·intro y J E _ _ g h hle hJ;generalize hL:handed V (showsB land item) ps 0=L at g ⊢;refine Zl hX (by rfl) (?_:FW X Tryz.prog 168 #[y,.pointer (some Q),.pointer (some S),.pointer (some U)] h _);refine w99 hX ?_;have hn:=K.1;have hb:=K.2.1;have y0:=Qe hle.1 N;have y5:=Qe hle.1 h5;refine gL3 y0 ?_;refine gS2 rfl ?_;refine gL1 y5 ?_;refine Qz (fun mm o h'=>h₀.le h'/\∃ (j cnt:Nat),o=[.int .i64 j]/\j<=n/\mm=n-j/\J cnt h'/\cnt<=L.length/\L.drop cnt=handed V (showsB land item) (ps.drop j) j) (n:=n) ⟨hle,0,0,rfl,Nat.zero_le _,by omega,hJ,Nat.zero_le _,by rw[<- hL];rfl⟩ ?_;rintro Y mm o t hY ⟨f,j,cnt,rfl,hj,rfl,u,G,e⟩;refine yJ (fun C=>?_) (fun C=>?_)
  ·obtain⟨x,s⟩ : ∃ x,ps[j]?=some x:=⟨ps[j]'(by omega),List.getElem?_eq_getElem (by omega)⟩
   obtain⟨x',a,q,m,k,g1,ha,F,c0,c1,c2,c3,H⟩:=hV j x s;rw[s]at g1;cases g1;have d0:=Qe f.1 c0;have d1:=Qe f.1 c1;have d2:=Qe f.1 c2;have d3:=Qe f.1 c3;have w1:=Qe f.1 O;have w2:=Qe f.1 P;rw[Jh s,handed]at e;refine gZ ?_;have skip:showsB land item x=false->(T.leaf (.again [.int .i64 (wrap .i64 ((j:Int)+1))])).wp X Tryz.prog (fun l h'=>l.go h' Y (fun o h'=>T.wp X Tryz.prog (T.popI .i64 o fun n o=>T.unNil o (T.leaf (.ret (.tuple #[])))) (retQ fun _ h'=>h₀.le h'/\(J L.length h'\/E h')) h') (fun o h'=>T.wp X Tryz.prog (T.popI .i64 o fun n o=>T.unNil o (T.leaf (.ret (.tuple #[])))) (retQ fun _ h'=>h₀.le h'/\(J L.length h'\/E h')) h') (fun _ _ h'=>T.wp X Tryz.prog .fail (retQ fun _ h'=>h₀.le h'/\(J L.length h'\/E h')) h')) t:=by
    intro I;rw[if_neg (by rw[I];simp)]at e;refine Qi (hY (n-(j+1)) _ _ (by omega) ⟨f,j+1,cnt,?_,by omega,rfl,u,G,e⟩);rw[Qh (by omega) (by omega)];rfl
   refine Ql (fun w=>?_) (fun w=>?_)
   ·refine gZ ?_;refine t_pu (c100 (H.le IntE.grow f.1) item) ?_;refine yI (fun z=>?_) (fun z=>?_)
    ·have M:showsB land item x=true:=by unfold showsB;rw[w,z];rfl
     rw[if_pos M]at e;have r:L[cnt]?=some [V j]:=by
      have:(L.drop cnt)[0]?=some [V j]:=by rw[e];rfl
      simpa using this
     have b0:cnt<L.length:=(List.getElem?_eq_some_iff.1 r).1;have A:=g cnt t [V j] f r u;rw[F]at A;refine Jb A ?_;rintro b a0 ⟨B,⟨rfl,D⟩|⟨rfl,hE⟩⟩
     ·refine yF ?_;refine Qi (hY (n-(j+1)) _ _ (by omega) ⟨B,j+1,cnt+1,?_,by omega,rfl,D,by omega,?_⟩)
      ·rw[Qh (by omega) (by omega)];rfl
      ·rw[<- List.drop_drop,e];rfl
     ·refine yT ?_;refine gZ ?_;exact Qa ⟨B,.inr hE⟩
    ·exact skip (by unfold showsB;rw[w,z];rfl)
   ·exact skip (by unfold showsB;rw[w];rfl)
  ·refine gZ ?_;refine Qa ⟨f,.inl ?_⟩;rw[List.drop_eq_nil_of_le (by omega:ps.length<=j),handed]at e;have:L.length<=cnt:=List.drop_eq_nil_iff.1 e;obtain rfl:cnt=L.length:=by omega
   exact u
end
section
attribute [local irreducible] T.wp CV FWK
variable {h:LH}{f:FileC}{u:UseFile}
theorem g30:Tryz.prog.eqGuardType Tryz.prog.depth 46=false:=by kernel_rfl
theorem c60{d m:Nat}(k:Desk h.get d m f u)(j:numbersF u=0)(land item day:Int)(F:0<=day/\day<=2000) :
  De 77 #[.pointer (some ⟨d,0,none⟩),.int .i64 land,.int .i64 item,.int .i64 day] h d m f u fun r _=>r=.int .i64 (safe u land item day):=by
 refine w60 Qk ?_;refine t_de (c55 k (Kb j).2.2.2 day F) ?_;rintro _ D mv k1 rfl;obtain⟨f0,f1,f2,f3,f4,f5,f6⟩:=k1.file;refine gZ ?_;refine t_pu (c81 _ _ _) ?_;refine yI (fun e=>?_) (fun e=>?_)
 ·exact Qa ⟨mv,k1,by rw[safe,if_pos e]⟩
 refine t_gr (c88 _ _ _) ?_;rintro _ l g ⟨J,K,M,rfl,y,z,A⟩;have o:=k1.le g.1;obtain⟨L,t,v,E⟩:=hands99 Qk y z A o.file.f5 o.rep.papers;refine t_each (LH.le_refl l) E (fun i B h'=>∃ out,B=[.int .i64 0,.int .i64 out]/\safe u land item day=safeGo (window u day) ((shown u land item).drop i) out) ⟨2,rfl,by rw[safe,if_neg (by rw[e];simp)];rfl⟩ ?_ ?_
 ·rintro B h' hle ⟨out,rfl,hc⟩;rw[List.drop_eq_nil_of_le (by rw[t];exact Nat.le_refl _),safeGo]at hc;refine gZ ?_;exact Qa ⟨mv.trans (Mv.of_le (LH.le_trans g hle)),o.le hle.1,by rw[hc]⟩
 ·rintro i xs B h' G hle ⟨out,rfl,hc⟩ Y C;obtain⟨x,q,n,c,I,rfl,H⟩:=v i xs G;have w:(shown u land item)[i]?=some x:=I;rw[Jh w,safeGo]at hc;unfold paperV;refine gZ ?_;refine t_eq2 Y4 g30 ?_;refine yI (fun p=>?_) (fun p=>?_)
  ·refine Ww hle ?_;have a:insideB (window u day) x.days=true:=p;rw[if_pos a]at hc;refine gZ ?_;exact Qa ⟨mv.trans (Mv.of_le (LH.le_trans g hle)),o.le hle.1,by rw[hc]⟩
  ·have a:insideB (window u day) x.days=false:=p;rw[if_neg (by rw[a];simp)]at hc;refine Ql (fun s=>?_) (fun s=>?_)
   ·have b:meetsB (window u day) x.days=true:=s;rw[if_pos b]at hc;exact Wj hle (C _ _ hle ⟨0,rfl,hc⟩)
   ·have b:meetsB (window u day) x.days=false:=s;rw[if_neg (by rw[b];simp)]at hc;exact Wj hle (C _ _ hle ⟨out,rfl,hc⟩)
def safeR(u:UseFile)(land item day:Int):Value :=
 if openF u [landQ u land,itemQ u item,dayQ day]≠0 then .tuple #[.int .i64 0,.int .i64 (openF u [landQ u land,itemQ u item,dayQ day])] else .tuple #[.int .i64 (safe u land item day),.int .i64 0]
theorem c19(z:Parts h.get)(hu:FileR h.get f u)(land item day:Int):Gr Tryz.prog 23 #[fileV f u,land,item,day] h fun r _=>r=safeR u land item day:=by
 refine w19 Qk ?_;refine t_gr (c58 u land) ?_;rintro v0 n j ⟨C,w⟩;refine gZ ?_;refine t_gr (c59 u item) ?_;rintro v1 o g ⟨D,x⟩;refine gZ ?_;refine t_gr (c54 u day) ?_;rintro v2 p b ⟨E,y⟩;refine gZ ?_;refine asks3 C (w.le (LH.le_trans g b)) D (x.le b) E y fun r q l B=>?_;refine gZ ?_;have a:=LH.le_trans (LH.le_trans (LH.le_trans j g) b) l;refine Jn (c53 (f:=f) (z.le a.1) (hu.le a.1) B) ?_;rintro v s ⟨i,⟨c,rfl⟩|⟨h0,d,m,rfl,F,hm,k⟩⟩
 ·refine gZ ?_;refine Ql (fun _=>?_) (fun e=>absurd (by simpa using e) c);refine Qa ⟨LH.le_trans a i,?_⟩;show _=safeR u land item day;rw[safeR,if_pos c]
 ·refine yF ?_;have A:=dayQ_zero (D5 h0 _ (by simp;exact .inr (.inr rfl)));refine t_de (c60 k (Zc h0).1 land item day A) ?_;rintro _ t mv G rfl;refine gZ ?_;refine Qa ⟨LH.le_trans a (Mv.le_of i hm mv),?_⟩;show _=safeR u land item day;rw[safeR,if_neg (by simpa using h0)]
def weakR(u:UseFile)(land item:Int):Value :=
 if openF u [landQ u land,itemQ u item]≠0 then .tuple #[.int .i64 0,.int .i64 (openF u [landQ u land,itemQ u item])] else .tuple #[.int .i64 (weak u land item),.int .i64 0]
theorem c21(K:Parts h.get)(hu:FileR h.get f u)(land item:Int):Gr Tryz.prog 24 #[fileV f u,land,item] h fun r _=>r=weakR u land item:=by
 refine w21 Qk ?_;refine t_gr (c58 u land) ?_;rintro v0 A t ⟨Q,H⟩;refine gZ ?_;refine t_gr (c59 u item) ?_;rintro v1 B j ⟨R,I⟩;refine gZ ?_;refine Y1 Q (H.le j) R I fun r C w L=>?_;refine gZ ?_;have a:=LH.le_trans (LH.le_trans t j) w;refine Jn (c53 (f:=f) (K.le a.1) (hu.le a.1) L) ?_;rintro v i ⟨c,⟨g,rfl⟩|⟨h0,d,m,rfl,S,hm,k⟩⟩
 ·refine gZ ?_;refine Ql (fun _=>?_) (fun e=>absurd (by simpa using e) g);refine Qa ⟨LH.le_trans a c,?_⟩;show _=weakR u land item;rw[weakR,if_pos g]
 ·refine yF ?_;have b:=(Zc h0).1;have p:=(Kb b).2.2.1;refine Qz (fun F G h'=>Mv m i h'/\Desk h'.get d m f u/\∃ x:Int,G=[.int .i64 0,.int .i64 0,.int .i64 x]/\0<=x/\x<=2001/\F=(2001-x).toNat/\weak u land item=weakGo (fun d=>decide (safe u land item d≠1)) (2001-x).toNat x)
   ⟨Mv.refl,k,u.from_,rfl,by omega,by omega,rfl,rfl⟩ ?_
  rintro Y F G D J ⟨mv,O,x,rfl,q,M,rfl,hc⟩;refine yJ (fun z=>?_) (fun z=>?_)
  ·refine t_de (c60 O b land item x ⟨q,z⟩) ?_;rintro _ E l P rfl;refine gZ ?_;obtain⟨y,N⟩ : ∃ y,(2001-x).toNat=y+1:=⟨(2000-x).toNat,by omega⟩
   have s:(2001-(x+1)).toNat=y:=by omega
   rw[N,weakGo]at hc;refine Ql (fun n=>?_) (fun n=>?_)
   ·refine gZ ?_;refine Qa ⟨LH.le_trans a (Mv.le_of c hm (mv.trans l)),?_⟩;show _=weakR u land item;rw[weakR,if_neg (by simpa using h0),hc,if_pos (by simpa using n)]
   ·rw[if_neg (by simpa using n)]at hc;refine Qi (J (2001-(x+1)).toNat _ _ (by omega) ⟨mv.trans l,P,x+1,?_,by omega,by omega,rfl,by rw[s];exact hc⟩);rw[Qh (by omega) (by omega)]
  ·refine gZ ?_;have o:(2001-x).toNat=0:=by omega
   rw[o,weakGo]at hc;refine Qa ⟨LH.le_trans a (Mv.le_of c hm mv),?_⟩;show _=weakR u land item;rw[weakR,if_neg (by simpa using h0),hc]
end
section
attribute [local irreducible] T.wp CV FWK
def ReqEnc(h₀:Cells)(x:Request)(ws:List Value):Prop:=∃ q m c,ws=[.int .i64 x.day,.int .i64 x.land,.slice q m c]/\Sl IntE 1 h₀ q m x.items
variable {h₀:Cells}{h:LH}{d m:Nat}{f:FileC}{u:UseFile}
theorem ReqEnc.len:∀ x ws,ReqEnc h₀ x ws->ws.length=3:=by rintro x _ ⟨q,m,c,rfl,_⟩;rfl
theorem ReqEnc.e{h':Cells}(hr:Rd h₀ h'):∀ a x ws,ReqEnc h₀ x ws->(∀ (j:Nat) w,ws[j]?=some w->h'.cell? (a.add j)=some w)->RequestE h' a x:=by
 rintro a x _ ⟨q,m,c,rfl,b⟩ hc;exact⟨hc 0 _ rfl,hc 1 _ rfl,q,m,c,hc 2 _ rfl,b.rd IntE.grow hr⟩
theorem c101(k:Desk h.get d m f u)(B:checkF u=0)(land item day:Int) :
  Gr Tryz.prog 169 #[.pointer (some ⟨d,0,none⟩),land,item,day] h fun r h'=>∃ p n c,r=.slice p n c/\Sl RequestE 3 h'.get p n (against u land item day):=by
 refine w101 Qk ?_;obtain⟨f0,f1,f2,f3,f4,f5,f6⟩:=k.file;have hlen:=(Kc B).1;have P:=k.rep.requests.1;refine gZ ?_;refine Qz (fun J K h'=>h.le h'/\∃ (i:Nat) (p:Option Addr) (n c:Nat) (rs:List Request),K=[.slice p n c,.int .i64 i]/\i<=f.n6/\J=f.n6-i/\Growing (ReqEnc h.get) 51 3 h.get h'.get p n c rs/\rs.length<=i/\against u land item day=rs++(u.requests.drop i).filter (agB land item day))
  ⟨LH.le_refl _,0,none,0,0,[],rfl,Nat.zero_le _,rfl,Growing.nil,Nat.le_refl _,rfl⟩ ?_
 rintro Y J K b H ⟨hle,i,p,n,c,rs,rfl,W,rfl,g,R,hc⟩;refine yJ (fun M=>?_) (fun M=>?_)
 ·obtain⟨x,a,S,V,D,E,q,v,t,F,G⟩:=k.rep.requests.at (i:=i) (by omega);have D:=Qe hle.1 D;have E:=Qe hle.1 E;have F:=Qe hle.1 F;rw[Jh S,List.filter_cons]at hc;have skip:agB land item day x=false->Y [.slice p n c,.int .i64 (wrap .i64 ((i:Int)+1))] b:=by
   intro C;rw[if_neg (by rw[C];simp)]at hc;refine H (f.n6-(i+1)) _ _ (by omega) ⟨hle,i+1,p,n,c,rs,?_,by omega,rfl,g,by omega,hc⟩;rw[Qh (by omega) (by omega)];rfl
  refine yI (fun l=>?_) (fun l=>?_)
  ·refine t_if (fun y=>?_) (fun y=>?_)
   ·refine t_pu (c100 (G.le IntE.grow hle.1) item) ?_;refine yI (fun z=>?_) (fun z=>?_)
    ·have A:agB land item day x=true:=by unfold agB;rw[l,z];simp[y]
     rw[if_pos A]at hc;refine Zu und24 Dp (by decide) (by decide) (cells:=#[.int .i64 x.day,.int .i64 x.land,.slice q v t]) (by kernel_rfl) fun r hr=>?_;have s:b.le _:=Qr (x:=(true,.cells #[.int .i64 x.day,.int .i64 x.land,.slice q v t] 51 (0,0))) hr;have Q:=g.count ReqEnc.len (by omega);refine gZ ?_;refine D3 (x:=x) (ws:=[.int .i64 x.day,.int .i64 x.land,.slice q v t]) rfl rfl und24 und24 Dp rfl (by omega) (by omega) (g.le s.1) (LH.le_trans hle s) ⟨q,v,t,rfl,G⟩ rfl ?_ ?_ ?_
     ·intro j w O;rw[Qo,Nat.zero_add];exact Qv (by simpa using O)
     ·intro w hw;simp at hw;rcases hw with rfl|rfl|rfl<;>rfl
     ·intro U L I o _ N;refine gZ ?_;refine Qi (H (f.n6-(i+1)) _ _ (by omega) ⟨o,i+1,U,n+1,L,rs++[x],?_,by omega,rfl,N,by simp;omega,by rw[hc];simp⟩);rw[Qh (by omega) (by omega)];rfl
    ·exact Qi (skip (by unfold agB;rw[l,z];simp))
   ·exact Qi (skip (by unfold agB;rw[l];simp[y]))
  ·exact Qi (skip (by unfold agB;rw[l];rfl))
 ·refine gZ ?_;rw[List.drop_eq_nil_of_le (by omega)]at hc;simp at hc;refine Qa ⟨hle,p,n,c,rfl,?_⟩;rw[hc];exact g.sl ReqEnc.len (by omega) (ReqEnc.e (Rd.of_le hle.1)) (by omega)
theorem or_bits{a k:Nat}(f:a<2^32)(g:k<32):wrap .i64 (((BitVec.ofInt 64 (a:Int) ||| BitVec.ofInt 64 (wrap .i64 (1*2^min (k:Int).toNat 64))).toNat:Nat):Int)=((a ||| 2^k:Nat):Int):=by
 have hm:min (k:Int).toNat 64=k:=by simp;omega
 have c:(2:Nat)^k<2^32:=Nat.pow_lt_pow_right (by omega) g;have b:(1*2^k:Int)=((2^k:Nat):Int):=by simp
 rw[hm,b];generalize i:(2:Nat)^k=q at c;have hw:wrap .i64 ((q:Nat):Int)=(q:Int):=Qh (by omega) (by omega);rw[hw];have d:(BitVec.ofInt 64 (a:Int)).toNat=a:=by rw[BitVec.toNat_ofInt];omega
 have e:(BitVec.ofInt 64 (q:Int)).toNat=q:=by rw[BitVec.toNat_ofInt];omega
 rw[BitVec.toNat_or,d,e];have h:a ||| q<2^32:=Nat.or_lt_two_pow f c;exact Qh (by omega) (by omega)
theorem c107(k:Desk h.get d m f u)(o:checkF u=0){p:Option Addr}{n c:Nat}{l:List Request}(v:Sl RequestE 3 h.get p n l)(E:l.length<=4)(g:∀ r∈l,0<=r.day/\r.day<=2000)(day:Int) :
  De 196 #[.pointer (some ⟨d,0,none⟩),.slice p n c,.int .i64 day] h d m f u fun r _=>r=.int .i64 (meets u l day):=by
 refine w107 Qk ?_;have M:=v.1;refine Qz (fun B C h'=>Mv m h h'/\Desk h'.get d m f u/\∃ (i acc:Nat),C=[.int .i64 acc,.int .i64 i]/\i<=n/\B=n-i/\acc<2^32/\meets u l day=meetsGo u day (l.drop i) i acc)
  ⟨Mv.refl,k,0,0,rfl,Nat.zero_le _,rfl,by omega,rfl⟩ ?_
 rintro Y B C y t ⟨mv,k1,i,acc,rfl,L,rfl,e,hc⟩;refine yJ (fun D=>?_) (fun D=>?_)
 ·obtain⟨x,a,w,K,G,H,q,N,F,I,J⟩:=(v.rd RequestE.grow (mv.rd k.isMap)).at (i:=i) (by omega);rw[Jh w,meetsGo]at hc;refine gZ ?_;have s:=g x (List.mem_of_getElem? w);refine t_de (c55 k1 (Kb (Kn o)).2.2.2 x.day s) ?_;rintro _ z j A rfl;refine gZ ?_;refine t_pu (c81 _ _ _) ?_;refine yI (fun b=>?_) (fun b=>?_)
  ·rw[if_pos b]at hc;refine gZ ?_;rw[or_bits e (by omega)];refine Qi (t (n-(i+1)) _ _ (by omega) ⟨mv.trans j,A,i+1,acc ||| 2^i,?_,by omega,rfl,Nat.or_lt_two_pow e (Nat.pow_lt_pow_right (by omega) (by omega)),hc⟩);rw[Qh (by omega) (by omega)];rfl
  ·rw[if_neg (by rw[b];simp)]at hc;refine Qi (t (n-(i+1)) _ _ (by omega) ⟨mv.trans j,A,i+1,acc,?_,by omega,rfl,e,hc⟩);rw[Qh (by omega) (by omega)];rfl
 ·refine gZ ?_;rw[List.drop_eq_nil_of_le (by omega),meetsGo]at hc;exact Qa ⟨mv,k1,by rw[hc]⟩
end
section
attribute [local irreducible] T.wp CV FWK
def MapIs(h:Cells)(a:Nat)(R:Nat->Prop):Prop:=∃ es,MapAt h a es/\(∀ e∈es.toList,∃ n:Nat,e.key=.int .i64 n/\e.val=.bool true/\R n)/\∀ n,R n->∃ e∈es.toList,e.key=.int .i64 (n:Int)
variable {h:Cells}{a n c d m:Nat}{R:Nat->Prop}{es es':Array MapEntry}{X:XP}{Q:Leaf->LH->Prop}{K:Value->T}{f:FileC}{u:UseFile}
theorem MapIs.isMap(m:MapIs h a R):∃ es c,h a=some (true,.map es c):=by obtain⟨es,⟨c,b⟩,_⟩:=m;exact⟨es,c,b⟩
theorem MapIs.mv{m a:Nat}{h h':LH}{R:Nat->Prop}(b:a≠m)(mv:Mv m h h')(hm:MapIs h.get a R):MapIs h'.get a R:=by
 obtain⟨es,⟨c,d⟩,e⟩:=hm;exact⟨es,⟨c,mv.keep _ _ b d⟩,e⟩
theorem MapIs.congr{d:Nat->Prop}(hm:MapIs h a R)(f:∀ n,R n↔d n):MapIs h a d:=by
 obtain⟨es,g,i,j⟩:=hm;refine⟨es,g,fun e he=>?_,fun n k=>j n ((f n).2 k)⟩;obtain⟨n,a,b,c⟩:=i e he;exact⟨n,a,b,(f n).1 c⟩
theorem MapIs.keys(b:∀ e∈es.toList,∃ n:Nat,e.key=.int .i64 n/\e.val=.bool true/\R n):∀ e∈es.toList,IsKey Tryz.prog 3 e.key:=fun e he=>by
 obtain⟨n,h,_⟩:=b e he;exact .inl ⟨Y9,n,h⟩
theorem t_lookSet{h:LH}(hm:MapIs h.get a R)(k:R n->(K (.bool true)).wp X Tryz.prog Q h)(l:¬ R n->(K (.bool false)).wp X Tryz.prog Q h):(T.sem false (Instr.lookup 198 (.map (some a)) (.int .i64 n) false) K).wp X Tryz.prog Q h:=by
 obtain⟨es,b,f,g⟩:=hm;refine Ut und138 inf4 b (.inl ⟨Y9,_,rfl⟩) (MapIs.keys f) (fun e he c=>?_) fun d=>?_
 ·obtain⟨m,g1,i,j⟩:=f e he;rw[c]at g1;have:n=m:=by simp at g1;omega
  subst this;rw[i];exact k j
 ·refine l fun hr=>?_;obtain⟨e,he,c⟩:=g n hr;exact d e he c
theorem t_addSet{h:LH}(hm:MapIs h.get a R)(q:∀ es c,MapIs (h.get.upd a (true,.map es c)) a (fun x=>R x\/x=n)->(K undef).wp X Tryz.prog Q { h with get:=h.get.upd a (true,.map es c) }) :
  (T.sem false (Sem.bind (Instr.mapUpdate 198 (.map (some a)) (.int .i64 n) (.bool true)) fun _=>pure (.tuple #[])) K).wp X Tryz.prog Q h:=by
 obtain⟨es,d,k,m⟩:=hm;refine t_mapUpdate und138 d (.inl ⟨Y9,_,rfl⟩) (MapIs.keys k) fun es' c g1 o p=>q es' c ⟨es',⟨c,Qm _ _ _⟩,fun e he=>?_,fun x j=>?_⟩
 ·rcases g1 e he with⟨k1,r⟩|k1
  ·exact⟨n,k1,r,.inr rfl⟩
  ·obtain⟨s,a,b,c⟩:=k e k1;exact⟨s,a,b,.inl c⟩
 ·rcases j with j|rfl
  ·obtain⟨e,he,i⟩:=m x j;obtain⟨l,f,g⟩:=p e he;exact⟨l,f,g.trans i⟩
  ·exact o
theorem rd_updMap(hm:∃ es c,h a=some (true,.map es c)):Rd h (h.upd a (true,.map es' c)):=by
 intro x v hc;have b:x.block≠a:=by
  intro e;obtain⟨es,c,hm⟩:=hm;unfold Cells.cell? at hc;rw[e,hm]at hc;cases hc
 unfold Cells.cell? at hc ⊢;rw[Qp _ _ b];exact hc
theorem desk_other(k:Desk h d m f u)(b:a≠m)(hm:∃ es c,h a=some (true,.map es c)):Desk (h.upd a (true,.map es' c)) d m f u:=by
 have hr:=rd_updMap (es':=es') (c:=c) hm;refine⟨k.file.rd hr,k.rep.rd hr,fun j l=>hr _ _ (k.counts j l),hr _ _ k.mapp,?_⟩;obtain⟨es,e,g,i⟩:=k.map;exact⟨es,e,by rw[Qp _ _ (Ne.symm b)];exact g,i⟩
theorem mv_other{h h':LH}(mv:Mv m h h')(d:h.get a=none)(b:a≠m):Mv m h { h' with get:=h'.get.upd a (true,.map es c) }:=by
 refine⟨fun r x hr e=>?_,fun es c hm=>?_,mv.same⟩
 ·have:r≠a:=by rintro rfl;rw[d]at e;cases e
  show Cells.upd _ _ _ r=_;rw[Qp _ _ this];exact mv.keep r x hr e
 ·obtain⟨es',f,g⟩:=mv.isMap es c hm;exact⟨es',f,by show Cells.upd _ _ _ m=_;rw[Qp _ _ (Ne.symm b)];exact g⟩
section
variable {X:XP} {Q:Leaf->LH->Prop} {h h':LH} {d m:Nat} {f:FileC} {u:UseFile} {o:Option (Nat×(Nat->Prop))}
structure St(h:LH)(d m:Nat)(f:FileC)(u:UseFile)(h':LH)(o:Option (Nat×(Nat->Prop))):Prop where
 mv:Mv m h h'
 desk:Desk h'.get d m f u
 made:∀ a R,o=some (a,R)->MapIs h'.get a R/\a≠m/\h.get a=none
variable {k:Value->T}{n:Nat}
theorem s_from(s:St h d m f u h' o){k:Int->T}(a:(k u.from_).wp X Tryz.prog Q h'):(T.loadI .i64 (Addr.add (Addr.add (Addr.add ⟨d,0,none⟩ 0) 0) 2) k).wp X Tryz.prog Q h':=gL0 s.desk.file.f2 a
theorem s_make(hm:∃ es c,h.get m=some (true,.map es c))(s:St h d m f u h' none)(p:∀ a g,St h d m f u g (some (a,fun _=>False))->(k (.map (some a))).wp X Tryz.prog Q g):(T.sem false (Instr.makeMap 198 none) k).wp X Tryz.prog Q h':=by
 refine D2 fun a i=>p a _ ?_;have j:h'.le _:=Qr (x:=(true,.map #[] 0)) i;have b:h.get a=none:=by
  cases r:h.get a with
  | none=>rfl
  | some x =>
   by_cases e:a=m
   ·subst e;obtain⟨es,c,hm⟩:=hm;obtain⟨es',v,o⟩:=s.mv.isMap es c hm;rw[o]at i;cases i
   ·rw[s.mv.keep a x e r]at i;cases i
 have l:a≠m:=by rintro rfl;obtain⟨es,c,hm⟩:=hm;rw[hm]at b;cases b
 refine⟨s.mv.trans (Mv.of_le j),s.desk.le j.1,fun t R e=>?_⟩;cases e;exact⟨⟨#[],⟨0,Qm _ _ _⟩,fun e he=>by simp at he,fun n q=>q.elim⟩,l,b⟩
theorem s_call(i:checkF u=0)(hm:∃ es c,h.get m=some (true,.map es c))(s:St h d m f u h' o){p:Option Addr}{c:Nat}{l:List Request}(x:Sl RequestE 3 h.get p n l)(j:l.length<=4)(g:∀ r∈l,0<=r.day/\r.day<=2000){day:Int}(w:∀ b,St h d m f u b o->(k (.int .i64 (meets u l day))).wp X Tryz.prog Q b):(T.call false 196 #[.pointer (some ⟨d,0,none⟩),.slice p n c,.int .i64 day] k).wp X Tryz.prog Q h':=by
 refine t_de (c107 s.desk i (x.rd RequestE.grow (s.mv.rd hm)) j g day) ?_;rintro _ b mv y rfl;refine w b ⟨s.mv.trans mv,y,fun a R e=>?_⟩;obtain⟨t,q,v⟩:=s.made a R e;exact⟨t.mv q mv,q,v⟩
theorem s_add{a:Nat}{R:Nat->Prop}(s:St h d m f u h' (some (a,R))){K:Value->T}(k:∀ b,St h d m f u b (some (a,fun x=>R x\/x=n))->(K undef).wp X Tryz.prog Q b) :
  (T.sem false (Sem.bind (Instr.mapUpdate 198 (.map (some a)) (.int .i64 n) (.bool true)) fun _=>pure (.tuple #[])) K).wp X Tryz.prog Q h':=by
 obtain⟨i,g,j⟩:=s.made a R rfl;refine t_addSet i fun es c hm=>k _ ⟨mv_other s.mv j g,desk_other s.desk g i.isMap,fun o l e=>?_⟩;cases e;exact⟨hm,g,j⟩
end
theorem meets_lt(u:UseFile)(day:Int):∀ (l:List Request) (k acc:Nat),acc<2^(k+l.length)->meetsGo u day l k acc<2^(k+l.length):=by
 intro l
 induction l with
 | nil=>intro k acc h;exact h
 | cons r l a =>
  intro k acc h;rw[meetsGo];have e:k+(r::l).length=k+1+l.length:=by simp;omega
  rw[e]at h ⊢;refine a _ _ ?_;split
  ·exact Nat.or_lt_two_pow h (Nat.pow_lt_pow_right (by omega) (by omega))
  ·exact h
theorem D8(u:UseFile)(l:List Request)(day:Int):meets u l day<2^l.length:=by
 have:=meets_lt u day l 0 0 (Nat.two_pow_pos _);rw[Nat.zero_add]at this;exact this
theorem or_small{b:Nat}(f:a<16)(hb:b<16):wrap .i64 (((BitVec.ofInt 64 (a:Int) ||| BitVec.ofInt 64 (b:Int)).toNat:Nat):Int)=((a ||| b:Nat):Int):=by
 have c:(BitVec.ofInt 64 (a:Int)).toNat=a:=by rw[BitVec.toNat_ofInt];omega
 have d:(BitVec.ofInt 64 (b:Int)).toNat=b:=by rw[BitVec.toNat_ofInt];omega
 rw[BitVec.toNat_or,c,d];have e:a ||| b<2^4:=Nat.or_lt_two_pow (by omega) (by omega);exact Qh (by omega) (by omega)
theorem c102{h:LH}(k:Desk h.get d m f u)(W:checkF u=0){p:Option Addr}{l:List Request}(hl:Sl RequestE 3 h.get p n l)(Z:l.length<=4)(H:∀ r∈l,0<=r.day/\r.day<=2000)(land item:Int) :
  De 170 #[.pointer (some ⟨d,0,none⟩),.int .i64 land,.int .i64 item,.slice p n c] h d m f u fun r _=>r=.bool (!can u land item l):=by
 refine w102 Qk ?_;have hn:=hl.1;have hm:=k.isMap;refine gZ ?_;refine Q1 (fun F h'=>∃ a,F=[.map (some a)]/\St h d m f u h' (some (a,fun x=>False\/x=meets u l u.from_))) ?_ ?_
 ·have s0:St h d m f u h none:=⟨Mv.refl,k,fun a R e=>by cases e⟩
  refine gZ ?_
  repeat' (first
   | refine Jw ?_ ?_
   | (refine s_make hm (by assumption) fun a hx s=>?_)
   | (refine s_call W hm (by assumption) hl Z H fun hx s=>?_)
   | (refine s_add (by assumption) fun hx s=>?_)
   | (refine s_from (by assumption) ?_)
   | (with_reducible refine gY ?_)|(with_reducible refine gD ?_)|(with_reducible refine gP ?_)|((with_reducible apply gT);first|exact rfl|exact True.intro)|((with_reducible apply gS2);exact rfl)
   | (refine Qi ⟨_,rfl,by assumption⟩))
 ·rintro F l2 ⟨a0,rfl,s1⟩;refine gZ ?_;obtain⟨am,k0,n2⟩:=s1.made a0 _ rfl;refine t_gr (c88 _ _ _) ?_;rintro _ o c0 ⟨z0,z1,z2,rfl,r1,u1,x1⟩;have k2:=s1.desk.le c0.1;have m1:=k2.isMap;let h₀:LH:={ o with get:=fun b=>if b=m then none else o.get b }
  have y1:h₀.le o:=⟨fun b x hb=>by
   show o.get b=some x;have V:(if b=m then none else o.get b)=some x:=hb;split at V
   ·cases V
   ·exact V,rfl,rfl,rfl⟩
  have N:Rd o.get h₀.get:=by
   intro x v hc;have P:x.block≠m:=by
    intro e;obtain⟨es,c,hm⟩:=m1;unfold Cells.cell? at hc;rw[e,hm]at hc;cases hc
   unfold Cells.cell? at hc ⊢;have e0:h₀.get x.block=o.get x.block:=if_neg P;rw[e0];exact hc
  obtain⟨L,y0,a1,hH⟩:=hands99 Qk (N _ _ r1) (N _ _ u1) (N _ _ x1) (N _ _ k2.file.f5) (k2.rep.papers.rd PaperE.grow N);have b2:=s1.mv.trans (Mv.of_le (m:=m) c0);have n0:∀ R,reachL u l (shown u land item) [meets u l u.from_]=reachL u l [] R->can u land item l=R.contains (2^l.length-1):=by
   intro R e;unfold can;rw[e];rfl
  have p1:(2:Nat)^l.length<=16:=by
   have:(2:Nat)^l.length<=2^4:=Nat.pow_le_pow_right (by omega) Z;omega
  have u0:0<(2:Nat)^l.length:=Nat.two_pow_pos _;have o0:(1*2^min (n:Int).toNat 64:Int)=((2^l.length:Nat):Int):=by
   have:min (n:Int).toNat 64=l.length:=by rw[hn];simp;omega
   rw[this];simp
  generalize hP:(2:Nat)^l.length=M at p1 u0 o0;have m0:wrap .i64 (wrap .i64 (1*2^min (n:Int).toNat 64)-1)=((M-1:Nat):Int):=by
   rw[o0,Qh (n:=(M:Int)) (by omega) (by omega),Qh (by omega) (by omega)];omega
  have U:wrap .i64 (((M-1:Nat):Int)+1)=(M:Int):=by
   rw[Qh (by omega) (by omega)];omega
  simp only[m0,U];refine t_each y1 hH (fun i F h'=>Mv m h h'/\Desk h'.get d m f u/\∃ a R,F=[.map (some a)]/\a≠m/\MapIs h'.get a (fun x=>x∈R)/\(∀ s∈R,s<M)/\reachL u l (shown u land item) [meets u l u.from_]=reachL u l ((shown u land item).drop i) R)
   ⟨b2,k2,a0,[meets u l u.from_],rfl,k0,(am.mv k0 (Mv.of_le (m:=m) c0)).congr (fun x=>by simp),by intro s hs;simp at hs;subst hs;rw[<- hP];exact D8 u l _,rfl⟩ ?_ ?_
  ·rintro F t hle ⟨K,k3,a,R,rfl,P,A,hR,hc⟩;rw[List.drop_eq_nil_of_le (by rw[y0];exact Nat.le_refl _)]at hc;have z:=n0 R hc;rw[hP]at z;refine gZ ?_;refine t_lookSet A (fun X=>?_) fun I=>?_
   ·refine gZ ?_;refine Qa ⟨K,k3,?_⟩;rw[z];have:R.contains (M-1)=true:=by simpa using X
    rw[this]
   ·refine gZ ?_;refine Qa ⟨K,k3,?_⟩;rw[z];have:R.contains (M-1)=false:=by simpa using I
    rw[this]
  ·rintro i xs F t hi hle ⟨K,k3,a,R,rfl,P,A,hR,hc⟩ Y hY;obtain⟨x,q,nq,cq,hx,rfl,r2⟩:=a1 i xs hi;have w0:(shown u land item)[i]?=some x:=hx;have u2:=(Gy W).2 x (List.mem_filter.1 (List.mem_of_getElem? w0)).1;rw[Jh w0,reachL]at hc;unfold paperV;refine gZ ?_;have b0:=k3.isMap;refine D2 fun b hb=>?_;refine gZ ?_;have g0:t.le _:=Qr (x:=(true,.map #[] 0)) hb;have O:b≠m:=by rintro rfl;obtain⟨es,c,b0⟩:=b0;rw[b0]at hb;cases hb
   have o2:b≠a:=by rintro rfl;obtain⟨es,c,ha⟩:=A.isMap;rw[ha]at hb;cases hb
   -- j2 days of j2 paper
   refine Qz (fun mm F h'=>Mv m t h'/\h₀.le h'/\Desk h'.get d m f u/\∃ w:Int,F=[.int .i64 w]/\x.days.first<=w/\w<=x.days.last+1/\mm=(x.days.last+1-w).toNat/\MapIs h'.get b (fun y=>∃ s∈R,∃ e:Int,x.days.first<=e/\e<w/\y=s ||| meets u l e))
    ⟨Mv.of_le g0,LH.le_trans hle g0,k3.le g0.1,x.days.first,rfl,by omega,by omega,rfl,⟨#[],⟨0,Qm _ _ _⟩,fun e he=>by simp at he,fun y hy=>by obtain⟨s,_,e,g,G,_⟩:=hy;omega⟩⟩ ?_
   rintro Y2 mm F m2 b1 ⟨j0,D,k5,w,rfl,g1,q2,rfl,p0⟩;refine yJ (fun e1=>?_) (fun e1=>?_)
   ·have l1:=hl.rd RequestE.grow (Mv.rd hm (K.trans j0));refine t_de (c107 k5 W l1 Z H w) ?_;rintro _ x0 E k6 rfl;refine gZ ?_;have a2:h₀.le x0:=⟨fun r y hr=>E.keep r y (by
     rintro rfl;have:(if r=r then none else o.get r)=some y:=hr;simp at this) (D.1 r y hr),E.same.1.trans D.2.1,E.same.2.1.trans D.2.2.1,E.same.2.2.trans D.2.2.2⟩
    have o1:=D8 u l w;rw[hP]at o1;refine Qz (fun mm F h'=>Mv m t h'/\h₀.le h'/\Desk h'.get d m f u/\∃ j:Nat,F=[.int .i64 j]/\j<=M/\mm=M-j/\MapIs h'.get b (fun y=>(∃ s∈R,∃ e:Int,x.days.first<=e/\e<w/\y=s ||| meets u l e)\/∃ s∈R,s<j/\y=s ||| meets u l w))
     ⟨j0.trans E,a2,k6,0,rfl,Nat.zero_le _,rfl,(p0.mv O E).congr fun y=>⟨.inl,fun h=>by rcases h with h|⟨s,_,g,_⟩;exact h;omega⟩⟩ ?_
    rintro Y3 mm F J l0 ⟨S,Q,k7,j,rfl,hj,rfl,B⟩;refine yJ (fun e2=>?_) (fun e2=>?_)
    ·have n1:MapIs J.get a (fun x=>x∈R):=A.mv P S;refine t_lookSet n1 (fun X=>?_) fun I=>?_
     ·refine yT ?_;rw[or_small (by omega) (by omega)];refine t_addSet B fun es cc q0=>?_;have g2:Mv m t { J with get:=J.get.upd b (true,.map es cc) }:=mv_other S hb O;have c1:h₀.get b=none:=by
       cases q1:h₀.get b with
       | none=>rfl
       | some y=>rw[hle.1 _ _ q1]at hb;cases hb
      refine Qi (l0 (M-(j+1)) _ _ (by omega) ⟨g2,⟨fun r y hr=>?_,Q.2⟩,desk_other k7 O B.isMap,j+1,?_,by omega,rfl,q0.congr fun y=>?_⟩)
      ·have:r≠b:=by rintro rfl;rw[c1]at hr;cases hr
       show Cells.upd _ _ _ r=_;rw[Qp _ _ this];exact Q.1 r y hr
      ·rw[Qh (by omega) (by omega)];rfl
      ·constructor
       ·rintro((g|⟨s,g,G,C⟩)|rfl)
        ·exact .inl g
        ·exact .inr ⟨s,g,by omega,C⟩
        ·exact .inr ⟨j,X,by omega,rfl⟩
       ·rintro(g|⟨s,g,G,C⟩)
        ·exact .inl (.inl g)
        ·by_cases e:s=j
         ·subst e;exact .inr C
         ·exact .inl (.inr ⟨s,g,by omega,C⟩)
     ·refine yF ?_;refine Qi (l0 (M-(j+1)) _ _ (by omega) ⟨S,Q,k7,j+1,?_,by omega,rfl,B.congr fun y=>?_⟩)
      ·rw[Qh (by omega) (by omega)];rfl
      ·constructor
       ·rintro(g|⟨s,g,G,C⟩)
        ·exact .inl g
        ·exact .inr ⟨s,g,by omega,C⟩
       ·rintro(g|⟨s,g,G,C⟩)
        ·exact .inl g
        ·refine .inr ⟨s,g,?_,C⟩;have:s≠j:=by rintro rfl;exact I g
         omega
    ·refine gZ ?_;refine Qi (b1 (x.days.last+1-(w+1)).toNat _ _ (by omega) ⟨S,Q,k7,w+1,?_,by omega,by omega,rfl,B.congr fun y=>?_⟩)
     ·rw[Qh (by omega) (by omega)]
     ·constructor
      ·rintro(⟨s,g,e,G,C,h4⟩|⟨s,g,G,C⟩)
       ·exact⟨s,g,e,G,by omega,h4⟩
       ·exact⟨s,g,w,g1,by omega,C⟩
      ·rintro⟨s,g,e,G,C,h4⟩;by_cases he:e=w
       ·subst he;exact .inr ⟨s,g,by have:=hR s g;omega,h4⟩
       ·exact .inl ⟨s,g,e,G,by omega,h4⟩
   ·refine gZ ?_;have j1:w=x.days.last+1:=by omega
    subst j1;refine Wj D (hY _ _ D ⟨K.trans j0,k5,b,stepL ((daysOf x.days).map (meets u l)) R,rfl,O,p0.congr fun y=>?_,?_,hc⟩)
    ·simp only[stepL,List.mem_flatMap,List.mem_map,daysOf,List.mem_range];constructor
     ·rintro⟨s,g,e,G,C,rfl⟩;exact⟨s,g,_,⟨e,⟨(e-x.days.first).toNat,by omega,by omega⟩,rfl⟩,rfl⟩
     ·rintro⟨s,g,_,⟨e,⟨i,G,rfl⟩,rfl⟩,rfl⟩;exact⟨s,g,_,by omega,by omega,rfl⟩
    ·intro s hs;simp only[stepL,List.mem_flatMap,List.mem_map]at hs;obtain⟨s0,h0,mm,⟨e,_,rfl⟩,rfl⟩:=hs;rw[<- hP];exact Nat.or_lt_two_pow (by rw[hP];exact hR s0 h0) (D8 u l e)
end
section
attribute [local irreducible] T.wp CV FWK
variable {u:UseFile}{land day:Int}{h h':LH}{d m:Nat}{f:FileC}
theorem against_sub{item:Int}:∀ r∈against u land item day,r∈u.requests:=fun r hr=>(List.mem_filter.1 hr).1
theorem against_len(a:checkF u=0)(land item day:Int):(against u land item day).length<=4:=Nat.le_trans (List.length_filter_le _ _) (Kc a).1
theorem c91(k:Desk h.get d m f u)(g:checkF u=0)(land item day:Int) :
  De 141 #[.pointer (some ⟨d,0,none⟩),.int .i64 land,.int .i64 item,.int .i64 day] h d m f u fun r _=>r=.int .i64 (left u land item day):=by
 refine w91 Qk ?_;refine t_gr (c101 k g land item day) ?_;rintro _ y s ⟨p,n,c,rfl,C⟩;have k1:=k.le s.1;have w:=k1.isMap;have l:∀ r∈against u land item day,0<=r.day/\r.day<=2000:=fun r hr=>(Kc g).2 r (against_sub r hr);have D:=against_len g land item day;refine gZ ?_;have hn:=C.1;refine Qz (fun N O h'=>Mv m y h'/\Desk h'.get d m f u/\∃ i:Nat,O=[.bool true,.int .i64 i]/\i<=n/\N=n-i/\∀ j r,j<i->(against u land item day)[j]?=some r->safe u land item r.day=1)
  ⟨Mv.refl,k1,0,rfl,Nat.zero_le _,rfl,fun j r B=>by omega⟩ ?_
 rintro Y N O H Q ⟨mv,K,i,rfl,hi,rfl,t⟩;refine yJ (fun P=>?_) (fun P=>?_)
 ·obtain⟨x,a,F,Z,U,V,q,mq,S,W,X⟩:=(C.rd RequestE.grow (mv.rd w)).at (i:=i) (by omega);refine gZ ?_;have G:=l x (List.mem_of_getElem? F);refine t_de (c60 K (Kn g) land item x.day G) ?_;rintro _ I z L rfl;refine yI (fun b=>?_) (fun b=>?_)
  ·refine yF ?_;have o:=mv.trans z;refine t_de (c102 L g (C.rd RequestE.grow (o.rd w)) D l land item) ?_;rintro _ J A M rfl;refine gZ ?_;have E:safe u land item x.day≠1:=by simpa using b
   have v:¬ ((against u land item day).all fun r=>decide (safe u land item r.day=1))=true:=by
    intro R;have:=List.all_eq_true.1 R x (List.mem_of_getElem? F);exact E (by simpa using this)
   refine Ql (fun e=>?_) (fun e=>?_)
   ·refine Qa ⟨(Mv.of_le s).trans (o.trans A),M,?_⟩;have:can u land item (against u land item day)=false:=by simpa using e
    rw[left,if_neg v,this];rfl
   ·refine Qa ⟨(Mv.of_le s).trans (o.trans A),M,?_⟩;have:can u land item (against u land item day)=true:=by simpa using e
    rw[left,if_neg v,this];rfl
  ·refine Qi (Q (n-(i+1)) _ _ (by omega) ⟨mv.trans z,L,i+1,?_,by omega,rfl,fun j r B hr=>?_⟩)
   ·rw[Qh (by omega) (by omega)];rfl
   ·by_cases e:j=i
    ·subst e;rw[F]at hr;cases hr;simpa using b
    ·exact t j r (by omega) hr
 ·refine yT ?_;refine Qa ⟨(Mv.of_le s).trans mv,K,?_⟩;have:((against u land item day).all fun r=>decide (safe u land item r.day=1))=true:=by
   rw[List.all_eq_true];intro r hr;obtain⟨j,B⟩:=List.mem_iff_getElem?.1 hr;have:=t j r (by have:=(List.getElem?_eq_some_iff.1 B).1;omega) B;simpa using this
  rw[left,if_pos this]
def dropM(m:Nat)(h:LH):LH:={ h with get:=fun b=>if b=m then none else h.get b }
theorem dropM_le(mv:Mv m h h'):(dropM m h).le h':=by
 refine⟨fun r x hr=>?_,mv.same⟩;have a:(if r=m then none else h.get r)=some x:=hr;split at a
 ·cases a
 ·exact mv.keep r x (by assumption) a
theorem dropM_rd(hm:∃ es c,h.get m=some (true,.map es c)):Rd h.get (dropM m h).get:=by
 intro x v hc;have a:x.block≠m:=by
  intro e;obtain⟨es,c,hm⟩:=hm;unfold Cells.cell? at hc;rw[e,hm]at hc;cases hc
 unfold Cells.cell? at hc ⊢;have b:(dropM m h).get x.block=h.get x.block:=if_neg a;rw[b];exact hc
theorem mv_of_drop(a:(dropM m h).le h')(hm:∃ es c,h'.get m=some (true,.map es c)):Mv m h h' :=
 ⟨fun r x hr b=>a.1 r x (by show (if r=m then none else h.get r)=_;rw[if_neg hr];exact b),fun _ _ _=>hm,a.2⟩
theorem desk_of_drop(k:Desk h.get d m f u)(b:(dropM m h).le h')(hm:∃ es c,h'.get m=some (true,.map es c)/\∀ e∈es.toList,∃ day:Int,e.key=.agg #[.int .i64 day,.int .i64 u.idle]/\e.val=.agg #[.int .i64 (window u day).first,.int .i64 day]):Desk h'.get d m f u:=by
 have hr:Rd h.get h'.get:=(dropM_rd k.isMap).trans (Rd.of_le b.1);exact⟨k.file.rd hr,k.rep.rd hr,fun j a=>hr _ _ (k.counts j a),hr _ _ k.mapp,hm⟩
theorem t_growD{α:Type}{X:XP}{Q:Leaf->LH->Prop}{Enc:α->List Value->Prop}{o:LH}{k:Value->T}{ts:Array TypeId}{ty F G el P:TypeId}{s t:Nat}{z:Value}{p:Option Addr}{n c O:Nat}{b:Addr}{l:List α}{x:α}{ws:List Value}(kd:Desk h.get d m f u)(k1:Desk o.get d m f u)(mv:Mv m h o)
 (h0:ts[0]?=some F)(H:ts[1]?=some G)(hu:Tryz.prog.underlying F=some (.slice el))(N:Tryz.prog.underlying G=some (.slice P))(J:(Tryz.prog.info? el).map (fun i=>(i.size,i.bytes,i.zero))=some (s,t,some z))(C:z.cells.size=s)(hb:t<=1024)(M:n+1<=2^30)(g:Growing Enc el s (dropM m h).get o.get p n c l)(he:Enc x ws)(L:ws.length=s)(hc:∀ (j:Nat) v,ws[j]?=some v->o.get.cell? (b.add j)=some v)(one:∀ v∈ws,isOne v=true)
 (K:∀ A w h',Mv m h h'->Desk h'.get d m f u->Growing Enc el s (dropM m h).get h'.get A (n+1) w (l++[x])->(k (.slice A (n+1) w)).wp X Tryz.prog Q h'):(T.sem false (Builtin.append_ ts ty #[.slice p n c,.slice (some b) 1 O]) k).wp X Tryz.prog Q o:=by
 have B:∀ a,p=some a->a.block≠m:=by
  intro a E e;obtain⟨R,⟨_,I⟩,_⟩:=g.row;obtain⟨es,w,hm⟩:=k1.isMap;rcases I with⟨rfl,_⟩|⟨r,cs,rfl,hr,_⟩
  ·cases E
  ·cases E;subst e;rw[hm]at hr;cases hr
 refine D3 h0 H hu N J C hb M g (dropM_le mv) he L hc one fun A w h' hle q g'=>?_;obtain⟨es,D,hm,hv⟩:=k1.map;have y:=q m _ B hm;exact K A w h' (mv_of_drop hle ⟨es,D,y⟩) (desk_of_drop kd hle ⟨es,D,y,hv⟩) g'
theorem leftAll_take(i:Nat)(a:i<u.items.toNat):(leftAll u land day).take (i+1)=(leftAll u land day).take i++[left u land i day]:=by
 have hlen:i<(leftAll u land day).length:=by unfold leftAll;rw[List.length_map,List.length_range];exact a
 rw[List.take_succ_eq_append_getElem hlen];congr 2;simp[leftAll]
theorem c63(k:Desk h.get d m f u)(b:checkF u=0)(land day:Int) :
  De 78 #[.pointer (some ⟨d,0,none⟩),.int .i64 land,.int .i64 day] h d m f u fun r h'=>∃ p n c,r=.slice p n c/\Growing IntEnc 55 1 (dropM m h).get h'.get p n c (leftAll u land day):=by
 refine w63 Qk ?_;obtain⟨f0,f1,f2,f3,f4,f5,f6⟩:=k.file;have E:=(Kb (Kn b)).1;refine gZ ?_;have hlen:(leftAll u land day).length=u.items.toNat:=by unfold leftAll;rw[List.length_map,List.length_range]
 refine Qz (fun z A h'=>Mv m h h'/\Desk h'.get d m f u/\∃ (i:Nat) (p:Option Addr) (n c:Nat),A=[.slice p n c,.int .i64 i]/\i<=u.items.toNat/\z=u.items.toNat-i/\Growing IntEnc 55 1 (dropM m h).get h'.get p n c ((leftAll u land day).take i))
  ⟨Mv.refl,k,0,none,0,0,rfl,Nat.zero_le _,rfl,Growing.nil⟩ ?_
 rintro Y z A v D ⟨mv,k1,i,p,n,c,rfl,J,rfl,g⟩;refine yJ (fun C=>?_) (fun C=>?_)
 ·have o:=k1.isMap;refine t_de (c91 k1 b land i day) ?_;rintro _ e l G rfl;refine gZ ?_;have t:=g.mv o l;refine Zu Yv Y7 (by decide) (by decide) (cells:=#[.int .i64 (left u land i day)]) (by kernel_rfl) fun r hr=>?_;have a:e.le _:=Qr (x:=(true,.cells #[.int .i64 (left u land i day)] 55 (0,0))) hr;have q:=t.count IntEnc.len (by omega);rw[List.length_take]at q;refine gZ ?_;refine t_growD (x:=left u land i day) (ws:=[.int .i64 (left u land i day)]) k (G.le a.1) ((mv.trans l).trans (Mv.of_le a)) rfl rfl Yv Yv Y7 rfl (by omega) (by omega) (t.le a.1) rfl rfl ?_ ?_ ?_
  ·intro j w F;rw[Qo,Nat.zero_add];exact Qv (by simpa using F)
  ·intro w hw;simp at hw;subst hw;rfl
  ·intro I B y s H g4;refine gZ ?_;refine Qi (D (u.items.toNat-(i+1)) _ _ (by omega) ⟨s,H,i+1,I,n+1,B,?_,by omega,rfl,?_⟩)
   ·rw[Qh (by omega) (by omega)];rfl
   ·rw[leftAll_take i (by omega)];exact g4
 ·refine gZ ?_;have:i=u.items.toNat:=by omega
  subst this;rw[List.take_of_length_le (by omega)]at g;exact Qa ⟨mv,k1,p,n,c,rfl,g⟩
def LeftR(h':Cells)(u:UseFile)(land day:Int)(r:Value):Prop :=
 (openF u [landQ u land,dayQ day]≠0/\r=.tuple #[.slice none 0 0,.int .i64 (openF u [landQ u land,dayQ day])]) \/
 (openF u [landQ u land,dayQ day]=0/\∃ p n c,r=.tuple #[.slice p n c,.int .i64 0]/\Sl IntE 1 h' p n (leftAll u land day))
theorem c23(A:Parts h.get)(hu:FileR h.get f u)(land day:Int):Gr Tryz.prog 25 #[fileV f u,land,day] h fun r h'=>LeftR h'.get u land day r:=by
 refine w23 Qk ?_;refine t_gr (c58 u land) ?_;rintro v0 q l ⟨C,y⟩;refine gZ ?_;refine t_gr (c54 u day) ?_;rintro v1 s i ⟨D,z⟩;refine gZ ?_;refine Y1 C (y.le i) D z fun r t o B=>?_;refine gZ ?_;have a:=LH.le_trans (LH.le_trans l i) o;refine Jn (c53 (f:=f) (A.le a.1) (hu.le a.1) B) ?_;rintro v w ⟨j,⟨b,rfl⟩|⟨h0,d,m,rfl,E,hm,k⟩⟩
 ·refine gZ ?_;refine Ql (fun _=>?_) (fun e=>absurd (by simpa using e) b);exact Qa ⟨LH.le_trans a j,.inl ⟨b,rfl⟩⟩
 ·refine yF ?_;refine t_de (c63 k (Zc h0).2 land day) ?_;rintro _ x mv F ⟨p,n,c,rfl,g⟩;refine gZ ?_;refine Qa ⟨LH.le_trans a (Mv.le_of j hm mv),.inr ⟨h0,p,n,c,rfl,?_⟩⟩;refine g.sl IntEnc.len (by omega) IntEnc.e ?_;have:=(Kb (Zc h0).1).1;unfold leftAll;rw[List.length_map,List.length_range];omega
end
section
attribute [local irreducible] T.wp CV FWK
def LackEnc(x:Lack)(ws:List Value):Prop:=ws=[.int .i64 x.item,.int .i64 x.request,.int .i64 x.window.first,.int .i64 x.window.last]
variable {h' h₀:Cells}{u:UseFile}{l pl a:List Int}{b:Int}{h:LH}{f:FileC}{pp p q:Option Addr}{pn pc n c m d:Nat}
theorem LackEnc.len:∀ x ws,LackEnc x ws->ws.length=4:=by rintro x _ rfl;rfl
theorem LackEnc.e:∀ a x ws,LackEnc x ws->(∀ (j:Nat) w,ws[j]?=some w->h'.cell? (a.add j)=some w)->LackE h' a x:=by
 rintro a x _ rfl hc;exact⟨hc 0 _ rfl,hc 1 _ rfl,hc 2 _ rfl,hc 3 _ rfl⟩
theorem check_items(h:checkF u=0):∀ r∈u.requests,risesF r.items u.items=0:=by
 obtain⟨_,f⟩:=Kl (W1 h).2.2.2;intro r hr;obtain⟨j,g⟩:=List.mem_iff_getElem?.1 hr;have:=f j r g;have key:∀ (b c2 c3:Prop) [Decidable b] [Decidable c2] [Decidable c3] (x:Int),(if b then (1:Int) else if c2 then 7 else if c3 then 6 else x)=0->x=0:=by
  intro b c2 c3 _ _ _ x a;by_cases c:b
  ·rw[if_pos c]at a;cases a
  ·rw[if_neg c]at a;by_cases d:c2
   ·rw[if_pos d]at a;cases a
   ·rw[if_neg d]at a;by_cases e:c3
    ·rw[if_pos e]at a;cases a
    ·rw[if_neg e]at a;exact a
 exact key _ _ _ _ this
theorem rises_len(h:risesF l b=0):(∀ i (a:i<l.length),(i:Int)<=l[i]/\l[i]<b/\0<=l[i]):=by
 have h':=Gx h;intro i
 induction i with
 | zero =>
  intro a;have:=h' 0 l[0] (List.getElem?_eq_getElem a);unfold riseF at this;split at this
  ·cases this
  ·rename_i c;simp[isIn]at c;omega
 | succ i j =>
  intro a;have c:=j (by omega);have:=h' (i+1) l[i+1] (List.getElem?_eq_getElem a);unfold riseF at this;split at this
  ·cases this
  ·split at this
   ·cases this
   ·rename_i f d;simp[isIn]at f;have e:l.getD (0+(i+1)-1) 0=l[i]:=by
     rw[show 0+(i+1)-1=i by omega];simp[List.getD,List.getElem?_eq_getElem (show i<l.length by omega)]
    rw[e]at d;have:¬ l[i+1]<=l[i]:=fun g=>d ⟨by omega,g⟩;omega
theorem rises_len'(h:risesF l b=0)(hb:0<=b):(l.length:Int)<=b:=by
 by_cases h0:l.length=0
 ·omega
 ·have:=rises_len h (l.length-1) (by omega);omega
theorem lacksGo_len{land day:Int}(b:∀ r∈u.requests,r.items.length<=6):∀ (l:List Request) (i:Nat),(∀ r∈l,r∈u.requests)->(lacksGo u land day l i).length<=l.length*6:=by
 intro l
 induction l with
 | nil=>intro i _;simp[lacksGo]
 | cons r l c =>
  intro i a;rw[lacksGo,List.length_append];have d:=c (i+1) fun r hr=>a r (by simp[hr]);have e:(lacksOf u land day i r).length<=6:=by
   unfold lacksOf;split
   ·simp
   ·rw[List.length_map];exact Nat.le_trans (List.length_filter_le _ _) (b r (a r (by simp)))
  simp only[List.length_cons];omega
def LacksR(h':Cells)(u:UseFile)(land day:Int)(r:Value):Prop :=
 (openF u [landQ u land,dayQ day]≠0/\r=.tuple #[.slice none 0 0,.int .i64 (openF u [landQ u land,dayQ day])]) \/
 (openF u [landQ u land,dayQ day]=0/\∃ p n c,r=.tuple #[.slice p n c,.int .i64 0]/\Sl LackE 4 h' p n (lacks u land day))
theorem c28(hp:Parts h.get)(hu:FileR h.get f u)(land day:Int):Gr Tryz.prog 26 #[fileV f u,land,day] h fun r h'=>LacksR h'.get u land day r:=by
 refine w28 Qk ?_;refine t_gr (c58 u land) ?_;rintro v0 x0 m0 ⟨q0,a0⟩;refine gZ ?_;refine t_gr (c54 u day) ?_;rintro v1 y0 b0 ⟨q1,a1⟩;refine gZ ?_;refine Y1 q0 (a0.le b0) q1 a1 fun r z0 n0 hs=>?_;refine gZ ?_;have o:=LH.le_trans (LH.le_trans m0 b0) n0;refine Jn (c53 (f:=f) (hp.le o.1) (hu.le o.1) hs) ?_;rintro v l ⟨K,⟨P,rfl⟩|⟨h0,d,m,rfl,hd,hm,k⟩⟩
 ·refine gZ ?_;refine Ql (fun _=>?_) (fun e=>absurd (by simpa using e) P);exact Qa ⟨LH.le_trans o K,.inl ⟨P,rfl⟩⟩
 ·refine yF ?_;have J:=(Zc h0).2;have A:=Kn J;have Q:=Kc J;have s0:=(Kb A).1;have t:∀ r∈u.requests,r.items.length<=6:=fun r hr=>by have:=rises_len' (check_items J r hr) (by omega);omega
  have z:=lacksGo_len (land:=land) (day:=day) t u.requests 0 fun r hr=>hr;have Z:=LH.le_trans o K;have R:=(hu.le Z.1).requests;have j1:=R.1;have D:=k.isMap;refine Qz (fun mm G h'=>Mv m l h'/\Desk h'.get d m f u/\∃ (i:Nat) (p:Option Addr) (n c:Nat) (rs:List Lack),G=[.slice p n c,.int .i64 i]/\i<=f.n6/\mm=f.n6-i/\Growing LackEnc 75 4 (dropM m l).get h'.get p n c rs/\lacks u land day=rs++lacksGo u land day (u.requests.drop i) i)
   ⟨Mv.refl,k,0,none,0,0,[],rfl,Nat.zero_le _,rfl,Growing.nil,rfl⟩ ?_
  rintro Y mm G B hY ⟨mv,k6,i,p,n,c,rs,rfl,hi,rfl,g,hc⟩;refine yJ (fun e1=>?_) (fun e1=>?_)
  ·obtain⟨x,a,hx,ha,e2,e3,q,mq,cq,e4,e5⟩:=R.at (i:=i) (by omega);have e2:=mv.rd D _ _ e2;have e3:=mv.rd D _ _ e3;have e4:=mv.rd D _ _ e4;have U:=List.mem_of_getElem? hx;have S:=Q.2 x U;have m1:=t x U;rw[Jh hx,lacksGo]at hc;refine gZ ?_;have next:∀ h' p n c M,Mv m l h'->Desk h'.get d m f u->Growing LackEnc 75 4 (dropM m l).get h'.get p n c M->M=rs++lacksOf u land day i x->Y [.slice p n c,.int .i64 (wrap .i64 ((i:Int)+1))] h':=by
    rintro h' p n c M o0 k' g' rfl;refine hY (f.n6-(i+1)) _ _ (by omega) ⟨o0,k',i+1,p,n,c,_,?_,by omega,rfl,g',by rw[hc,List.append_assoc]⟩;rw[Qh (by omega) (by omega)];rfl
   refine Q1 (fun G h'=>G=[]/\B=h'/\x.land=land/\x.day<=day) ?_ ?_
   ·refine Ql (fun H=>?_) (fun H=>?_)
    ·refine gR ?_;refine yT ?_;refine gZ ?_;refine Qi (next B p n c rs mv k6 g ?_);have:x.land≠land:=by simpa using H
     rw[lacksOf,if_pos (.inl this)];simp
    ·refine t_if (fun b2=>?_) (fun b2=>?_)
     ·refine gR ?_;refine yT ?_;refine gZ ?_;refine Qi (next B p n c rs mv k6 g ?_);rw[lacksOf,if_pos (.inr b2)];simp
     ·exact Qi ⟨rfl,rfl,by simpa using H,by omega⟩
   ·rintro G _ ⟨rfl,rfl,g0,p0⟩;refine gZ ?_;have k0:lacksOf u land day i x=(x.items.filter fun n=>decide (safe u land n x.day≠1)).map fun n=>⟨n,(i:Int),⟨(window u x.day).first,x.day⟩⟩:=by
     rw[lacksOf,if_neg (by omega)]
    have h1:=e5.1;refine Qz (fun mm G h'=>Mv m l h'/\Desk h'.get d m f u/\∃ (j:Nat) (p:Option Addr) (n c:Nat) (N:List Lack),G=[.slice p n c,.int .i64 j]/\j<=mq/\mm=mq-j/\N.length<=j/\Growing LackEnc 75 4 (dropM m l).get h'.get p n c (rs++N)/\lacksOf u land day i x=N++((x.items.drop j).filter fun n=>decide (safe u land n x.day≠1)).map fun n=>⟨n,(i:Int),⟨(window u x.day).first,x.day⟩⟩)
     ⟨mv,k6,0,p,n,c,[],rfl,Nat.zero_le _,rfl,Nat.le_refl _,by simpa using g,k0⟩ ?_
    rintro Y2 mm G W O ⟨E,k7,j,p,n,c,N,rfl,hj,rfl,l1,g7,s⟩;refine yJ (fun e6=>?_) (fun e6=>?_)
    ·obtain⟨y,b,hy,hb,e7⟩:=(e5.rd IntE.grow (E.rd D)).at (i:=j) (by omega);unfold IntE at e7;rw[Jh hy,List.filter_cons]at s;refine gZ ?_;refine t_de (c60 k7 A land y x.day S) ?_;rintro _ c1 F k8 rfl;have g8:=g7.mv k7.isMap F;refine yI (fun H=>?_) (fun H=>?_)
     ·have I:decide (safe u land y x.day≠1)=true:=by simpa using H
      rw[if_pos I,List.map_cons]at s;refine t_de (c55 k8 (Kb A).2.2.2 x.day S) ?_;rintro _ X L k9 rfl;have g9:=g8.mv k8.isMap L;have g1:=(F.trans L).rd k7.isMap _ _ e7;refine gZ ?_;refine Zu Yu Y6 (by decide) (by decide) (cells:=#[.int .i64 y,.int .i64 i,.int .i64 (window u x.day).first,.int .i64 x.day]) (by kernel_rfl) fun r hr=>?_;have C:X.le _:=Qr (x:=(true,.cells #[.int .i64 y,.int .i64 i,.int .i64 (window u x.day).first,.int .i64 x.day] 75 (0,0))) hr;have j0:=g9.count LackEnc.len (by omega);have u0:rs.length<=u.requests.length*6:=by
       have:=z;unfold lacks at hc;rw[hc,List.length_append]at this;omega
      have w0:N.length<=6:=by have:=e5.1;omega
      rw[List.length_append]at j0;refine gZ ?_;refine t_growD (x:=(⟨y,(i:Int),⟨(window u x.day).first,x.day⟩⟩ : Lack)) (ws:=[.int .i64 y,.int .i64 i,.int .i64 (window u x.day).first,.int .i64 x.day]) k (k9.le C.1) (((E.trans F).trans L).trans (Mv.of_le C)) rfl rfl Yu Yu Y6 rfl (by omega) (by omega) (g9.le C.1) rfl rfl ?_ ?_ ?_
      ·intro j w hj;rw[Qo,Nat.zero_add];exact Qv (by simpa using hj)
      ·intro w hw;simp at hw;rcases hw with rfl|rfl|rfl|rfl<;>rfl
      ·intro p' c' V c0 l0 e0;refine gZ ?_;refine Qi (O (mq-(j+1)) _ _ (by omega) ⟨c0,l0,j+1,p',n+1,c',N++[⟨y,(i:Int),⟨(window u x.day).first,x.day⟩⟩],?_,by omega,rfl,by simp;omega,by rw[<- List.append_assoc];exact e0,by rw[s];simp⟩);rw[Qh (by omega) (by omega)];rfl
     ·have I:decide (safe u land y x.day≠1)=false:=by simpa using H
      rw[if_neg (by rw[I];simp)]at s;refine Qi (O (mq-(j+1)) _ _ (by omega) ⟨E.trans F,k8,j+1,p,n,c,N,?_,by omega,rfl,by omega,g8,s⟩);rw[Qh (by omega) (by omega)];rfl
    ·refine gZ ?_;rw[List.drop_eq_nil_of_le (by omega)]at s;refine Qi (next W p n c _ E k7 g7 ?_);rw[s];simp
  ·refine gZ ?_;rw[List.drop_eq_nil_of_le (by omega),lacksGo,List.append_nil]at hc;refine Qa ⟨LH.le_trans o (Mv.le_of K hm mv),.inr ⟨h0,p,n,c,rfl,?_⟩⟩;rw[hc];refine g.sl LackEnc.len (by omega) LackEnc.e ?_;have:rs.length<=u.requests.length*6:=by
    have:=z;unfold lacks at hc;rw[hc]at this;exact this
   omega
def PaperEnc(h₀:Cells)(x:Paper)(ws:List Value):Prop:=∃ q m c,ws=[.int .i64 x.days.first,.int .i64 x.days.last,.int .i64 x.land,.slice q m c]/\Sl IntE 1 h₀ q m x.items
theorem PaperEnc.len:∀ x ws,PaperEnc h₀ x ws->ws.length=4:=by rintro x _ ⟨q,m,c,rfl,_⟩;rfl
theorem PaperEnc.e(hr:Rd h₀ h'):∀ a x ws,PaperEnc h₀ x ws->(∀ (j:Nat) w,ws[j]?=some w->h'.cell? (a.add j)=some w)->PaperE h' a x:=by
 rintro a x _ ⟨q,m,c,rfl,b⟩ hc;exact⟨hc 0 _ rfl,hc 1 _ rfl,hc 2 _ rfl,q,m,c,hc 3 _ rfl,b.rd IntE.grow hr⟩
def enoughB(u:UseFile)(land day:Int)(papers all:List Int):Bool:=decide (checkF (withP u papers)=0)&&coversB all (leftAll (withP u papers) land day)
theorem withP_take{i:Nat}{v:Int}{x:Paper}(hv:pl[i]?=some v)(b:u.papers[v.toNat]?=some x):(pl.take (i+1)).filterMap (fun n=>u.papers[n.toNat]?)=(pl.take i).filterMap (fun n=>u.papers[n.toNat]?)++[x]:=by
 obtain⟨a,rfl⟩:=List.getElem?_eq_some_iff.1 hv;rw[List.take_succ_eq_append_getElem a,List.filterMap_append];simp[b]
theorem c71(hp:Parts h.get)(hu:FileR h.get f u)(land day:Int)(K:Sl IntE 1 h.get pp pn pl)(c0:∀ v∈pl,0<=v/\v<(u.papers.length:Int))(L:pl.length<=8)
 {ap:Option Addr}{an ac:Nat}{all:List Int}(a0:Sl IntE 1 h.get ap an all)(b0:all.length=u.items.toNat):Gr Tryz.prog 80 #[fileV f u,land,day,.slice pp pn pc,.slice ap an ac] h fun r _=>r=.bool (enoughB u land day pl all):=by
 refine w71 Qk ?_;have hn:=K.1;have p0:=hu.papers.1;refine Qz (fun O P h'=>h.le h'/\∃ (i:Nat) (p:Option Addr) (n c:Nat),P=[.int .i64 i,.int .i64 u.items,.int .i64 u.lands,.int .i64 u.from_,.int .i64 u.idle,.slice f.p4 f.n4 f.c4,.slice p n c,.slice f.p6 f.n6 f.c6]/\i<=pn/\O=pn-i /\
   Growing (PaperEnc h.get) 49 4 h.get h'.get p n c ((pl.take i).filterMap fun n=>u.papers[n.toNat]?)) ⟨LH.le_refl _,0,none,0,0,rfl,Nat.zero_le _,rfl,Growing.nil⟩ ?_
 rintro Y O P C hY ⟨hle,i,p,n,c,rfl,hi,rfl,g⟩;refine yJ (fun e1=>?_) (fun e1=>?_)
 ·obtain⟨v,a,hv,ha,W⟩:=K.at (i:=i) (by omega);unfold IntE at W;have W:=Qe hle.1 W;have w0:=c0 v (List.mem_of_getElem? hv);have u0:((v.toNat:Nat):Int)=v:=by omega
  obtain⟨x,b,hx,hb,e3,e4,e5,q,S,Q,R,X⟩:=hu.papers.at (i:=v.toNat) (by omega);have e3:=Qe hle.1 e3;have e4:=Qe hle.1 e4;have e5:=Qe hle.1 e5;have R:=Qe hle.1 R;have s0:0<=v/\v<(f.n5:Int):=by omega
  refine gZ ?_;refine Zu Z4 K0 (by decide) (by decide) (cells:=#[.int .i64 x.days.first,.int .i64 x.days.last,.int .i64 x.land,.slice q S Q]) (by kernel_rfl) fun r hr=>?_;have t:C.le _:=Qr (x:=(true,.cells #[.int .i64 x.days.first,.int .i64 x.days.last,.int .i64 x.land,.slice q S Q] 49 (0,0))) hr;have q0:=g.count PaperEnc.len (by omega);have hlen:((pl.take i).filterMap fun n=>u.papers[n.toNat]?).length<=8:=Nat.le_trans (List.length_filterMap_le _ _) (by rw[List.length_take];omega);refine gZ ?_;refine D3 (x:=x) (ws:=[.int .i64 x.days.first,.int .i64 x.days.last,.int .i64 x.land,.slice q S Q]) rfl rfl Z4 Z4 K0 rfl (by omega) (by omega) (g.le t.1) (LH.le_trans hle t) ⟨q,S,Q,rfl,X⟩ rfl ?_ ?_ ?_
  ·intro j w hj;rw[Qo,Nat.zero_add];exact Qv (by simpa using hj)
  ·intro w hw;simp at hw;rcases hw with rfl|rfl|rfl|rfl<;>rfl
  ·intro p' c' N I _ g2;refine gZ ?_;refine Qi (hY (pn-(i+1)) _ _ (by omega) ⟨I,i+1,p',n+1,c',?_,by omega,rfl,by rw[withP_take hv hx];exact g2⟩);rw[Qh (by omega) (by omega)];rfl
 ·refine gZ ?_;have e0:pl.take i=pl:=List.take_of_length_le (by omega);rw[e0]at g;have hlen:(pl.filterMap fun n=>u.papers[n.toNat]?).length<=8:=Nat.le_trans (List.length_filterMap_le _ _) L;have g0:=g.sl PaperEnc.len (by omega) (PaperEnc.e (Rd.of_le hle.1)) (by omega);have j0:FileR C.get { f with p5:=p,n5:=n,c5:=c } (withP u pl):=⟨hu.excuses.le SpanE.grow hle.1,g0,hu.requests.le RequestE.grow hle.1⟩
  refine Jn (c53 (f:={ f with p5:=p,n5:=n,c5:=c }) (u:=withP u pl) (l:=[]) (hp.le hle.1) j0 ⟨rfl,by show 0<_;omega,fun i g hg=>by simp at hg⟩) ?_;rintro v N ⟨t,⟨J,rfl⟩|⟨h0,d,m,rfl,hd,hm,k⟩⟩
  ·refine gZ ?_;refine Ql (fun _=>?_) (fun e=>absurd (by simpa using e) J);refine Qa ⟨LH.le_trans hle t,?_⟩;have:checkF (withP u pl)≠0:=by
    intro hc;apply J;rw[openF,if_neg (by simp[hc])];rfl
   unfold enoughB;rw[decide_eq_false this];rfl
  ·refine yF ?_;have G:=(Zc h0).2;refine t_de (c63 k G land day) ?_;rintro _ D mv k3 ⟨p3,n3,c3,rfl,g3⟩;refine gZ ?_;have H:=(Kb (Zc h0).1).1;have o:(withP u pl).items=u.items:=rfl;rw[o]at H;have n0:(leftAll (withP u pl) land day).length=u.items.toNat:=by unfold leftAll;rw[List.length_map,List.length_range,o]
   have M:=g3.sl IntEnc.len (by omega) IntEnc.e (by omega);have s:=Mv.le_of (LH.le_trans hle t) (by
    cases hx:h.get m with
    | none=>rfl
    | some y=>rw[hle.1 _ _ hx]at hm;cases hm) mv
   have A:=a0.le IntE.grow s.1;have o0:=M.1;have m0:=A.1;refine Qz (fun O P h'=>D=h'/\∃ j:Nat,P=[.bool false,.int .i64 j]/\j<=n3/\O=n3-j/\coversB all (leftAll (withP u pl) land day)=coversB (all.drop j) ((leftAll (withP u pl) land day).drop j)) ⟨rfl,0,rfl,Nat.zero_le _,rfl,rfl⟩ ?_;rintro Y2 O P _ Z ⟨rfl,j,rfl,hj,rfl,hc⟩;refine gZ ?_;have B:∀ b,coversB all (leftAll (withP u pl) land day)=b->Value.bool b=.bool (enoughB u land day pl all):=by
    intro b hb;unfold enoughB;rw[decide_eq_true G,hb];rfl
   refine t_if (fun R=>?_) (fun R=>?_)
   ·obtain⟨y,a1,hy,k0,X⟩:=M.at (i:=j) (by omega);obtain⟨z,a2,hz,l0,e8⟩:=A.at (i:=j) (by omega);unfold IntE at X e8;rw[Jh hy,Jh hz,coversB]at hc;refine gZ ?_;have next:(!decide (z=1)||decide (y=1))=true->Y2 [.bool false,.int .i64 (wrap .i64 ((j:Int)+1))] D:=by
     intro hh;rw[hh,Bool.true_and]at hc;refine Z (n3-(j+1)) _ _ (by omega) ⟨rfl,j+1,?_,by omega,rfl,hc⟩;rw[Qh (by omega) (by omega)];rfl
    refine Ql (fun U=>?_) (fun U=>?_)
    ·have E:z=1:=by simpa using U
     refine Ql (fun V=>?_) (fun V=>?_)
     ·have F:y≠1:=by simpa using V
      refine gZ ?_;refine Qa ⟨s,B false ?_⟩;rw[hc];simp[E,F]
     ·have F:y=1:=by simpa using V
      exact Qi (next (by simp[F]))
    ·have E:z≠1:=by simpa using U
     exact Qi (next (by simp[E]))
   ·refine gZ ?_;refine Qa ⟨s,B true ?_⟩;rw[hc,List.drop_eq_nil_of_le (show (leftAll (withP u pl) land day).length<=j by omega)];cases all.drop j<;>rfl
theorem c69(a:f.n5=u.papers.length)(d:(u.papers.length:Int)<4611686018427387904){z:Addr}(e:h.get.cell? z=some (.slice p n c))(b:Sl IntE 1 h.get p n l):Gr Tryz.prog 82 #[fileV f u,.pointer (some z)] h fun r _=>r=.int .i64 (risesF l u.papers.length):=by
 refine w69 Qk ?_;refine gL1 e ?_;rw[a];refine t_gr (c70 b (by unfold IsI;omega)) ?_;rintro _ h' hle rfl;refine gZ ?_;exact Qa ⟨hle,rfl⟩
theorem rises_in(h:risesF l b=0):∀ v∈l,0<=v/\v<b:=by
 intro v hv;obtain⟨i,a,rfl⟩:=List.getElem_of_mem hv;have:=rises_len h i a;omega
def enoughQ(u:UseFile)(land day:Int)(papers:List Int):List Int:=[landQ u land,dayQ day,risesF papers u.papers.length]
def enoughR(u:UseFile)(land day:Int)(papers:List Int):Value :=
 if openF u (enoughQ u land day papers)≠0 then .tuple #[.bool false,.int .i64 (openF u (enoughQ u land day papers))] else .tuple #[.bool (enoughB u land day papers (leftAll u land day)),.int .i64 0]
theorem c31(H:Parts h.get)(hu:FileR h.get f u)(land day:Int)(t:Sl IntE 1 h.get pp pn pl):Gr Tryz.prog 28 #[fileV f u,land,day,.slice pp pn pc] h fun r _=>r=enoughR u land day pl:=by
 refine w31 Qk ?_;refine Z9 fun r hr=>?_;have E:h.le _:=Qr (x:=(true,.cells #[.slice pp pn pc] 47 (0,0))) hr;have z0:Cells.cell? (h.get.upd r (true,.cells #[.slice pp pn pc] 47 (0,0))) ⟨r,0,none⟩=some (.slice pp pn pc):=Qv rfl;refine t_gr (c58 u land) ?_;rintro v0 K y ⟨Y,R⟩;refine gZ ?_;refine t_gr (c54 u day) ?_;rintro v1 w l ⟨Z,S⟩;refine gZ ?_;have j:=LH.le_trans (LH.le_trans E y) l;have W:=hu.papers.2.1;have P:=Qe (LH.le_trans y l).1 z0;have U:Asks (.func (.func 82) #[] #[.pointer (some ⟨r,0,none⟩)]) w u (risesF pl u.papers.length):=by
  intro _ f' h' hle D;exact Zl Qk (by rfl) (c69 D.papers.1 (by omega) (Qe hle.1 P) (t.le IntE.grow (LH.le_trans j hle).1))
 refine asks3 Y (R.le l) Z S ⟨_,_,_,rfl⟩ U fun r' L A V=>?_;refine gZ ?_;have a:=LH.le_trans j A;refine Jn (c53 (f:=f) (H.le a.1) (hu.le a.1) V) ?_;rintro v M ⟨o,⟨s,rfl⟩|⟨h0,d,m,rfl,hd,hm,k⟩⟩
 ·refine gZ ?_;refine Ql (fun _=>?_) (fun e=>absurd (by simpa using e) s);refine Qa ⟨LH.le_trans a o,?_⟩;show _=enoughR u land day pl;rw[enoughR,if_pos (show openF u (enoughQ u land day pl)≠0 from s)];rfl
 ·refine yF ?_;have z:=LH.le_trans A o;have Q:=Qe z.1 P;refine gL1 Q ?_;have q:=(Zc h0).2;refine t_de (c63 k q land day) ?_;rintro _ N mv k6 ⟨p,n,c,rfl,g⟩;refine gZ ?_;have z6:=mv.rd k.isMap _ _ Q;refine gL1 z6 ?_;refine gZ ?_;have C:h.get m=none:=by
   cases X:h.get m with
   | none=>rfl
   | some x=>rw[a.1 _ _ X]at hm;cases hm
  have i:=Mv.le_of (LH.le_trans a o) C mv;have b:risesF pl u.papers.length=0:=D5 h0 _ (by simp);have I:=(Gy q).1;have J:=rises_len' b (by omega);have G:=(Kb (Zc h0).1).1;have B:(leftAll u land day).length=u.items.toNat:=by unfold leftAll;rw[List.length_map,List.length_range]
  refine t_gr (c71 (H.le i.1) (hu.le i.1) land day (t.le IntE.grow i.1) (rises_in b) (by omega) (g.sl IntEnc.len (by omega) IntEnc.e (by omega)) B) ?_;rintro _ O F rfl;refine gZ ?_;refine Qa ⟨LH.le_trans i F,?_⟩;show _=enoughR u land day pl;rw[enoughR,if_neg (by unfold enoughQ;simpa using h0)]
def cmpI(x y:Int):Int:=if x<y then -1 else if x>y then 1 else 0
def cmpL:List Int->List Int->Int
 | [],[]=>0
 | [],_::_=>-1
 | _::_,[]=>1
 | x::xs,y::ys=>if cmpI x y≠0 then cmpI x y else cmpL xs ys
def fewerF(a b:List Int):Int:=if a.length≠b.length then (a.length:Int)-b.length else cmpL a b
theorem c109(x:Int):Pu Tryz.prog 197 #[x] h (.bool false):=by
 refine w109 Qk ?_;refine Qa ⟨?_,rfl⟩;simp
theorem c105(x y:Int):Pu Tryz.prog 171 #[x,y] h (.int .i64 (cmpI x y)):=by
 refine w105 Qk ?_;refine t_pu (c109 _) ?_;refine gZ ?_;refine t_pu (c109 _) ?_;refine yF ?_;refine yF ?_;refine t_if (fun e=>?_) (fun e=>?_)
 ·refine Qa ⟨?_,rfl⟩;rw[cmpI,if_pos e]
 ·refine t_if (fun a=>?_) (fun a=>?_)<;>refine Qa ⟨?_,rfl⟩<;>simp[cmpI,e,a]
theorem c97{b:List Int}(g:Sl IntE 1 h.get p n a)(hb:Sl IntE 1 h.get q m b):Pu Tryz.prog 142 #[.slice p n c,.slice q m d] h (.int .i64 (cmpL a b)):=by
 refine w97 Qk ?_;have F:=g.1;have hm:=hb.1;have z:=g.2.1;have w:=hb.2.1;refine Qz (fun k l h'=>h=h'/\∃ i:Nat,l=[.int .i64 0,.int .i64 i]/\i<=n/\i<=m/\k=n-i/\cmpL a b=cmpL (a.drop i) (b.drop i)) ⟨rfl,0,rfl,Nat.zero_le _,Nat.zero_le _,rfl,rfl⟩ ?_;rintro Y k l _ t ⟨rfl,i,rfl,E,A,rfl,hc⟩;refine yJ (fun o=>?_) (fun o=>?_)
 ·obtain⟨x,C,B,u,r⟩:=g.at (i:=i) (by omega);unfold IntE at r;rw[Jh B]at hc;refine yJ (fun e=>?_) (fun e=>?_)
  ·refine gZ ?_;rw[List.drop_eq_nil_of_le (show b.length<=i by omega),cmpL]at hc;exact Qa ⟨by rw[hc],rfl⟩
  ·obtain⟨y,D,j,v,s⟩:=hb.at (i:=i) (by omega);unfold IntE at s;rw[Jh j,cmpL]at hc;refine gZ ?_;refine t_pu (c105 _ _) ?_;refine yI (fun f=>?_) (fun f=>?_)
   ·refine gZ ?_;rw[if_pos (by simpa using f)]at hc;exact Qa ⟨by rw[hc],rfl⟩
   ·rw[if_neg (by simpa using f)]at hc;refine Qi (t (n-(i+1)) _ _ (by omega) ⟨rfl,i+1,?_,by omega,by omega,rfl,hc⟩);rw[Qh (by omega) (by omega)];rfl
 ·refine gZ ?_;rw[List.drop_eq_nil_of_le (show a.length<=i by omega)]at hc;refine t_if (fun e=>?_) (fun e=>?_)
  ·obtain⟨y,j⟩ : ∃ y,b[i]?=some y:=⟨b[i]'(by omega),List.getElem?_eq_getElem (by omega)⟩
   rw[Jh j,cmpL]at hc;exact Qa ⟨by rw[hc],rfl⟩
  ·rw[List.drop_eq_nil_of_le (show b.length<=i by omega),cmpL]at hc;exact Qa ⟨by rw[hc],rfl⟩
theorem c75{b:List Int}(g:Sl IntE 1 h.get p n a)(hb:Sl IntE 1 h.get q m b):Pu Tryz.prog 81 #[.slice p n c,.slice q m d] h (.int .i64 (fewerF a b)):=by
 refine w75 Qk ?_;have k:=g.1;have hm:=hb.1;have j:=g.2.1;have i:=hb.2.1;refine Ql (fun e=>?_) (fun e=>?_)
 ·have f:a.length≠b.length:=by simp at e;omega
  rw[Qh (by omega) (by omega)];refine Qa ⟨?_,rfl⟩;rw[fewerF,if_pos f,k,hm]
 ·have f:¬ a.length≠b.length:=by simp at e;omega
  refine t_pu (c97 g hb) ?_;refine gZ ?_;refine Qa ⟨?_,rfl⟩;rw[fewerF,if_neg f]
end
end Go.Y
section
namespace Go.TM
theorem rises_mem{l:List Int}{b:Int}(h:risesF l b=0){v:Int}(hv:v∈l):0<=v/\v<b:=by
 obtain⟨n,d⟩:=List.mem_iff_getElem?.1 hv;have a:=Gx h n v d;unfold riseF at a;split at a
 ·cases a
 ·rename_i c;simp[isIn]at c;omega
end Go.TM
end
section
namespace Go.TM.Tp
variable {u:UseFile}
theorem paperF_zero{p:Paper}(h:paperF u p=0):isSpan p.days=true/\isIn p.land 0 (u.lands-1)=true/\risesF p.items u.items=0:=by
 unfold paperF at h;cases a:isSpan p.days with
 | false=>rw[a,if_pos rfl]at h;cases h
 | true =>
  cases b:isIn p.land 0 (u.lands-1) with
  | false=>rw[a,b,if_neg (by simp),if_pos rfl]at h;cases h
  | true=>rw[a,b,if_neg (by simp),if_neg (by simp)]at h;exact⟨rfl,rfl,h⟩
theorem requestF_zero{i:Nat}{r:Request}(h:requestF u i r=0):isDay r.day=true/\isIn r.land 0 (u.lands-1)=true/\risesF r.items u.items=0:=by
 unfold requestF at h;cases a:isDay r.day with
 | false=>rw[a,if_pos rfl]at h;cases h
 | true =>
  rw[a,if_neg (by simp)]at h;generalize (decide (r.day<u.from_)||(decide (0<i)&&(match u.requests[i-1]? with|some q=>decide (r.day<q.day)|none=>false)))=b at h;cases b with
  | true=>rw[if_pos rfl]at h;cases h
  | false =>
   rw[if_neg (by simp)]at h;cases c:isIn r.land 0 (u.lands-1) with
   | false=>rw[c,if_pos rfl]at h;cases h
   | true=>rw[c,if_neg (by simp)]at h;exact⟨rfl,rfl,h⟩
structure Sound(u:UseFile):Prop where
 num:(0<=u.items/\u.items<=6)/\(1<=u.lands/\u.lands<=3)/\(0<=u.from_/\u.from_<=2000)/\(1<=u.idle/\u.idle<=2000)
 nx:u.excuses.length<=4
 np:u.papers.length<=8
 nr:u.requests.length<=4
 ex:∀ x∈u.excuses,(0<=x.first/\x.first<=2000)/\(0<=x.last/\x.last<=2000)
 pa:∀ p∈u.papers,((0<=p.days.first/\p.days.first<=2000)/\(0<=p.days.last/\p.days.last<=2000))/\(0<=p.land/\p.land<=2)/\p.items.length<=6/\∀ n∈p.items,0<=n/\n<=5
 re:∀ r∈u.requests,(0<=r.day/\r.day<=2000)/\(0<=r.land/\r.land<=2)/\r.items.length<=6/\∀ n∈r.items,0<=n/\n<=5
theorem sound(h:checkF u=0):Sound u:=by
 have o:=Kb (Kn h);obtain⟨_,f,g,i⟩:=W1 h;obtain⟨t,f⟩:=Kl f;obtain⟨v,g⟩:=Kl g;obtain⟨w,i⟩:=Kl i;have items:∀ {l:List Int},risesF l u.items=0->l.length<=6/\∀ n∈l,0<=n/\n<=5:=fun {l} m=>by
  have:=Go.Y.rises_len' m (by omega);exact⟨by omega,fun n k=>by have:=rises_mem m k;omega⟩
 refine⟨o,by omega,by omega,by omega,fun x s=>?_,fun p q=>?_,fun r hr=>?_⟩
 ·obtain⟨j,d⟩:=List.mem_iff_getElem?.1 s;have h:=f j x d;cases e:isSpan x with
  | false=>simp only[e]at h;simp at h
  | true =>
   simp only[isSpan,isDay,isIn,Bool.and_eq_true,decide_eq_true_eq]at e;omega
 ·obtain⟨j,d⟩:=List.mem_iff_getElem?.1 q;obtain⟨a,b,c⟩:=paperF_zero (g j p d);simp only[isSpan,isDay,isIn,Bool.and_eq_true,decide_eq_true_eq]at a b;exact⟨by omega,by omega,items c⟩
 ·obtain⟨j,d⟩:=List.mem_iff_getElem?.1 hr;obtain⟨a,b,c⟩:=requestF_zero (i j r d);simp only[isDay,isIn,Bool.and_eq_true,decide_eq_true_eq]at a b;exact⟨by omega,by omega,items c⟩
theorem fits_all(h:checkF u=0):FitsAll u:=by
 have s:=sound h;have n:=s.num;unfold FitsAll Fits;refine⟨by omega,fun x f=>by have:=s.ex x f;omega,fun p e=>?_,fun r hr=>?_⟩
 ·obtain⟨a,b,_,c⟩:=s.pa p e;exact⟨by omega,by omega,by omega,fun n d=>by have:=c n d;omega⟩
 ·obtain⟨a,b,_,c⟩:=s.re r hr;exact⟨by omega,by omega,fun n d=>by have:=c n d;omega⟩
end Go.TM.Tp
end
namespace Go.Y
section
set_option maxHeartbeats 0
set_option linter.unusedVariables false
variable {X:XP} {h:LH} {A:Value->LH->Prop}
variable {a b c d e f g i j k l m:Int}{n o p q r s t u v w x y z:Nat}{B C D E F G H I J K L M:Option Addr}
theorem w15:FX X 7 #[.agg #[a,b,c,d,.slice B n o,.slice C p q,.slice D r s]] h A (.blk (bif decide ((↑n:Int)>20) then .rn [true] else bif decide ((↑p:Int)>20) then .rn [true] else bif decide ((↑r:Int)>20) then .rn [true] else .ag [false]) (fun e=>.popB e fun g e=>.unNil e (.loop [g,.int .i64 0] (fun e=>.popB e fun g e=>.pi e fun f e=>.unNil e (bif decide (f<(↑p:Int)) then .need (0<=f/\f<(↑p:Int)) (.someA C fun i=>.loadS ((i.add (f.toNat*4)).add 3) fun t j m=>bif decide ((↑j:Int)>20) then .rn [true,f] else .ag [g,.int .i64 (wrap .i64 (f+1))]) else .bk [g,f])) (fun e=>.popB e fun g e=>.pi e fun f e=>.unNil e (.loop [g,.int .i64 0] (fun e=>.popB e fun g e=>.pi e fun f e=>.unNil e (bif decide (f<(↑r:Int)) then .need (0<=f/\f<(↑r:Int)) (.someA D fun i=>.loadS ((i.add (f.toNat*3)).add 2) fun t j m=>bif decide ((↑j:Int)>20) then .rn [true,f] else .ag [g,.int .i64 (wrap .i64 (f+1))]) else .bk [g,f])) (fun e=>.popB e fun g e=>.pi e fun f e=>.unNil e (.rt (.bool false))) (fun e=>.popB e fun g e=>.pi e fun f e=>.unNil e (.rt (.bool g))) fun k l=>.fail)) (fun e=>.popB e fun g e=>.pi e fun f e=>.unNil e (.rt (.bool g))) fun k l=>.fail)) (fun e=>.popB e fun g e=>.unNil e (.rt (.bool g))) fun k l=>.fail):=fk [1] [⟨0,[(2,.bool),(3,.int .i64)],[1],[],[],[]⟩,⟨2,[(2,.bool),(4,.int .i64)],[1],[],[],[]⟩] [⟨3,[(2,.bool)],[1],[],[],[]⟩] Tryz.f7
theorem w25:FX X 31 #[.slice B n o,.slice C p q] h A (bif (↑n:Int) != (↑p:Int) then .rt (.bool false) else .loop [false,.int .i64 0] (fun a=>.popB a fun c a=>.pi a fun b a=>.unNil a (bif decide (b<(↑n:Int)) then .need (0<=b/\b<(↑n:Int)) (.someA B fun d=>.li (d.add (b.toNat*1)) fun e=>.need (0<=b/\b<(↑p:Int)) (.someA C fun d=>.li (d.add (b.toNat*1)) fun f=>bif e != f then .rn [false,b] else .ag [c,.int .i64 (wrap .i64 (b+1))])) else .bk [c,b])) (fun a=>.popB a fun c a=>.pi a fun b a=>.unNil a (.rt (.bool true))) (fun a=>.popB a fun c a=>.pi a fun b a=>.unNil a (.rt (.bool c))) fun g i=>.fail):=fk [] [⟨0,[(4,.bool),(5,.int .i64)],[],[],[],[]⟩] [] Tryz.f31
theorem w27:FX X 42 #[.agg #[a,b,c,d,.slice B n o,.slice C p q,.slice D r s]] h A (.blk (.cB 87 #[a,.int .i64 0,.int .i64 6] fun f=>bif !f then .rn [.int .i64 1] else .cB 87 #[b,.int .i64 1,.int .i64 3] fun f=>bif !f then .rn [.int .i64 1] else .cB 88 #[c] fun f=>bif !f then .rn [.int .i64 1] else .cB 87 #[d,.int .i64 1,.int .i64 2000] fun f=>bif !f then .rn [.int .i64 1] else .ag [.int .i64 0]) (fun g=>.pi g fun e g=>.unNil g (.cI 89 #[.slice B n o] fun e=>bif e != 0 then .rt (.int .i64 e) else .cI 90 #[.agg #[a,b,c,d,.slice B n o,.slice C p q,.slice D r s]] fun e=>bif e != 0 then .rt (.int .i64 e) else .cI 91 #[.agg #[a,b,c,d,.slice B n o,.slice C p q,.slice D r s]] fun e=>.rt (.int .i64 e))) (fun g=>.pi g fun e g=>.unNil g (.rt (.int .i64 e))) fun i j=>.fail):=fk [1] [] [⟨3,[(2,.int .i64)],[1],[],[],[]⟩] Tryz.f42
theorem w30:FX X 32 #[.slice B n o,.slice C p q] h A (bif (↑n:Int) != (↑p:Int) then .rt (.bool false) else .loop [false,.int .i64 0] (fun b=>.popB b fun e b=>.pi b fun a b=>.unNil b (bif decide (a<(↑n:Int)) then .need (0<=a/\a<(↑n:Int)) (.someA B fun c=>.li ((c.add (a.toNat*4)).add 0) fun f=>.li ((c.add (a.toNat*4)).add 1) fun g=>.li ((c.add (a.toNat*4)).add 2) fun i=>.li ((c.add (a.toNat*4)).add 3) fun j=>.need (0<=a/\a<(↑p:Int)) (.someA C fun d=>.li ((d.add (a.toNat*4)).add 0) fun k=>.li ((d.add (a.toNat*4)).add 1) fun l=>.li ((d.add (a.toNat*4)).add 2) fun m=>.li ((d.add (a.toNat*4)).add 3) fun r=>.sem false (Sem.bind (eqGuard BinOp.neq 75 (Operand.tmp 20) (Operand.tmp 24) (.agg #[f,g,i,j]) (.agg #[k,l,m,r])) fun w=>binOp BinOp.neq 75 (.agg #[f,g,i,j]) (.agg #[k,l,m,r])) fun v=>.unB v fun u=>.need (0<=a/\a<(↑p:Int)) (.someA C fun s=>.ne (.pointer (some (s.add (a.toNat*4)))) (.pointer (some (d.add (a.toNat*4)))) (.nds [a,.S C p q] (.need (0<=a/\a<(↑n:Int)) (.someA B fun t=>.ne (.pointer (some (t.add (a.toNat*4)))) (.pointer (some (c.add (a.toNat*4)))) (.nds [a,.S B n o] (bif u then .rn [false,a] else .ag [e,.int .i64 (wrap .i64 (a+1))])))))))) else .bk [e,a])) (fun b=>.popB b fun e b=>.pi b fun a b=>.unNil b (.rt (.bool true))) (fun b=>.popB b fun e b=>.pi b fun a b=>.unNil b (.rt (.bool e))) fun x y=>.fail):=fk [] [⟨0,[(4,.bool),(5,.int .i64)],[],[],[],[]⟩] [] Tryz.f32
theorem w42:FX X 29 #[a,b] h A (.rt (.agg #[a,b])):=fk [4] [] [] Tryz.f29
theorem w52  : FX X 21 #[] h A (.cl 29 #[.int .i64 21,.int .i64 23] fun a=>.unAgg a fun c=>.pi c fun d b=>.pi b fun x b=>.unNil b (.sem false (Instr.buildSlice 22 1 #[(0,.agg #[d,x])]) fun a=>.unS a fun e d o=>.cl 29 #[.int .i64 12,.int .i64 14] fun a=>.unAgg a fun c=>.pi c fun H b=>.pi b fun I b=>.unNil b (.sem false (Instr.buildSlice 47 2 #[(0,.int .i64 0),(1,.int .i64 1)]) fun a=>.unS a fun f J p=>.cl 29 #[.int .i64 19,.int .i64 19] fun a=>.unAgg a fun c=>.pi c fun K b=>.pi b fun L b=>.unNil b (.sem false (Instr.buildSlice 47 1 #[(0,.int .i64 0)]) fun a=>.unS a fun g M q=>.cl 29 #[.int .i64 17,.int .i64 26] fun a=>.unAgg a fun c=>.pi c fun N b=>.pi b fun O b=>.unNil b (.sem false (Instr.buildSlice 47 1 #[(0,.int .i64 2)]) fun a=>.unS a fun i y r=>.cl 29 #[.int .i64 18,.int .i64 18] fun a=>.unAgg a fun c=>.pi c fun z b=>.pi b fun B b=>.unNil b (.sem false (Instr.buildSlice 47 2 #[(0,.int .i64 0),(1,.int .i64 1)]) fun a=>.unS a fun j C s=>.sem false (Instr.buildSlice 23 4 #[(0,.agg #[H,I,.int .i64 0,.slice f J p]),(1,.agg #[K,L,.int .i64 0,.slice g M q]),(2,.agg #[N,O,.int .i64 0,.slice i y r]),(3,.agg #[z,B,.int .i64 1,.slice j C s])]) fun a=>.unS a fun k D t=>.sem false (Instr.buildSlice 47 3 #[(0,.int .i64 0),(1,.int .i64 1),(2,.int .i64 2)]) fun a=>.unS a fun l E u=>.sem false (Instr.buildSlice 47 2 #[(0,.int .i64 0),(1,.int .i64 2)]) fun a=>.unS a fun m F v=>.sem false (Instr.buildSlice 24 2 #[(0,.agg #[.int .i64 20,.int .i64 0,.slice l E u]),(1,.agg #[.int .i64 25,.int .i64 0,.slice m F v])]) fun a=>.unS a fun n G w=>.rt (.agg #[.int .i64 3,.int .i64 2,.int .i64 10,.int .i64 5,.slice e d o,.slice k D t,.slice n G w]))))))):=fk [0] [] [] Tryz.f21
theorem w56:FX X 88 #[a] h A (.cB 87 #[a,.int .i64 0,.int .i64 2000] fun b=>.rt (.bool b)):=fk [] [] [] Tryz.f88
theorem w66:FX X 89 #[.slice B n o] h A (bif decide ((↑n:Int)>4) then .rt (.int .i64 2) else .loop [.int .i64 0,.int .i64 0] (fun a=>.pi a fun c a=>.pi a fun b a=>.unNil a (bif decide (b<(↑n:Int)) then .need (0<=b/\b<(↑n:Int)) (.someA B fun d=>.li ((d.add (b.toNat*2)).add 0) fun f=>.li ((d.add (b.toNat*2)).add 1) fun g=>.cB 149 #[.agg #[f,g],.int .i64 0,.int .i64 2000] fun e=>bif !e then .rn [.int .i64 1,b] else .ag [c,.int .i64 (wrap .i64 (b+1))]) else .bk [c,b])) (fun a=>.pi a fun c a=>.pi a fun c a=>.unNil a (.rt (.int .i64 0))) (fun a=>.pi a fun c a=>.pi a fun b a=>.unNil a (.rt (.int .i64 c))) fun i j=>.fail):=fk [] [⟨0,[(2,.int .i64),(3,.int .i64)],[],[],[],[]⟩] [] Tryz.f89
theorem w67:FX X 90 #[.agg #[a,b,c,d,.slice B n o,.slice C p q,.slice D r s]] h A (bif decide ((↑p:Int)>8) then .rt (.int .i64 2) else .loop [.int .i64 0,.int .i64 0] (fun e=>.pi e fun g e=>.pi e fun f e=>.unNil e (bif decide (f<(↑p:Int)) then .need (0<=f/\f<(↑p:Int)) (.someA C fun i=>.li ((i.add (f.toNat*4)).add 0) fun m=>.li ((i.add (f.toNat*4)).add 1) fun t=>.li ((i.add (f.toNat*4)).add 2) fun u=>.loadS ((i.add (f.toNat*4)).add 3) fun w v l=>.cB 149 #[.agg #[m,t],.int .i64 0,.int .i64 2000] fun j=>bif !j then .rn [.int .i64 1,f] else .cB 87 #[u,.int .i64 0,.int .i64 (wrap .i64 (b-1))] fun j=>bif !j then .rn [.int .i64 6,f] else .cI 150 #[.slice w v l,a] fun k=>bif k != 0 then .rn [k,f] else .ag [g,.int .i64 (wrap .i64 (f+1))]) else .bk [g,f])) (fun e=>.pi e fun g e=>.pi e fun g e=>.unNil e (.rt (.int .i64 0))) (fun e=>.pi e fun g e=>.pi e fun f e=>.unNil e (.rt (.int .i64 g))) fun x y=>.fail):=fk [1,4] [⟨0,[(2,.int .i64),(3,.int .i64)],[1],[],[],[]⟩] [] Tryz.f90
theorem w68:FX X 91 #[.agg #[a,b,c,d,.slice B n o,.slice C p q,.slice D r s]] h A (bif decide ((↑r:Int)>4) then .rt (.int .i64 2) else .loop [.int .i64 0,.int .i64 0] (fun e=>.pi e fun i e=>.pi e fun f e=>.unNil e (bif decide (f<(↑r:Int)) then .need (0<=f/\f<(↑r:Int)) (.someA D fun j=>.li ((j.add (f.toNat*3)).add 0) fun g=>.li ((j.add (f.toNat*3)).add 1) fun t=>.loadS ((j.add (f.toNat*3)).add 2) fun v u m=>.cB 88 #[g] fun l=>bif !l then .rn [.int .i64 1,f] else .blk (bif decide (g<c) then .nds [.B (decide (g<c)),c,.pp 1 2,g,.pp 4 0,.U,.U,.U,.U,.B (decide (g<c)),c,.pp 1 2,g,.pp 4 0,.U,.U,.U,.U,.U,.B (decide (g<c)),c,.pp 1 2,g,.pp 4 0] (.rn [.int .i64 7]) else bif decide (f>0) then .need (0<=wrap .i64 (f-1)/\wrap .i64 (f-1)<(↑r:Int)) (.someA D fun j=>.li ((j.add ((wrap .i64 (f-1)).toNat*3)).add 0) fun k=>bif decide (g<k) then .rn [.int .i64 7] else .ag [i]) else .nds [.U,.U,.U,.U,.B (decide (f>0)),f] (.nf (decide (g<c)) false (.nds [.B (decide (g<c)),c,.pp 1 2,g,.pp 4 0,.U,.U,.U,.U,.U,.B (decide (f>0)),f] (.nf (decide (g<c)) false (.nds [.B (decide (g<c)),c,.pp 1 2,g,.pp 4 0] (.ag [i])))))) (fun e=>.pi e fun i e=>.unNil e (.cB 87 #[t,.int .i64 0,.int .i64 (wrap .i64 (b-1))] fun l=>bif !l then .rn [.int .i64 6,f] else .cI 150 #[.slice v u m,a] fun k=>bif k != 0 then .rn [k,f] else .ag [i,.int .i64 (wrap .i64 (f+1))])) (fun e=>.pi e fun i e=>.unNil e (.rn [i,f])) fun w x=>.fail) else .bk [i,f])) (fun e=>.pi e fun i e=>.pi e fun i e=>.unNil e (.rt (.int .i64 0))) (fun e=>.pi e fun i e=>.pi e fun f e=>.unNil e (.rt (.int .i64 i))) fun w x=>.fail):=fk [1,4] [⟨0,[(2,.int .i64),(3,.int .i64)],[1],[],[],[]⟩] [⟨11,[(2,.int .i64)],[1,4],[],[],[]⟩] Tryz.f91
theorem w72:FX X 150 #[.slice B n o,a] h A (.loop [.int .i64 0,.int .i64 0] (fun c=>.pi c fun d c=>.pi c fun b c=>.unNil c (bif decide (b<(↑n:Int)) then .need (0<=b/\b<(↑n:Int)) (.someA B fun e=>.li (e.add (b.toNat*1)) fun g=>.cB 87 #[g,.int .i64 0,.int .i64 (wrap .i64 (a-1))] fun f=>bif !f then .rn [.int .i64 6,b] else bif decide (b>0) then .need (0<=b/\b<(↑n:Int)) (.someA B fun e=>.li (e.add (b.toNat*1)) fun i=>.need (0<=wrap .i64 (b-1)/\wrap .i64 (b-1)<(↑n:Int)) (.someA B fun e=>.li (e.add ((wrap .i64 (b-1)).toNat*1)) fun j=>bif decide (i<=j) then .rn [.int .i64 7,b] else .ag [d,.int .i64 (wrap .i64 (b+1))])) else .nds [.U,.U,.U,.U,.U,.B (decide (b>0)),b,.U,.U,.U,.U,.U,.B (decide (b>0)),b] (.ag [d,.int .i64 (wrap .i64 (b+1))])) else .bk [d,b])) (fun c=>.pi c fun d c=>.pi c fun d c=>.unNil c (.rt (.int .i64 0))) (fun c=>.pi c fun d c=>.pi c fun b c=>.unNil c (.rt (.int .i64 d))) fun k l=>.fail):=fk [] [⟨0,[(4,.int .i64),(5,.int .i64)],[],[],[],[]⟩] [] Tryz.f150
theorem w93:FX X 149 #[.agg #[a,b],c,d] h A (bif decide (c<=a) then bif decide (a<=b) then .rt (.bool (decide (b<=d))) else .rt (.bool false) else .rt (.bool false)):=fk [3] [] [] Tryz.f149
end
section
attribute [local irreducible] T.wp CV FWK
variable {h:LH}{p:Option Addr}{n c:Nat}{f:FileC}{u:UseFile}
theorem c49(n a b:Int):Pu Tryz.prog 87 #[n,a,b] h (.bool (isIn n a b)):=by
 refine w49 _ _ _ Qk ?_;unfold n49;refine t_if (fun e=>?_) (fun e=>?_)<;>refine Qa ⟨?_,rfl⟩<;>simp[isIn,e]
theorem c56(n:Int):Pu Tryz.prog 88 #[n] h (.bool (isDay n)):=by
 refine w56 Qk ?_;refine t_pu (c49 _ _ _) ?_;refine gZ ?_;exact Qa ⟨rfl,rfl⟩
theorem c93(a b x y:Int):Pu Tryz.prog 149 #[.agg #[a,b],x,y] h (.bool (decide (x<=a)&&(decide (a<=b)&&decide (b<=y)))):=by
 refine w93 Qk ?_;refine t_if (fun e=>?_) (fun e=>?_)
 ·refine t_if (fun c=>?_) (fun c=>?_)<;>refine Qa ⟨?_,rfl⟩<;>simp[e,c]
 ·refine Qa ⟨?_,rfl⟩;simp[e]
theorem inside_span(x:Span):(decide ((0:Int)<=x.first)&&(decide (x.first<=x.last)&&decide (x.last<=2000)))=isSpan x:=by
 unfold isSpan isDay isIn;rw[Bool.eq_iff_iff];simp only[Bool.and_eq_true,decide_eq_true_eq];omega
theorem c72{below:Int}{l:List Int}(g:Sl IntE 1 h.get p n l)(hb:IsI (below-1)):Pu Tryz.prog 150 #[.slice p n c,below] h (.int .i64 (risesF l below)):=by
 refine w72 Qk ?_;have F:=g.1;have A:=g.2.1;have hw:wrap .i64 (below-1)=below-1:=Qh hb.1 hb.2;refine Qz (fun q r h'=>h=h'/\∃ i:Nat,r=[.int .i64 0,.int .i64 i]/\i<=n/\q=n-i/\risesF l below=firstF (riseF l below) i (l.drop i)) ⟨rfl,0,rfl,Nat.zero_le _,rfl,rfl⟩ ?_;rintro Y q r _ v ⟨rfl,i,rfl,E,rfl,hc⟩;refine yJ (fun e=>?_) (fun e=>?_)
 ·obtain⟨x,a,B,w,s⟩:=g.at (i:=i) (by omega);unfold IntE at s;rw[Jh B,firstF]at hc;refine gZ ?_;refine t_pu (c49 _ _ _) ?_;refine gZ ?_;rw[hw];have next:riseF l below i x=0->Y [.int .i64 0,.int .i64 (wrap .i64 ((i:Int)+1))] h:=by
   intro k;rw[if_neg (by simp[k])]at hc;refine v (n-(i+1)) _ _ (by omega) ⟨rfl,i+1,?_,by omega,rfl,hc⟩;rw[Qh (by omega) (by omega)];rfl
  have stop:∀ z:Int,z≠0->riseF l below i x=z->risesF l below=z:=by
   intro z k hr;rw[if_pos (by rw[hr];exact k),hr]at hc;exact hc
  refine Ql (fun b=>?_) (fun b=>?_)
  ·refine gZ ?_;have d:isIn x 0 (below-1)=false:=by simpa using b
   exact Qa ⟨by rw[stop 6 (by omega) (by rw[riseF,if_pos d])],rfl⟩
  ·have d:¬ isIn x 0 (below-1)=false:=by simp at b;simp[b]
   refine t_if (fun t=>?_) (fun t=>?_)
   ·obtain⟨y,D,C,f,u⟩:=g.at (i:=i-1) (by omega);unfold IntE at u;rw[w]at f;cases f;have j:wrap .i64 ((i:Int)-1)=((i-1:Nat):Int):=by rw[Qh (by omega) (by omega)];omega
    have o:l.getD (i-1) 0=y:=by simp[List.getD,C]
    rw[j];refine yJ (fun m=>?_) (fun m=>?_)
    ·refine gZ ?_;exact Qa ⟨by rw[stop 7 (by omega) (by rw[riseF,if_neg d,if_pos ⟨by omega,by rw[o];exact m⟩])],rfl⟩
    ·exact Qi (next (by rw[riseF,if_neg d,if_neg (by rw[o];omega)]))
   ·refine gZ ?_;exact Qi (next (by rw[riseF,if_neg d,if_neg (by omega)]))
 ·refine gZ ?_;rw[List.drop_eq_nil_of_le (by omega)]at hc;exact Qa ⟨by rw[hc];rfl,rfl⟩
theorem c66{l:List Span}(f:Sl SpanE 2 h.get p n l):Pu Tryz.prog 89 #[.slice p n c] h (.int .i64 (eachF 4 (fun _ x=>if isSpan x then 0 else 1) l)):=by
 refine w66 Qk ?_;have u:=f.1;have m:=f.2.1;refine t_if (fun e=>?_) (fun e=>?_)
 ·exact Qa ⟨by rw[eachF,if_pos (by omega)],rfl⟩
 have he:eachF 4 (fun _ x=>if isSpan x then 0 else 1) l=firstF (fun _ x=>if isSpan x then 0 else 1) 0 l:=by rw[eachF,if_neg (by omega)]
 refine Qz (fun g j h'=>h=h'/\∃ i:Nat,j=[.int .i64 0,.int .i64 i]/\i<=n/\g=n-i/\eachF 4 (fun _ x=>if isSpan x then 0 else 1) l=firstF (fun _ x=>if isSpan x then 0 else 1) i (l.drop i)) ⟨rfl,0,rfl,Nat.zero_le _,rfl,he⟩ ?_;rintro Y g j _ k ⟨rfl,i,rfl,t,rfl,hc⟩;refine yJ (fun e=>?_) (fun e=>?_)
 ·obtain⟨x,a,o,s,q,r⟩:=f.at (i:=i) (by omega);rw[Jh o,firstF]at hc;refine gZ ?_;refine t_pu (c93 _ _ _ _) ?_;rw[inside_span];refine yI (fun b=>?_) (fun b=>?_)
  ·refine gZ ?_;have d:isSpan x=false:=by simpa using b
   rw[d]at hc;exact Qa ⟨by rw[hc];rfl,rfl⟩
  ·have d:isSpan x=true:=by simpa using b
   rw[d]at hc;refine Qi (k (n-(i+1)) _ _ (by omega) ⟨rfl,i+1,?_,by omega,rfl,by simpa using hc⟩);rw[Qh (by omega) (by omega)];rfl
 ·refine gZ ?_;rw[List.drop_eq_nil_of_le (by omega)]at hc;exact Qa ⟨by rw[hc];rfl,rfl⟩
theorem c67(hu:FileR h.get f u)(d:numbersF u=0):Pu Tryz.prog 90 #[fileV f u] h (.int .i64 (papersF u)):=by
 refine w67 Qk ?_;have j:=hu.papers;have F:=j.1;have v:=j.2.1;have hw:wrap .i64 (u.lands-1)=u.lands-1:=Qh (Kf d).1 (Kf d).2;refine t_if (fun e=>?_) (fun e=>?_)
 ·exact Qa ⟨by rw[papersF,eachF,if_pos (by omega)],rfl⟩
 have he:papersF u=firstF (fun _ p=>paperF u p) 0 u.papers:=by rw[papersF,eachF,if_neg (by omega)]
 refine Qz (fun n o h'=>h=h'/\∃ i:Nat,o=[.int .i64 0,.int .i64 i]/\i<=f.n5/\n=f.n5-i/\papersF u=firstF (fun _ p=>paperF u p) i (u.papers.drop i)) ⟨rfl,0,rfl,Nat.zero_le _,rfl,he⟩ ?_;rintro Y n o _ t ⟨rfl,i,rfl,E,rfl,hc⟩;refine yJ (fun e=>?_) (fun e=>?_)
 ·obtain⟨x,a,w,D,y,A,B,q,m,c,C,s⟩:=j.at (i:=i) (by omega);rw[Jh w,firstF]at hc;refine gZ ?_;have next:paperF u x=0->Y [.int .i64 0,.int .i64 (wrap .i64 ((i:Int)+1))] h:=by
   intro k;rw[if_neg (by simp[k])]at hc;refine t (f.n5-(i+1)) _ _ (by omega) ⟨rfl,i+1,?_,by omega,rfl,hc⟩;rw[Qh (by omega) (by omega)];rfl
  have stop:∀ z:Int,z≠0->paperF u x=z->papersF u=z:=by
   intro z k hr;rw[if_pos (by rw[hr];exact k),hr]at hc;exact hc
  refine t_pu (c93 _ _ _ _) ?_;rw[inside_span x.days];refine yI (fun b=>?_) (fun b=>?_)
  ·refine gZ ?_;have g:isSpan x.days=false:=by simpa using b
   exact Qa ⟨by rw[stop 1 (by omega) (by rw[paperF,if_pos g])],rfl⟩
  have l:¬ isSpan x.days=false:=by simp at b;simp[b]
  refine t_pu (c49 _ _ _) ?_;rw[hw];refine yI (fun b=>?_) (fun b=>?_)
  ·refine gZ ?_;have g:isIn x.land 0 (u.lands-1)=false:=by simpa using b
   exact Qa ⟨by rw[stop 6 (by omega) (by rw[paperF,if_neg l,if_pos g])],rfl⟩
  have r:¬ isIn x.land 0 (u.lands-1)=false:=by simp at b;simp[b]
  refine t_pu (c72 s (Ge d)) ?_;refine gZ ?_;have hr:paperF u x=risesF x.items u.items:=by rw[paperF,if_neg l,if_neg r]
  refine Ql (fun b=>?_) (fun b=>?_)
  ·refine gZ ?_;exact Qa ⟨by rw[stop _ (by simpa using b) hr],rfl⟩
  ·exact Qi (next (by rw[hr];simpa using b))
 ·refine gZ ?_;rw[List.drop_eq_nil_of_le (by omega)]at hc;exact Qa ⟨by rw[hc];rfl,rfl⟩
def lateB(u:UseFile)(i:Nat)(x:Request):Bool:=decide (x.day<u.from_)||(decide (0<i)&&(match u.requests[i-1]? with|some q=>decide (x.day<q.day)|none=>false))
theorem Kr(u:UseFile)(i:Nat)(x:Request):requestF u i x=if isDay x.day=false then 1 else if lateB u i x=true then 7 else if isIn x.land 0 (u.lands-1)=false then 6 else risesF x.items u.items:=rfl
theorem lateB_prev{i:Nat}{x y:Request}(a:u.requests[i-1]?=some y):lateB u i x=(decide (x.day<u.from_)||(decide (0<i)&&decide (x.day<y.day))):=by
 unfold lateB;rw[a]
theorem c68(hu:FileR h.get f u)(d:numbersF u=0):Pu Tryz.prog 91 #[fileV f u] h (.int .i64 (Jl u)):=by
 refine w68 Qk ?_;have l:=hu.requests;have P:=l.1;have H:=l.2.1;have hw:wrap .i64 (u.lands-1)=u.lands-1:=Qh (Kf d).1 (Kf d).2;refine t_if (fun e=>?_) (fun e=>?_)
 ·exact Qa ⟨by rw[Jl,eachF,if_pos (by omega)],rfl⟩
 have he:Jl u=firstF (requestF u) 0 u.requests:=by rw[Jl,eachF,if_neg (by omega)]
 refine Qz (fun B j h'=>h=h'/\∃ i:Nat,j=[.int .i64 0,.int .i64 i]/\i<=f.n6/\B=f.n6-i/\Jl u=firstF (requestF u) i (u.requests.drop i)) ⟨rfl,0,rfl,Nat.zero_le _,rfl,he⟩ ?_;rintro Y B j _ F ⟨rfl,i,rfl,O,rfl,hc⟩;refine yJ (fun e=>?_) (fun e=>?_)
 ·obtain⟨x,a,I,N,K,L,q,m,c,M,D⟩:=l.at (i:=i) (by omega);rw[Jh I,firstF]at hc;refine gZ ?_;have next:requestF u i x=0->Y [.int .i64 0,.int .i64 (wrap .i64 ((i:Int)+1))] h:=by
   intro s;rw[if_neg (by simp[s])]at hc;refine F (f.n6-(i+1)) _ _ (by omega) ⟨rfl,i+1,?_,by omega,rfl,hc⟩;rw[Qh (by omega) (by omega)];rfl
  have stop:∀ z:Int,z≠0->requestF u i x=z->Jl u=z:=by
   intro z s hr;rw[if_pos (by rw[hr];exact s),hr]at hc;exact hc
  refine t_pu (c56 _) ?_;refine yI (fun b=>?_) (fun b=>?_)
  ·refine gZ ?_;have n:isDay x.day=false:=by simpa using b
   exact Qa ⟨by rw[stop 1 (by omega) (by rw[Kr,if_pos n])],rfl⟩
  have k:¬ isDay x.day=false:=by simp at b;simp[b]
  refine Q1 (fun j h'=>j=[.int .i64 0]/\h=h'/\lateB u i x=false) ?_ ?_
  ·refine t_if (fun o=>?_) (fun o=>?_)
   ·refine gZ ?_;exact Qa ⟨by rw[stop 7 (by omega) (by rw[Kr,if_neg k,if_pos (by simp[lateB,o])])],rfl⟩
   ·refine t_if (fun E=>?_) (fun E=>?_)
    ·obtain⟨y,J,A,G,f1,f2,_⟩:=l.at (i:=i-1) (by omega);have r:wrap .i64 ((i:Int)-1)=((i-1:Nat):Int):=by rw[Qh (by omega) (by omega)];omega
     rw[r];refine yJ (fun v=>?_) (fun v=>?_)
     ·refine gZ ?_;exact Qa ⟨by rw[stop 7 (by omega) (by rw[Kr,if_neg k,if_pos (by rw[lateB_prev A];simp[v];omega)])],rfl⟩
     ·refine Qi ⟨rfl,rfl,?_⟩;rw[lateB_prev A];simp;omega
    ·have g:decide (x.day<u.from_)=false:=by simpa using o
     have t:AV.val (.bool (decide (x.day<u.from_)))=AV.val (.bool false):=by rw[g]
     refine gZ ?_;refine Qi ⟨rfl,rfl,?_⟩;have p:i=0:=by omega
     subst p;unfold lateB;rw[g];rfl
  rintro j _ ⟨rfl,rfl,w⟩;refine gZ ?_;refine t_pu (c49 _ _ _) ?_;rw[hw];refine yI (fun b=>?_) (fun b=>?_)
  ·refine gZ ?_;have n:isIn x.land 0 (u.lands-1)=false:=by simpa using b
   exact Qa ⟨by rw[stop 6 (by omega) (by rw[Kr,if_neg k,w,if_neg (by simp),if_pos n])],rfl⟩
  have C:¬ isIn x.land 0 (u.lands-1)=false:=by simp at b;simp[b]
  refine t_pu (c72 D (Ge d)) ?_;refine gZ ?_;have hr:requestF u i x=risesF x.items u.items:=by rw[Kr,if_neg k,w,if_neg (by simp),if_neg C]
  refine Ql (fun b=>?_) (fun b=>?_)
  ·refine gZ ?_;exact Qa ⟨by rw[stop _ (by simpa using b) hr],rfl⟩
  ·exact Qi (next (by rw[hr];simpa using b))
 ·refine gZ ?_;rw[List.drop_eq_nil_of_le (by omega)]at hc;exact Qa ⟨by rw[hc];rfl,rfl⟩
theorem c27(hu:FileR h.get f u):Pu Tryz.prog 42 #[fileV f u] h (.int .i64 (checkF u)):=by
 refine w27 Qk ?_;have bad:numbersF u≠0->checkF u=1:=by
  intro j;have:numbersF u=1:=by unfold numbersF at j ⊢;split at j<;>simp_all
  unfold checkF firstF;rw[if_pos j,this]
 refine Q1 (fun k h'=>k=[.int .i64 0]/\h=h'/\numbersF u=0) ?_ ?_
 ·refine t_pu (c49 _ _ _) ?_;refine yI (fun c=>?_) (fun c=>?_)
  ·refine gZ ?_;exact Qa ⟨by rw[bad (by simp at c;simp[numbersF,c])],rfl⟩
  refine t_pu (c49 _ _ _) ?_;refine yI (fun d=>?_) (fun d=>?_)
  ·refine gZ ?_;exact Qa ⟨by rw[bad (by simp at d;simp[numbersF,d])],rfl⟩
  refine t_pu (c56 _) ?_;refine yI (fun g=>?_) (fun g=>?_)
  ·refine gZ ?_;exact Qa ⟨by rw[bad (by simp at g;simp[numbersF,g])],rfl⟩
  refine t_pu (c49 _ _ _) ?_;refine yI (fun i=>?_) (fun i=>?_)
  ·refine gZ ?_;exact Qa ⟨by rw[bad (by simp at i;simp[numbersF,i])],rfl⟩
  exact Qi ⟨rfl,rfl,by simp at c d g i;simp[numbersF,c,d,g,i]⟩
 rintro k _ ⟨rfl,rfl,a⟩;refine gZ ?_;refine t_pu (c66 hu.excuses) ?_;refine gZ ?_;have h0:checkF u=firstF (fun _ x=>x) 1 [excusesF u,papersF u,Jl u]:=by
  unfold checkF;rw[firstF,if_neg (by simp[a])]
 rw[firstF]at h0;refine Ql (fun b=>?_) (fun b=>?_)
 ·rw[if_pos (show excusesF u≠0 by simpa[excusesF] using b)]at h0;exact Qa ⟨by rw[h0];rfl,rfl⟩
 rw[if_neg (show ¬ excusesF u≠0 by simpa[excusesF] using b),firstF]at h0;refine t_pu (c67 hu a) ?_;refine yI (fun b=>?_) (fun b=>?_)
 ·rw[if_pos (by simpa using b)]at h0;exact Qa ⟨by rw[h0],rfl⟩
 rw[if_neg (by simpa using b),firstF]at h0;refine t_pu (c68 hu a) ?_;refine gZ ?_;refine Qa ⟨?_,rfl⟩;rw[h0];by_cases e:Jl u=0
 ·rw[if_neg (by simp[e]),e];rfl
 ·rw[if_pos e]
end
end Go.Y
section
namespace Go.TM.Tp
open Go.Lib (decDigits)
variable {x:Span}{u:UseFile}{i:Nat}
theorem Jz{n:Int}(h:Fits n):(di n).length<=9:=by
 have:=h.lt;exact Ds (k:=8) this
theorem Ue(c:Fits x.first)(d:Fits x.last):(da x).length<=19:=by
 have a:=Jz c;have b:=Jz d;unfold di at a b;rw[Uo];split
 ·omega
 ·rw[List.length_append,List.length_cons];omega
theorem H6{l:List Int}(h:∀ n∈l,Fits n):(li l).length<=l.length*10:=by
 unfold li listS;have:=Hp (B:=9) (c:=44) (l:=(l.map Int.toNat).map decDigits) fun f a=>by
  rw[List.map_map]at a;obtain⟨n,b,rfl⟩:=List.mem_map.1 a;exact Jz (h n b)
 rw[List.length_map,List.length_map]at this;exact this
theorem Dw(bs:List Bs)(b:Bs):text (bs++[b])=text bs++(b++[10]):=by simp[text]
theorem text_len{B:Nat}:∀ {bs:List Bs},(∀ b∈bs,b.length<=B)->(text bs).length<=bs.length*(B+1)
 | [],_=>by simp[text]
 | b::bs,h=>by
  have c:=text_len (B:=B) (bs:=bs) fun x a=>h x (List.mem_cons_of_mem _ a);have d:=h b (by simp);have:text (b::bs)=b++10::text bs:=by simp[text]
  rw[this,List.length_append,List.length_cons,List.length_cons,Nat.succ_mul];omega
def rU(u:UseFile):Bs:=rowS wUse [di u.items,di u.lands,di u.from_,di u.idle]
def rX(x:Span):Bs:=rowS wExcuse [da x]
def rP(p:Paper):Bs:=rowS wPaper [da p.days,di p.land,li p.items]
def rR(r:Request):Bs:=rowS wRequest [di r.day,di r.land,li r.items]
theorem Hj(u:UseFile):rowsU u=rU u::(u.excuses.map rX)++(u.papers.map rP)++(u.requests.map rR):=rfl
theorem Hk{w:Bs}{fs:List Bs}(hw:w.length<=7)(a:∀ f∈fs,f.length<=60)(b:fs.length<=4):(rowS w fs).length<=252:=by
 have:=lineTo_len (B:=60) (w:=w) a;have e:rowS w fs=lineTo w fs:=rfl;rw[e];have:fs.length*(60+1)<=4*61:=Nat.mul_le_mul_right _ b;omega
theorem all1{P:Bs->Prop}{a:Bs}(c:P a):∀ f∈[a],P f:=by
 intro f b;rw[List.mem_singleton]at b;rw[b];exact c
theorem all3{P:Bs->Prop}{a b c:Bs}(e:P a)(g:P b)(h:P c):∀ f∈[a,b,c],P f:=by
 intro f d;simp only[List.mem_cons,List.not_mem_nil,or_false]at d;rcases d with rfl|rfl|rfl<;>assumption
theorem all4{P:Bs->Prop}{a b c d:Bs}(g:P a)(h:P b)(i:P c)(j:P d):∀ f∈[a,b,c,d],P f:=by
 intro f e;simp only[List.mem_cons,List.not_mem_nil,or_false]at e;rcases e with rfl|rfl|rfl|rfl<;>assumption
theorem rows_small(h:checkF u=0):∀ b∈rowsU u,b.length<=252:=by
 obtain⟨⟨f1,f2,f3,f4⟩,e,j,fr⟩:=fits_all h;have s:=sound h;intro b hb;rw[Hj,List.mem_append,List.mem_append,List.mem_cons]at hb;rcases hb with((rfl|hb)|hb)|hb
 ·refine Hk (by decide) (all4 ?_ ?_ ?_ ?_) (by simp)<;>refine Nat.le_trans (Jz ?_) (by omega)<;>assumption
 ·obtain⟨x,g,rfl⟩:=List.mem_map.1 hb;have:=Ue (e x g).1 (e x g).2;exact Hk (by decide) (all1 (by omega)) (by simp)
 ·obtain⟨p,f,rfl⟩:=List.mem_map.1 hb;obtain⟨a,c,d,i⟩:=j p f;have k:=Ue a c;have l:=Jz d;have m:=H6 i;have n:=(s.pa p f).2.2.1;exact Hk (by decide) (all3 (by omega) (by omega) (by omega)) (by simp)
 ·obtain⟨r,hr,rfl⟩:=List.mem_map.1 hb;obtain⟨a,c,d⟩:=fr r hr;have k:=Jz a;have l:=Jz c;have m:=H6 d;have n:=(s.re r hr).2.2.1;exact Hk (by decide) (all3 (by omega) (by omega) (by omega)) (by simp)
theorem rows_few(h:checkF u=0):(rowsU u).length<=17:=by
 have s:=sound h;have:=s.nx;have:=s.np;have:=s.nr;rw[Hj];simp;omega
theorem Hx(h:checkF u=0){bs cs:List Bs}(e:bs++cs=rowsU u):(text bs).length<=4301:=by
 have c:=text_len (B:=252) (bs:=bs) fun b hb=>rows_small h b (by rw[<- e];exact List.mem_append_left _ hb);have a:=rows_few h;rw[<- e,List.length_append]at a;have:bs.length*253<=17*253:=Nat.mul_le_mul_right _ (by omega);omega
theorem D0{α:Type}(l:List α)(i:Nat):l=l.take i++l.drop i:=(List.take_append_drop i l).symm
def textX(u:UseFile)(i:Nat):Bs:=text (rU u::(u.excuses.take i).map rX)
def textP(u:UseFile)(i:Nat):Bs:=text (rU u::u.excuses.map rX++(u.papers.take i).map rP)
def textR(u:UseFile)(i:Nat):Bs:=text (rU u::u.excuses.map rX++u.papers.map rP++(u.requests.take i).map rR)
theorem Dx(h:checkF u=0)(i:Nat):(textX u i).length<=4301 :=
 Hx h (cs:=(u.excuses.drop i).map rX++(u.papers.map rP++u.requests.map rR)) (by
  rw[Hj];conv=>rhs;rw[D0 u.excuses i,List.map_append]
  simp only[List.append_assoc,List.cons_append])
theorem Dz(h:checkF u=0)(i:Nat):(textP u i).length<=4301 :=
 Hx h (cs:=(u.papers.drop i).map rP++u.requests.map rR) (by
  rw[Hj];conv=>rhs;rw[D0 u.papers i,List.map_append]
  simp only[List.append_assoc,List.cons_append])
theorem Hg(h:checkF u=0)(i:Nat):(textR u i).length<=4301 :=
 Hx h (cs:=(u.requests.drop i).map rR) (by
  rw[Hj];conv=>rhs;rw[D0 u.requests i,List.map_append]
  simp only[List.append_assoc,List.cons_append])
theorem Hy(h:u.excuses[i]?=some x):textX u (i+1)=textX u i++lineS wExcuse [da x]:=by
 unfold textX;rw[Jr h,List.map_append,<- List.cons_append];show text (_++[rX x])=_;rw[Dw,G2];rfl
theorem H0{x:Paper}(h:u.papers[i]?=some x):textP u (i+1)=textP u i++lineS wPaper [da x.days,di x.land,li x.items]:=by
 unfold textP;rw[Jr h,List.map_append,<- List.append_assoc];show text (_++[rP x])=_;rw[Dw,G2];rfl
theorem Hz{x:Request}(h:u.requests[i]?=some x):textR u (i+1)=textR u i++lineS wRequest [di x.day,di x.land,li x.items]:=by
 unfold textR;rw[Jr h,List.map_append,<- List.append_assoc];show text (_++[rR x])=_;rw[Dw,G2];rfl
theorem textX_end(h:u.excuses.length<=i):textX u i=textP u 0:=by
 unfold textX textP;rw[List.take_of_length_le h];simp
theorem textP_end(h:u.papers.length<=i):textP u i=textR u 0:=by
 unfold textP textR;rw[List.take_of_length_le h];simp
theorem Dy(h:u.requests.length<=i):textR u i=textU u:=by
 unfold textR textU;rw[List.take_of_length_le h,Hj]
theorem U7(h:checkF u=0):(textU u).length<=4301:=by rw[<- Dy (Nat.le_refl _)];exact Hg h _
theorem print_ok(h:checkF u=0):printU u=(textU u,0):=by
 have:=U7 h;unfold printU;rw[if_neg (by simp[h]),if_neg (by omega)]
theorem print_bad(h:checkF u≠0):printU u=([],checkF u):=by unfold printU;rw[if_pos h]
def printV(x:Bs×Int):Value:=.tuple #[.string (str x.1),.int .i64 x.2]
end Go.TM.Tp
namespace Go.Y.Txt
open Go.TM.Tp
open Go.Lib (decDigits)
attribute [local irreducible] T.wp CV FWK
variable {h:LH}{X:XP}{Q:Leaf->LH->Prop}{K:Value->T}
theorem Ye{r:Nat}{l:List Bs}(hb:l.length<4611686018427387904)(hc:∀ (j:Nat) w,(l.map fun x=>Value.string (str x))[j]?=some w->h.get.cell? (Addr.add ⟨r,0,none⟩ j)=some w):BsS h (some ⟨r,0,none⟩) l.length l.length l:=by
 refine⟨Nat.le_refl _,rfl,hb,fun i x a=>⟨_,rfl,?_⟩⟩;unfold BsE;rw[U2,Nat.mul_one];exact hc i _ (by rw[List.getElem?_map,a];rfl)
theorem t_str1(a:Bs)(c:∀ p h',h.le h'->BsS h' p 1 1 [a]->(K (.slice p 1 1)).wp X Tryz.prog Q h'):(T.sem false (Instr.buildSlice 81 1 #[(0,.string (str a))]) K).wp X Tryz.prog Q h:=by
 refine Zq [.string (str a)] undSs infS (by decide) (by decide) (by kernel_rfl) ?_;intro r h' b _ hr;exact c _ h' b (Ye (l:=[a]) (by simp) hr)
theorem U9(a b c:Bs)(e:∀ p h',h.le h'->BsS h' p 3 3 [a,b,c]->(K (.slice p 3 3)).wp X Tryz.prog Q h'):(T.sem false (Instr.buildSlice 81 3 #[(0,.string (str a)),(1,.string (str b)),(2,.string (str c))]) K).wp X Tryz.prog Q h:=by
 refine Zq [.string (str a),.string (str b),.string (str c)] undSs infS (by decide) (by decide) (by kernel_rfl) ?_;intro r h' d _ hr;exact e _ h' d (Ye (l:=[a,b,c]) (by simp) hr)
theorem U8(a b c d:Bs)(f:∀ p h',h.le h'->BsS h' p 4 4 [a,b,c,d]->(K (.slice p 4 4)).wp X Tryz.prog Q h'):(T.sem false (Instr.buildSlice 81 4 #[(0,.string (str a)),(1,.string (str b)),(2,.string (str c)),(3,.string (str d))]) K).wp X Tryz.prog Q h:=by
 refine Zq [.string (str a),.string (str b),.string (str c),.string (str d)] undSs infS (by decide) (by decide) (by kernel_rfl) ?_;intro r h' e _ hr;exact f _ h' e (Ye (l:=[a,b,c,d]) (by simp) hr)
theorem c3723i{n:Int}(a:Fits n):Gr Tryz.prog 44 #[.int .i64 n] h fun r _=>r=.string (str (di n)):=by
 obtain⟨v,rfl⟩ : ∃ v:Nat,n=v:=⟨n.toNat,by have:=a.1;omega⟩
 exact c3723 v (by have:=a.2;omega)
theorem c3705{f:FileC}{u:UseFile}(hu:FileR h.get f u):Gr Tryz.prog 10 #[fileV f u] h fun r _=>r=printV (printU u):=by
 refine w3705 Qk ?_;refine t_pu (c27 hu) ?_;refine yI (fun e=>?_) (fun e=>?_)
 ·have hz:checkF u≠0:=by simpa using e
  rw[print_bad hz];exact Qa ⟨LH.le_refl _,rfl⟩
 have c:checkF u=0:=by simpa using e
 rw[print_ok c];obtain⟨⟨f1,f2,f3,f4⟩,fx,fp,fr⟩:=fits_all c;have E:=sound c;refine t_gr (c3723i f1) ?_;rintro _ h1 I rfl;refine Qj ?_;refine gZ ?_;refine t_gr (c3723i f2) ?_;rintro _ h2 J rfl;refine Qj ?_;refine gZ ?_;refine t_gr (c3723i f3) ?_;rintro _ h3 K rfl;refine Qj ?_;refine gZ ?_;refine t_gr (c3723i f4) ?_;rintro _ h4 L rfl;refine Qj ?_;refine gZ ?_;refine U8 _ _ _ _ fun p h5 M s5=>?_;refine gZ ?_;have D:=LH.le_trans I (LH.le_trans J (LH.le_trans K (LH.le_trans L M)));have d1:=Jz f1;have d2:=Jz f2;have d3:=Jz f3;have d4:=Jz f4;refine t_pu (c3722 (w:=wUse) s5 (by decide) (by simp) (all4 (by omega) (by omega) (by omega) (by omega))) ?_;refine Qj ?_;refine gZ ?_;have e0:lineS wUse [di u.items,di u.lands,di u.from_,di u.idle]=textX u 0:=by simp[textX,text,rU,G2]
 rw[e0];refine Ja (fun o d h'=>h.le h'/\∃ i:Nat,d=[.string (str (textX u i)),.int .i64 i]/\i<=f.n4/\o=f.n4-i) (fun d h'=>h.le h'/\∃ i:Int,d=[.string (str (textP u 0)),.int .i64 i]) ⟨D,0,rfl,Nat.zero_le _,rfl⟩ ?_ ?_
 ·rintro Y o d A B ⟨b,i,rfl,R,rfl⟩;have U:=hu.excuses.1;have hb:=E.nx;refine Jd ?_;refine yJ (fun s=>?_) (fun s=>?_)
  ·obtain⟨x,a,k,Q,W,X⟩:=(hu.excuses.le SpanE.grow b.1).at (i:=i) (by omega);have C:0<=(i:Int)/\(i:Int)<(f.n4:Int):=by omega
   obtain⟨g1,y⟩:=fx x (List.mem_of_getElem? k);have V:=Ue g1 y;refine gZ ?_;refine t_gr (c3724 g1 y) ?_;rintro _ O g rfl;refine Qj ?_;refine t_str1 _ fun p P j s8=>?_;refine gZ ?_;refine t_pu (c3722 (w:=wExcuse) s8 (by decide) (by simp) (all1 (by omega))) ?_;refine Qj ?_;have S:=Dx c i;have l:=Dx c (i+1);rw[Hy k,List.length_append]at l;refine Zi undS (by omega) (Qj ?_);refine Qi (B (f.n4-(i+1)) _ _ (by omega) ⟨LH.le_trans b (LH.le_trans g j),i+1,?_,by omega,rfl⟩);rw[Qh (by omega) (by omega),Hy k];rfl
  ·refine gH ⟨b,(i:Int),?_⟩;rw[textX_end (by omega)]
 rintro d A ⟨b,i0,rfl⟩;refine Jd ?_;refine gZ ?_;refine Ja (fun o d h'=>h.le h'/\∃ i:Nat,d=[.string (str (textP u i)),.int .i64 i]/\i<=f.n5/\o=f.n5-i) (fun d h'=>h.le h'/\∃ i:Int,d=[.string (str (textR u 0)),.int .i64 i]) ⟨b,0,rfl,Nat.zero_le _,rfl⟩ ?_ ?_
 ·rintro Y o d A B ⟨b,i,rfl,R,rfl⟩;have U:=hu.papers.1;have hb:=E.np;refine Jd ?_;refine yJ (fun s=>?_) (fun s=>?_)
  ·obtain⟨x,a,k,Q,W,X,x3,q,m,Z,x4,N⟩:=(hu.papers.le PaperE.grow b.1).at (i:=i) (by omega);have C:0<=(i:Int)/\(i:Int)<(f.n5:Int):=by omega
   obtain⟨g1,y,z,g4⟩:=fp x (List.mem_of_getElem? k);have q6:=(E.pa x (List.mem_of_getElem? k)).2.2.1;have V:=Ue g1 y;have G:=Jz z;have H:=H6 g4;refine gZ ?_;refine t_gr (c3724 g1 y) ?_;rintro _ O g rfl;refine Qj ?_;refine gZ ?_;refine t_gr (c3723i z) ?_;rintro _ P j rfl;refine Qj ?_;refine gZ ?_;refine t_gr (c3725 (N.le IntE.grow (LH.le_trans g j).1) (by omega) g4) ?_;rintro _ h9 t rfl;refine Qj ?_;refine gZ ?_;refine U9 _ _ _ fun p F n v=>?_;refine gZ ?_;refine t_pu (c3722 (w:=wPaper) v (by decide) (by simp) (all3 (by omega) (by omega) (by omega))) ?_;refine Qj ?_;refine gZ ?_;have S:=Dz c i;have l:=Dz c (i+1);rw[H0 k,List.length_append]at l;refine Zi undS (by omega) (Qj ?_);refine gZ ?_;refine Qi (B (f.n5-(i+1)) _ _ (by omega) ⟨LH.le_trans b (LH.le_trans g (LH.le_trans j (LH.le_trans t n))),i+1,?_,by omega,rfl⟩);rw[Qh (by omega) (by omega),H0 k];rfl
  ·refine gH ⟨b,(i:Int),?_⟩;rw[textP_end (by omega)]
 rintro d A ⟨b,i0,rfl⟩;refine Jd ?_;refine gZ ?_;refine Ja (fun o d h'=>h.le h'/\∃ i:Nat,d=[.string (str (textR u i)),.int .i64 i]/\i<=f.n6/\o=f.n6-i) (fun d h'=>h.le h'/\∃ i:Int,d=[.string (str (textU u)),.int .i64 i]) ⟨b,0,rfl,Nat.zero_le _,rfl⟩ ?_ ?_
 ·rintro Y o d A B ⟨b,i,rfl,R,rfl⟩;have U:=hu.requests.1;have hb:=E.nr;refine Jd ?_;refine yJ (fun s=>?_) (fun s=>?_)
  ·obtain⟨x,a,k,Q,W,X,q,m,Z,x4,N⟩:=(hu.requests.le RequestE.grow b.1).at (i:=i) (by omega);have C:0<=(i:Int)/\(i:Int)<(f.n6:Int):=by omega
   obtain⟨g1,z,g4⟩:=fr x (List.mem_of_getElem? k);have q6:=(E.re x (List.mem_of_getElem? k)).2.2.1;have V:=Jz g1;have G:=Jz z;have H:=H6 g4;refine gZ ?_;refine t_gr (c3723i g1) ?_;rintro _ O g rfl;refine Qj ?_;refine gZ ?_;refine t_gr (c3723i z) ?_;rintro _ P j rfl;refine Qj ?_;refine gZ ?_;refine t_gr (c3725 (N.le IntE.grow (LH.le_trans g j).1) (by omega) g4) ?_;rintro _ h9 t rfl;refine Qj ?_;refine gZ ?_;refine U9 _ _ _ fun p F n v=>?_;refine gZ ?_;refine t_pu (c3722 (w:=wRequest) v (by decide) (by simp) (all3 (by omega) (by omega) (by omega))) ?_;refine Qj ?_;refine gZ ?_;have S:=Hg c i;have l:=Hg c (i+1);rw[Hz k,List.length_append]at l;refine Zi undS (by omega) (Qj ?_);refine gZ ?_;refine Qi (B (f.n6-(i+1)) _ _ (by omega) ⟨LH.le_trans b (LH.le_trans g (LH.le_trans j (LH.le_trans t n))),i+1,?_,by omega,rfl⟩);rw[Qh (by omega) (by omega),Hz k];rfl
  ·refine gH ⟨b,(i:Int),?_⟩;rw[Dy (by omega)]
 rintro d A ⟨b,i0,rfl⟩;refine Jd ?_;refine gZ ?_;refine Q5 undS ?_;refine gZ ?_;have ht:=U7 c;refine t_if (fun s=>absurd s (by omega)) (fun _=>?_);exact Qa ⟨b,rfl⟩
end Go.Y.Txt
end
section
namespace Go.Y
attribute [local irreducible] T.wp CV FWK
def Sent(u:UseFile)(land day:Int)(i:Nat)(v:Value)(hv:Cells):Prop :=
 if enoughB u land day (subsetL u.papers.length i) (leftAll u land day) then ∃ a n c,v=.slice (some a) n c/\Sl IntE 1 hv (some a) n (subsetL u.papers.length i)/\n<=c else v=.slice none 0 0
variable {n i j:Nat}
theorem subset_in:∀ v∈subsetL n i,0<=v/\v<(n:Int):=by
 intro v hv;unfold subsetL at hv;obtain⟨j,a,rfl⟩:=List.mem_map.1 hv;have:=List.mem_range.1 (List.mem_filter.1 a).1;omega
theorem subset_len:(subsetL n i).length<=n:=by
 unfold subsetL;rw[List.length_map];exact Nat.le_trans (List.length_filter_le _ _) (by simp)
theorem bit_test(f:i<2^32):(wrap .i64 (((BitVec.ofInt 64 (Int.fdiv (i:Int) (2^min (j:Int).toNat 64)) &&& BitVec.ofInt 64 1).toNat:Nat):Int)==1)=i.testBit j:=by
 have g:∃ q:Nat,Int.fdiv (i:Int) (2^min (j:Int).toNat 64)=(q:Int)/\q<=i/\q%2=(i / 2^j)%2:=by
  by_cases k:j<=64
  ·have hm:min (j:Int).toNat 64=j:=by simp;omega
   refine⟨i / 2^j,?_,Nat.div_le_self _ _,rfl⟩;rw[hm];have:(2^j:Int)=((2^j:Nat):Int):=by simp
   rw[this,<- Int.ofNat_fdiv]
  ·have hm:min (j:Int).toNat 64=64:=by simp;omega
   refine⟨0,?_,Nat.zero_le _,?_⟩
   ·rw[hm];have:(2^64:Int)=((2^64:Nat):Int):=by simp
    rw[this,<- Int.ofNat_fdiv];have:i / 2^64=0:=Nat.div_eq_of_lt (by omega);rw[this]
   ·have:i / 2^j=0:=Nat.div_eq_of_lt (Nat.lt_of_lt_of_le f (Nat.pow_le_pow_right (by omega) (by omega)));rw[this]
 obtain⟨q,c,h,d⟩:=g;rw[c];have a:(BitVec.ofInt 64 (q:Int)).toNat=q:=by rw[BitVec.toNat_ofInt];omega
 have b:(BitVec.ofInt 64 1).toNat=1:=rfl;rw[BitVec.toNat_and,a,b,Nat.and_one_is_mod,Qh (by omega) (by omega),Nat.testBit_eq_decide_div_mod_eq,<- d];by_cases e:q%2=1
 ·rw[e];rfl
 ·have:q%2=0:=by omega
  rw[this];rfl
theorem subset_take(a:j<n):((List.range n).take (j+1)).filter (fun j=>i.testBit j)=((List.range n).take j).filter (fun j=>i.testBit j)++(if i.testBit j then [j] else []):=by
 rw[List.take_succ_eq_append_getElem (by simpa using a),List.filter_append];congr 1;simp[List.filter_cons]
theorem c74{hc:Cells}{q:Nat}{W X Z z3 z4 z5:Addr}{f:FileC}{u:UseFile}{land day:Int}(hp:Parts hc)(hu:FileR hc f u)(t:FileAt hc W f u)(R:u.papers.length<=8)(hi:i<2^32)(h1:hc.cell? X=some (.int .i64 (i:Int)))(h2:hc.cell? Z=some (.int .i64 land))(h3:hc.cell? z3=some (.int .i64 day))
 {ap:Option Addr}{N ac:Nat}(h4:hc.cell? z4=some (.slice ap N ac))(H:Sl IntE 1 hc ap N (leftAll u land day))(h5:hc.cell? z5=some (.chan (some q))) :
  FWK XW Tryz.prog .deferred 79 #[.pointer (some W),.pointer (some X),.pointer (some Z),.pointer (some z3),.pointer (some z4),.pointer (some z5)] ⟨hc,[],[],[(q,Sent u land day i)]⟩ fun _ _=>False:=by
 refine w74 _ _ _ _ _ _ XW_ok ?_;unfold n74;have a0:=hu.papers.1;refine t_build0 Wh inf3 fun b0 y=>?_;have B:LH.le ⟨hc,[],[],[(q,Sent u land day i)]⟩ _:=Qr (x:=(true,.cells #[] 3 (0,0))) y;refine gZ ?_;have g5:=Qe B.1 t.f5;refine gL1 g5 ?_;refine Qz (fun U D h'=>LH.le ⟨hc,[],[],[(q,Sent u land day i)]⟩ h'/\∃ (j:Nat) (a:Addr) (n c:Nat),D=[.slice (some a) n c,.int .i64 j]/\j<=f.n5/\U=f.n5-j/\Growing IntEnc 3 1 hc h'.get (some a) n c (((List.range u.papers.length).take j).filter (fun j=>i.testBit j) |>.map fun j:Nat=>(j:Int)))
  ⟨B,0,_,0,0,rfl,Nat.zero_le _,rfl,⟨[],⟨rfl,.inr ⟨b0,#[],rfl,Qm _ _ _,rfl,Nat.le_refl _,fun j v hv=>by simp at hv⟩⟩,.nil⟩,fun a ha=>by cases ha;exact y⟩ ?_
 rintro Y U D A P ⟨hle,j,a,n,c,rfl,Q,rfl,g⟩;refine yJ (fun e1=>?_) (fun e1=>?_)
 ·have k1:=Qe hle.1 h1;refine gL0 k1 ?_;refine gZ ?_;rw[bit_test hi];have m:=subset_take (n:=u.papers.length) (i:=i) (j:=j) (by omega);refine Ql (fun b=>?_) (fun b=>?_)
  ·rw[if_pos b]at m;refine Zu Wh inf3 (by decide) (by decide) (cells:=#[.int .i64 (j:Int)]) (by kernel_rfl) fun r hr=>?_;have l:A.le _:=Qr (x:=(true,.cells #[.int .i64 (j:Int)] 3 (0,0))) hr;have J:=g.count IntEnc.len (by omega);have hlen:(((List.range u.papers.length).take j).filter (fun j=>i.testBit j)).length<=8:=Nat.le_trans (List.length_filter_le _ _) (by rw[List.length_take,List.length_range];omega);rw[List.length_map]at J;refine gZ ?_;refine D3 (h₀:=⟨hc,[],[],[(q,Sent u land day i)]⟩) (x:=(j:Int)) (ws:=[.int .i64 (j:Int)]) rfl rfl Wh Wh inf3 rfl (by omega) (by omega) (g.le l.1) (LH.le_trans hle l) rfl rfl ?_ ?_ ?_
   ·intro j w Q;rw[Qo,Nat.zero_add];exact Qv (by simpa using Q)
   ·intro w hw;simp at hw;subst hw;rfl
   ·intro p' c' d k _ G;refine gZ ?_;obtain⟨E,rfl⟩ : ∃ E,p'=some E:=by
     obtain⟨D,⟨_,h6⟩,_⟩:=G.row;rcases h6 with⟨_,O,_⟩|⟨r,cs,O,_⟩
     ·omega
     ·exact⟨_,O⟩
    refine Qi (P (f.n5-(j+1)) _ _ (by omega) ⟨k,j+1,E,n+1,c',?_,by omega,rfl,by rw[m,List.map_append];exact G⟩);rw[Qh (by omega) (by omega)];rfl
  ·rw[if_neg (by rw[b];simp),List.append_nil]at m;refine Qi (P (f.n5-(j+1)) _ _ (by omega) ⟨hle,j+1,a,n,c,?_,by omega,rfl,by rw[m];exact g⟩);rw[Qh (by omega) (by omega)];rfl
 ·refine gZ ?_;have p:(((List.range u.papers.length).take j).filter (fun j=>i.testBit j) |>.map fun j:Nat=>(j:Int))=subsetL u.papers.length i:=by
   rw[List.take_of_length_le (by simp;omega)];rfl
  rw[p]at g;obtain⟨g0,g1,G,g3,g4,g5,g6⟩:=t.le hle.1;have k2:=Qe hle.1 h2;have k3:=Qe hle.1 h3;have k4:=Qe hle.1 h4;have C:=Qe hle.1 h5;refine gZ ?_;have S:=subset_len (n:=u.papers.length) (i:=i);have I:(leftAll u land day).length=u.items.toNat:=by unfold leftAll;rw[List.length_map,List.length_range]
  refine t_gr (c71 (hp.le hle.1) (hu.le hle.1) land day (g.sl IntEnc.len (by omega) IntEnc.e (by omega)) subset_in (by omega) (H.le IntE.grow hle.1) I) ?_;rintro _ d l rfl;have C:=Qe l.1 C;refine gZ ?_;have k:=LH.le_trans hle l;refine Ql (fun b=>?_) (fun b=>?_)
  ·refine Un C ?_;refine Yn ?_;refine commW_send (z:=.tuple #[]) (φ:=Sent u land day i) (s:=[]) (hv:=fun _=>none) (hr:=d.get) k.2.2.2 ?_ (fun r=>.inl rfl) (fun r x K=>by cases K) ?_ (fun _=>rfl) (fun h=>absurd rfl h)
   ·funext r;rfl
   ·have F:enoughB u land day (subsetL u.papers.length i) (leftAll u land day)=false:=by simpa using b
    unfold Sent;rw[if_neg (by rw[F];simp)]
  ·refine Un C ?_;refine Yn ?_;have g7:=g.le l.1;obtain⟨D,⟨o1,o2⟩,rows⟩:=g7.row;rcases o2 with⟨L,_⟩|⟨r,cs,L,M,o5,V,o7⟩
   ·cases L
   ·cases L;refine commW_send (z:=.tuple #[]) (φ:=Sent u land day i) (s:=[]) (hv:=fun b=>if b=r then d.get b else none) (hr:=fun b=>if b=r then none else d.get b) k.2.2.2 ?_ (fun b=>?_) (fun b x K=>?_) ?_ (fun _=>rfl) (fun h=>absurd rfl h)
    ·funext b;unfold Cells.add;by_cases e:b=r
     ·subst e;simp[M]
     ·simp[e]
    ·by_cases e:b=r
     ·right;simp[e]
     ·left;simp[e]
    ·have o:(if b=r then d.get b else none)=some x:=K;split at o
     ·rename_i e;subst e;rw[M]at o;cases o;rfl
     ·cases o
    ·have F:enoughB u land day (subsetL u.papers.length i) (leftAll u land day)=true:=by simpa using b
     unfold Sent;rw[if_pos F];refine⟨_,_,_,rfl,?_,V⟩;refine rows.sl IntEnc.len (by omega) IntEnc.e (el:=3) ⟨o1,.inr ⟨r,cs,rfl,?_,o5,V,o7⟩⟩ (by omega);show (if r=r then d.get r else none)=_;rw[if_pos rfl];exact M
end Go.Y
end
section
namespace Go.TM
variable {P:Program}
variable {h:LH}
theorem Yb{X:XP}{Q:Leaf->LH->Prop}{e:TypeId}{v₀ v:Value}{k:Nat->T}(d:isOne v=true)(f:∀ r,h.get r=none->(k r).wp X P Q { h with get:=h.get.upd r (true,.cells #[v] e (0,0)) }) :
  (T.new e #[v₀] fun r=>T.store (Addr.add ⟨r,0,none⟩ 0) v (k r)).wp X P Q h:=by
 refine Z9 fun r hr=>?_;have a:(h.get.upd r (true,.cells #[v₀] e (0,0))) r=some (true,.cells #[v₀] e (0,0)):=Qm _ _ _;refine Dg d ⟨_,a⟩ (v₀:=v₀) (by show Cells.cell? _ _=_;exact Qv rfl) (Go.Y.frozen_plain (i:=0) a) ?_;have c:(h.get.upd r (true,.cells #[v₀] e (0,0))).setCell (Addr.add ⟨r,0,none⟩ 0) v=h.get.upd r (true,.cells #[v] e (0,0)):=by
  show Cells.setCell _ ⟨r,0,none⟩ v=_;rw[Go.Y.setCell_upd a];funext b;unfold Cells.upd;by_cases e:b=r<;>simp[e]
 simp only[c];exact f r hr
theorem cell_freeze(F:Nat->Bool)(h:Cells)(a:Addr):(freezeC F h).cell? a=h.cell? a:=by
 unfold Cells.cell? freezeC;cases h a.block with
 | none=>rfl
 | some x=>obtain⟨m,o⟩:=x;cases o<;>rfl
theorem rd_freeze(F:Nat->Bool)(h:Cells):Rd h (freezeC F h):=fun a v hc=>by rw[cell_freeze];exact hc
theorem rd_drop{h:Cells}{c s:Nat}(b:h c=some (true,.chan 0 #[] false s s false)):Rd h (dropC h c):=by
 intro a v hc;unfold Cells.cell? dropC at *;by_cases e:a.block=c
 ·rw[e,b]at hc;cases hc
 ·rw[if_neg e];exact hc
def Hand(c0:Nat)(h:LH):Prop:=(h.chans=[]/\∃ s,h.get c0=some (true,.chan 0 #[] false s s false))\/h.chans=[c0]
theorem spawnW_all{f:FuncId}{cap:Array Value}{Q:LH->Prop}(b:Nat){φ:Value->Cells->Prop}(e:[]∉h.pend)(i:Hand b h)(c:∀ hc,Rd h.get hc->FWK XW P .deferred f cap ⟨hc,[],[],[(b,φ)]⟩ fun _ _=>False)
 (n:∀ h',Rd h.get h'.get->h'.chans=[b]->h'.todo=h.todo->h'.pend=h.pend++[[(b,φ)]]->Q h'):SpawnW XT P (.func (.func f) #[] cap) #[] h Q:=by
 have key:∀ a:LH,Rd h.get a.get->a.chans=[b]->a.todo=h.todo->a.pend=h.pend->SpawnW XT P (.func (.func f) #[] cap) #[] a Q:=by
  intro a m j t1 l;refine spawnW (fun _=>true) (freezeC (fun _=>true) a.get) [(b,φ)] (by simp) (hargs:=cap) (by simp) ?_ (by rw[l];exact e) ?_ (c _ (m.trans (rd_freeze _ _))) ?_
  ·intro r x d;refine⟨?_,d⟩;unfold freezeC at d;cases g:a.get r with
   | none=>rw[g]at d;cases d
   | some y=>rw[g]at d;simp at d;rw[<- d]
  ·intro y g;simp at g;subst g;rw[j];simp
  ·exact n _ (m.trans (rd_freeze _ _)) j t1 (by show a.pend++_=_;rw[l])
 rcases i with⟨a,s,k⟩|a
 ·refine SpawnW.opened e b s k (key _ (rd_drop k) ?_ rfl rfl);show b::h.chans=_;rw[a]
 ·exact key h (Rd.refl _) a rfl rfl
theorem commW_gather{last:Bool}{shape:CommShape}{d:Nat}{z:Value}{φ:Nat->Value->Cells->Prop}{rem:List Nat}{Q:Value->LH->Prop}(D:h.pend=rem.map fun i=>[(d,φ i)])(hc:h.chans=[d])(C:rem≠[])
 (E:∀ i rest v a,i∈rem->(∀ j,j∈rem->j=i\/j∈rest)->(∀ j,j∈rest->j∈rem)->rest.length+1=rem.length->a.todo=h.todo->a.pend=rest.map (fun i=>[(d,φ i)])->((rest≠[]/\a.chans=[d])\/(rest=[]/\a.chans=[]/\∃ s,a.get d=some (true,.chan 0 #[] false s s false))) ->
   (∃ hv,φ i v hv/\hv.le a.get)->h.get.le a.get->Q (commResult #[rcase d z] shape 0 v true) a):CommW XT P last #[rcase d z] shape h Q:=by
 refine CommW.closed (commW_recv ?_ (by rw[D];simpa using C) ?_ ?_)
 ·intro k I t;cases k with
  | zero=>simp at t;subst t;exact⟨d,z,rfl,by rw[hc];simp⟩
  | succ k=>simp at t
 ·intro s l;rw[D]at l;obtain⟨i,F,rfl⟩:=List.mem_map.1 l;exact⟨d,φ i,[],0,z,rfl,rfl⟩
 ·intro pre ψ s post k c v hv K g e H G m;rw[D]at g;obtain⟨p,J,rfl,w,y⟩:=List.map_eq_append_iff.1 g;obtain⟨i,q,rfl,F,A⟩:=List.map_eq_cons_iff.1 y;cases F;have u:k=0:=by
   cases k with
   | zero=>rfl
   | succ k=>simp at e
  subst u;have n:h.get.le (h.get.add hv):=Zx _ _;have o:hv.le (h.get.add hv):=fun r x hr=>Q8 H hr;have b:pre++cons' [] post=(p++q).map fun i=>[(d,φ i)]:=by
   show pre++post=_;rw[<- w,<- A,List.map_append]
  by_cases B:p++q=[]
  ·right;refine⟨d,by show d∈h.chans;rw[hc];simp,by show pre++cons' [] post=[];rw[b,B];rfl,fun s l=>?_⟩;refine E i (p++q) v _ (by simp) (fun j f=>?_) (fun j f=>?_) (by simp;omega) rfl b (.inr ⟨B,?_,s,Qm _ _ _⟩) ⟨hv,m,?_⟩ ?_
   ·simp at f ⊢;grind
   ·simp at f ⊢;grind
   ·show h.chans.filter _=[];rw[hc];simp
   ·exact Cells.le_trans o (Kd _ l)
   ·exact Cells.le_trans n (Kd _ l)
  ·left;refine E i (p++q) v _ (by simp) (fun j f=>?_) (fun j f=>?_) (by simp;omega) rfl b (.inl ⟨B,hc⟩) ⟨hv,m,o⟩ n
   ·simp at f ⊢;grind
   ·simp at f ⊢;grind
end Go.TM
namespace Go.Y
attribute [local irreducible] T.wp CV FWK
variable {h h':Cells}{a b:List Int}{u:UseFile}{land day:Int}{rem rest:List Nat}{p:Option Addr}{n i:Nat}
theorem Parts.rd(b:Rd h h')(p:Parts h):Parts h':=fun j a=>b _ _ (p j a)
/-! ### fewerF is c order -/
theorem cmpI_neg(x y:Int):cmpI y x = - cmpI x y:=by unfold cmpI;repeat' split<;>omega
theorem cmpL_neg:∀ a b:List Int,cmpL b a = - cmpL a b:=by
 intro a
 induction a with
 | nil=>intro b;cases b<;>rfl
 | cons x a c =>
  intro b;cases b with
  | nil=>rfl
  | cons y b =>
   simp only[cmpL];rw[cmpI_neg x y,c b];by_cases e:cmpI x y=0
   ·simp[e]
   ·rw[if_pos (by omega),if_pos e]
theorem cmpL_trans:∀ a b c:List Int,cmpL a b<=0->cmpL b c<=0->cmpL a c<=0:=by
 intro a
 induction a with
 | nil=>intro b c _ _;cases c<;>simp[cmpL]
 | cons x a j =>
  intro b c e d;cases b with
  | nil=>simp[cmpL]at e
  | cons y b =>
   cases c with
   | nil=>simp[cmpL]at d
   | cons z c =>
    simp only[cmpL]at e d ⊢;have:=j b c;unfold cmpI at e d ⊢;by_cases h:x<y
    ·by_cases f:y<z
     ·rw[if_pos (by rw[if_pos (show x<z by omega)];omega),if_pos (show x<z by omega)];omega
     ·by_cases g:y=z
      ·subst g;simp[h]
      ·have:y>z:=by omega
       simp[f,this]at d
    ·by_cases i:x=y
     ·subst i;simp at e;by_cases f:x<z
      ·simp[f]
      ·by_cases g:x=z
       ·subst g;simp at d ⊢;exact this e d
       ·have:x>z:=by omega
        simp[f,this]at d
     ·have:x>y:=by omega
      simp[h,this]at e
theorem fewer_neg(a b:List Int):fewerF b a = - fewerF a b:=by
 unfold fewerF;by_cases e:a.length=b.length
 ·rw[if_neg (by omega),if_neg (by omega),cmpL_neg a b]
 ·rw[if_pos (by omega),if_pos (by omega)];omega
theorem fewer_trans{c:List Int}(e:fewerF a b<=0)(d:fewerF b c<=0):fewerF a c<=0:=by
 unfold fewerF at *;by_cases g:a.length=b.length
 ·rw[if_neg (by omega)]at e;by_cases f:b.length=c.length
  ·rw[if_neg (by omega)]at d;rw[if_neg (by omega)];exact cmpL_trans a b c e d
  ·rw[if_pos (by omega)]at d;rw[if_pos (by omega)];omega
 ·rw[if_pos (by omega)]at e;by_cases f:b.length=c.length
  ·rw[if_pos (by omega)];omega
  ·rw[if_pos (by omega)]at d;rw[if_pos (by omega)];omega
theorem fewer_self(a:List Int):fewerF a a<=0:=by
 have:=fewer_neg a a;omega
def okF(u:UseFile)(land day:Int)(i:Nat):Bool:=enoughB u land day (subsetL u.papers.length i) (leftAll u land day)
def BestR(h:Cells)(u:UseFile)(land day:Int)(rem:List Nat)(p:Option Addr)(n:Nat):Prop :=
 (p=none/\n=0/\∀ j,j<2^u.papers.length->j∉rem->okF u land day j=false) \/
 (∃ i a,p=some a/\i<2^u.papers.length/\okF u land day i=true/\Sl IntE 1 h (some a) n (subsetL u.papers.length i)/\∀ j,j<2^u.papers.length->j∉rem->okF u land day j=true->fewerF (subsetL u.papers.length i) (subsetL u.papers.length j)<=0)
def KeepR(h':Cells)(u:UseFile)(land day:Int)(r:Value):Prop :=
 (openF u [landQ u land,dayQ day]≠0/\r=.tuple #[.slice none 0 0,.int .i64 (openF u [landQ u land,dayQ day])]) \/
 (openF u [landQ u land,dayQ day]=0/\∃ p n c,r=.tuple #[.slice p n c,.int .i64 0]/\BestR h' u land day [] p n/\n<=c)
theorem BestR.skip(b:BestR h u land day rem p n)(hr:∀ j,j∈rem->j=i\/j∈rest)(q:okF u land day i=false)(o:Rd h h'):BestR h' u land day rest p n:=by
 rcases b with⟨c,d,f⟩|⟨k,a,c,d,f,r,s⟩
 ·refine .inl ⟨c,d,fun j g l=>?_⟩;by_cases e:j=i
  ·rw[e];exact q
  ·exact f j g fun hm=>(hr j hm).elim e l
 ·refine .inr ⟨k,a,c,d,f,r.rd IntE.grow o,fun j g l m=>?_⟩;by_cases e:j=i
  ·rw[e]at m;exact absurd m (by rw[q];simp)
  ·exact s j g (fun hm=>(hr j hm).elim e l) m
theorem BestR.take{r:Nat}{a:Addr}(b:BestR h u land day rem p n)(hr:∀ j,j∈rem->j=i\/j∈rest)(o:okF u land day i=true)(c:i<2^u.papers.length)(q:Sl IntE 1 h' (some a) r (subsetL u.papers.length i))
 (hb:p=none\/∀ k,okF u land day k=true->Sl IntE 1 h p n (subsetL u.papers.length k)->fewerF (subsetL u.papers.length i) (subsetL u.papers.length k)<=0):BestR h' u land day rest (some a) r:=by
 rcases b with⟨f,s,g⟩|⟨k,w,f,s,g,t,v⟩
 ·refine .inr ⟨i,a,rfl,c,o,q,fun j l m d=>?_⟩;by_cases e:j=i
  ·rw[e];exact fewer_self _
  ·have:=g j l fun hm=>(hr j hm).elim e m;rw[this]at d;cases d
 ·have hle:=hb.resolve_left (by rw[f];simp) k g (by rw[f];exact t);refine .inr ⟨i,a,rfl,c,o,q,fun j l m d=>?_⟩;by_cases e:j=i
  ·rw[e];exact fewer_self _
  ·exact fewer_trans hle (v j l (fun hm=>(hr j hm).elim e m) d)
theorem BestR.stay(b:BestR h u land day rem p n)(hr:∀ j,j∈rem->j=i\/j∈rest)(s:p≠none)(c:Rd h h')
 (hb:∀ k,Sl IntE 1 h p n (subsetL u.papers.length k)->fewerF (subsetL u.papers.length k) (subsetL u.papers.length i)<=0):BestR h' u land day rest p n:=by
 rcases b with⟨a,d,f⟩|⟨k,l,a,d,f,g,m⟩
 ·exact absurd a s
 ·refine .inr ⟨k,l,a,d,f,g.rd IntE.grow c,fun j o q r=>?_⟩;by_cases e:j=i
  ·rw[e];exact hb k (by rw[a];exact g)
  ·exact m j o (fun hm=>(hr j hm).elim e q) r
theorem Sl.same(f:Sl IntE 1 h p n a)(hb:Sl IntE 1 h p n b):a=b:=by
 refine List.ext_getElem (by rw[<- f.1,<- hb.1]) fun i m o=>?_;obtain⟨x,c,g,q,j⟩:=f.at (i:=i) (by rw[f.1];exact m);obtain⟨y,d,k,l,e⟩:=hb.at (i:=i) (by rw[hb.1];exact o);rw[q]at l;cases l;unfold IntE at j e;rw[j]at e;cases e;rw[List.getElem?_eq_getElem m]at g;rw[List.getElem?_eq_getElem o]at k;exact(Option.some.inj g).trans (Option.some.inj k).symm
theorem sets_wrap(c:n<=8):wrap .i64 (1*2^min (Int.toNat (n:Int)) 64)=((2^n:Nat):Int):=by
 have e:min (Int.toNat (n:Int)) 64=n:=by simp;omega
 have b:(2:Nat)^n<=2^8:=Nat.pow_le_pow_right (by omega) c;have a:(1:Int)*2^n=((2^n:Nat):Int):=by simp
 rw[e,a];generalize 2^n=m at b;rw[Qh (by omega) (by omega)]
theorem c33{h:LH}(y0:h.chans=[])(l1:h.pend=[]){f:FileC}(hp:Parts h.get)(hu:FileR h.get f u)(land day:Int) :
  FW XT Tryz.prog 27 #[fileV f u,land,day] h fun r h'=>Rd h.get h'.get/\h'.chans=[]/\h'.pend=[]/\h'.todo=h.todo/\KeepR h'.get u land day r:=by
 refine w33 XT_ok ?_;refine Z9 fun r hr=>?_;have y1:h.le _:=Qr (x:=(true,.cells #[.int .i64 u.items,.int .i64 u.lands,.int .i64 u.from_,.int .i64 u.idle,.slice f.p4 f.n4 f.c4,.slice f.p5 f.n5 f.c5,.slice f.p6 f.n6 f.c6] 26 (0,0))) hr;have g:FileAt (h.get.upd r (true,.cells #[.int .i64 u.items,.int .i64 u.lands,.int .i64 u.from_,.int .i64 u.idle,.slice f.p4 f.n4 f.c4,.slice f.p5 f.n5 f.c5,.slice f.p6 f.n6 f.c6] 26 (0,0))) ⟨r,0,none⟩ f u :=
  ⟨Qv rfl,Qv rfl,Qv rfl,Qv rfl,Qv rfl,Qv rfl,Qv rfl⟩
 generalize k3:({ h with get:=h.get.upd r (true,.cells #[.int .i64 u.items,.int .i64 u.lands,.int .i64 u.from_,.int .i64 u.idle,.slice f.p4 f.n4 f.c4,.slice f.p5 f.n5 f.c5,.slice f.p6 f.n6 f.c6] 26 (0,0)) }:LH)=h0 at y1 ⊢;have g:FileAt h0.get ⟨r,0,none⟩ f u:=by rw[<- k3];exact g
 refine Z9 fun r1 s3=>?_;have m2:h0.le _:=Qr (x:=(true,.cells #[.int .i64 land] 3 (0,0))) s3;have H:Cells.cell? (h0.get.upd r1 (true,.cells #[.int .i64 land] 3 (0,0))) ⟨r1,0,none⟩=some (.int .i64 land):=Qv rfl;refine Z9 fun r2 u3=>?_;have o0:=Qr (h:={ h0 with get:=h0.get.upd r1 (true,.cells #[.int .i64 land] 3 (0,0)) }) (x:=(true,.cells #[.int .i64 day] 3 (0,0))) u3;have O:Cells.cell? ((h0.get.upd r1 (true,.cells #[.int .i64 land] 3 (0,0))).upd r2 (true,.cells #[.int .i64 day] 3 (0,0))) ⟨r2,0,none⟩=some (.int .i64 day):=Qv rfl;have H:=Qe o0.1 H;have g:=g.le (LH.le_trans m2 o0).1;obtain⟨g0,g1,g2,g3,g4,g5,g6⟩:=id g;have j2:=LH.le_trans y1 (LH.le_trans m2 o0);refine gZ ?_;refine t_gr (c58 u land) ?_;rintro v0 j4 Q ⟨q0,a0⟩;have H:=Qe Q.1 H;have O:=Qe Q.1 O;have g:=g.le Q.1;obtain⟨g0,g1,g2,g3,g4,g5,g6⟩:=id g;refine gZ ?_;refine t_gr (c54 u day) ?_;rintro v1 k4 M ⟨q1,a1⟩;have H:=Qe M.1 H;have O:=Qe M.1 O;have g:=g.le M.1;obtain⟨g0,g1,g2,g3,g4,g5,g6⟩:=id g;refine gZ ?_;refine Y1 q0 (a0.le M) q1 a1 fun r' l4 R hs=>?_;have H:=Qe R.1 H;have O:=Qe R.1 O;have g:=g.le R.1;obtain⟨g0,g1,g2,g3,g4,g5,g6⟩:=id g;refine gZ ?_;have z:=LH.le_trans j2 (LH.le_trans (LH.le_trans Q M) R);refine Jn (Dd (c53 (f:=f) (hp.le z.1) (hu.le z.1) hs)) ?_;rintro v m4 ⟨S,⟨B,rfl⟩|⟨ho,d,m,rfl,hd,hm,k⟩⟩
 ·refine gZ ?_;have F:=LH.le_trans z S;refine Ql (fun _=>?_) (fun e=>absurd (by simpa using e) B);exact Qa ⟨Rd.of_le F.1,by rw[F.2.1,y0],by rw[F.2.2.1,l1],F.2.2.2,.inl ⟨B,rfl⟩⟩
 refine yF ?_;have z0:=(Zc ho).2;have q4:=Qe S.1 H;have s4:=Qe S.1 O;refine gZ ?_;refine t_de (c63 k z0 land day) ?_;rintro _ y mv k5 ⟨p0,n0,c0,rfl,gl⟩;have Z:=Mv.le_of S hm mv;have l2:=LH.le_trans z Z;have h4:=(Kb (Zc ho).1).1;have o4:(leftAll u land day).length=u.items.toNat:=by unfold leftAll;rw[List.length_map,List.length_range]
 have m0:Sl IntE 1 y.get p0 n0 (leftAll u land day):=gl.sl IntEnc.len (by omega) IntEnc.e (by omega);have j1:=(Gy z0).1;have e4:=hu.le l2.1;have n3:=e4.papers.1;refine gZ ?_;refine Yb rfl fun r3 v3=>?_;have n2:=Qr (x:=(true,.cells #[.slice p0 n0 c0] 60 (0,0))) v3;have z3:Cells.cell? (y.get.upd r3 (true,.cells #[.slice p0 n0 c0] 60 (0,0))) ⟨r3,0,none⟩=some (.slice p0 n0 c0):=Qv rfl;refine t_makeChan und104 inf50 fun q hq=>?_;have s0:=Qr (x:=(true,.chan 0 #[] false 0 0 false)) hq;refine t_unC ?_;refine Yb rfl fun r4 x3=>?_;have U:=Qr (x:=(true,.cells #[.chan (some q)] 154 (0,0))) x3;have G:=LH.le_trans Z (LH.le_trans (LH.le_trans n2 s0) U);have H:=Qe G.1 H;have O:=Qe G.1 O;have z3:=Qe (LH.le_trans s0 U).1 z3;have g:=g.le G.1;obtain⟨g0,g1,g2,g3,g4,g5,g6⟩:=id g;have m0:=m0.le IntE.grow (LH.le_trans (LH.le_trans n2 s0) U).1;have w:=LH.le_trans z G;have z4:Cells.cell? (((y.get.upd r3 (true,.cells #[.slice p0 n0 c0] 60 (0,0))).upd q (true,.chan 0 #[] false 0 0 false)).upd r4 (true,.cells #[.chan (some q)] 154 (0,0))) ⟨r4,0,none⟩=some (.chan (some q)):=Qv rfl;have q3:=U.1 q _ (Qm _ _ _);refine gL1 g5 ?_;have w0:2^f.n5<=2^8:=Nat.pow_le_pow_right (by omega) (by omega);have x0:(2:Nat)^f.n5=2^u.papers.length:=by rw[n3]
 rw[sets_wrap (by omega)];generalize hN:(2:Nat)^f.n5=N at w0 x0 ⊢;refine gZ ?_;refine Qz (fun mm vs h'=>∃ j:Nat,vs=[.int .i64 j]/\j<=N/\mm=N-j/\Rd (((y.get.upd r3 (true,.cells #[.slice p0 n0 c0] 60 (0,0))).upd q (true,.chan 0 #[] false 0 0 false)).upd r4 (true,.cells #[.chan (some q)] 154 (0,0))) h'.get/\h'.todo=h.todo/\h'.pend=(List.range j).map (fun i=>[(q,Sent u land day i)])/\Hand q h'/\(0<j->h'.chans=[q]))
  ⟨0,rfl,Nat.zero_le _,rfl,Rd.refl _,w.2.2.2,by rw[w.2.2.1,l1];rfl,.inl ⟨by rw[w.2.1,y0],0,q3⟩,fun hh=>absurd hh (by omega)⟩ ?_
 rintro Y mm vs E hY ⟨j,rfl,hj,rfl,q2,u2,u0,b0,y2⟩;refine yJ (fun e1=>?_) (fun e1=>?_)
 ·refine Yb rfl fun r5 y3=>?_;have X:=Qr (x:=(true,.cells #[.int .i64 (j:Int)] 3 (0,0))) y3;have z5:Cells.cell? (E.get.upd r5 (true,.cells #[.int .i64 (j:Int)] 3 (0,0))) ⟨r5,0,none⟩=some (.int .i64 (j:Int)):=Qv rfl;have e0:Hand q { E with get:=E.get.upd r5 (true,.cells #[.int .i64 (j:Int)] 3 (0,0)) }:=by
   rcases b0 with⟨a1,s,a2⟩|a1
   ·exact .inl ⟨a1,s,X.1 _ _ a2⟩
   ·exact .inr a1
  have C:=q2.trans (Rd.of_le X.1);refine t_spawn (spawnW_all q (φ:=Sent u land day j) (by show []∉E.pend;rw[u0];simp) e0 (fun hc p1=>?_) (fun l r8 c8 t8 p8=>?_))
  ·have A:=C.trans p1;exact c74 ((hp.le w.1).rd A) ((hu.le w.1).rd A) (g.rd A) j1 (by omega) (p1 _ _ z5) (A _ _ H) (A _ _ O) (A _ _ z3) (m0.rd IntE.grow A) (A _ _ z4)
  ·refine Qi (hY (N-(j+1)) _ _ (by omega) ⟨j+1,?_,by omega,rfl,C.trans r8,t8.trans u2,?_,.inr c8,fun _=>c8⟩)
   ·rw[Qh (by omega) (by omega)];rfl
   ·rw[p8,u0,List.range_succ,List.map_append];rfl
 ·refine gZ ?_;have l3:j=N:=by omega
  subst l3;have n1:0<j:=by rw[x0];exact Nat.pow_pos (by omega)
  refine Qz (fun mm vs h'=>∃ (k:Nat) (rem:List Nat) (p:Option Addr) (n c:Nat),vs=[.slice p n c,.int .i64 k]/\rem.length+k=j/\mm=j-k/\(∀ i∈rem,i<j)/\Rd (((y.get.upd r3 (true,.cells #[.slice p0 n0 c0] 60 (0,0))).upd q (true,.chan 0 #[] false 0 0 false)).upd r4 (true,.cells #[.chan (some q)] 154 (0,0))) h'.get/\h'.todo=h.todo/\h'.pend=rem.map (fun i=>[(q,Sent u land day i)]) /\
    ((rem≠[]/\h'.chans=[q])\/(rem=[]/\h'.chans=[]/\∃ s,h'.get q=some (true,.chan 0 #[] false s s false)))/\BestR h'.get u land day rem p n/\n<=c)
   ⟨0,List.range j,none,0,0,rfl,by simp,rfl,fun i hi=>List.mem_range.1 hi,q2,u2,u0,.inl ⟨by simp;omega,y2 n1⟩,.inl ⟨rfl,rfl,fun i hi hn=>absurd (List.mem_range.2 (by omega)) hn⟩,Nat.le_refl _⟩ ?_
  rintro Y2 mm vs l a3 ⟨k,rem,p,n,c,rfl,hk,rfl,K,C,x2,o2,V,t,I⟩;refine yJ (fun e2=>?_) (fun e2=>?_)
  ·have B:rem≠[]:=by rintro rfl;simp at hk;omega
   have j0:l.chans=[q]:=by
    rcases V with⟨_,a⟩|⟨a,_⟩
    ·exact a
    ·exact absurd a B
   refine Un (C _ _ z4) ?_;refine Yn (commW_gather (φ:=Sent u land day) o2 j0 B ?_);intro i rest v W hi h1 h2 hlen ht o3 a4 ⟨hv,o,hle⟩ c1;have j3:commResult #[Conc.rcase q (.slice none 0 0)] (CommShape.recv false) 0 v true=v:=rfl;rw[j3];have D:=Rd.of_le c1;have next:∀ p' n' c',BestR W.get u land day rest p' n'->n'<=c'->Y2 [.slice p' n' c',.int .i64 (wrap .i64 ((k:Int)+1))] W:=by
    intro p' n' c' hb k0;refine a3 (j-(k+1)) _ _ (by omega) ⟨k+1,rest,p',n',c',?_,by omega,rfl,fun i hi=>K i (h2 i hi),C.trans D,ht.trans x2,o3,a4,hb,k0⟩;rw[Qh (by omega) (by omega)];rfl
   change (if okF u land day i=true then _ else _)at o;by_cases ok:okF u land day i=true
   ·rw[if_pos ok]at o;obtain⟨a,n',c',rfl,L,J⟩:=o;have L:=L.rd IntE.grow (Rd.of_le hle);refine gZ ?_;refine t_neNil Wh ?_;refine yT ?_;refine t_eqNil Wh ?_;refine yI (fun b=>?_) (fun b=>?_)
    ·exact Qi (next _ _ _ (t.take h1 ok (by have:=K i hi;omega) L (.inl (by simpa using b))) J)
    ·have m1:p≠none:=by rintro rfl;cases b
     obtain⟨k',a',m3,u1⟩ : ∃ k' a',p=some a'/\Sl IntE 1 l.get (some a') n (subsetL u.papers.length k'):=by
      rcases t with⟨b1,_⟩|⟨k',a',b1,_,_,b4,_⟩
      ·exact absurd b1 m1
      ·exact⟨k',a',b1,b4⟩
     subst m3;have x1:=u1.rd IntE.grow D;refine t_pu (c75 L x1) ?_;have same:∀ P,Sl IntE 1 l.get (some a') n (subsetL u.papers.length P)->subsetL u.papers.length P=subsetL u.papers.length k':=by
      intro P h3;exact Sl.same h3 u1
     refine yJ (fun e3=>?_) (fun e3=>?_)
     ·refine Qi (next _ _ _ (t.take h1 ok (by have:=K i hi;omega) L (.inr fun P _ h3=>?_)) J);rw[same P h3];omega
     ·refine Qi (next _ _ _ (t.stay h1 m1 D fun P h3=>?_) I);rw[same P h3,fewer_neg];omega
   ·rw[if_neg ok]at o;subst o;refine gZ ?_;refine t_neNil Wh ?_;refine yF ?_;exact Qi (next _ _ _ (t.skip h1 (by simpa using ok) D) I)
  ·refine gZ ?_;have l0:rem=[]:=List.length_eq_zero_iff.1 (by omega);subst l0;obtain⟨j0,s,o1⟩ : l.chans=[]/\∃ s,l.get q=some (true,.chan 0 #[] false s s false):=by
    rcases V with⟨a,_⟩|⟨_,a,b⟩
    ·exact absurd rfl a
    ·exact⟨a,b⟩
   refine Un (C _ _ z4) ?_;refine t_close o1 ?_;have D:Rd l.get (l.get.upd q (true,.chan 0 #[] true s s false)):=by
    intro a v hc;have B:a.block≠q:=by
     intro e;unfold Cells.cell? at hc;rw[e,o1]at hc;cases hc
    unfold Cells.cell? at hc ⊢;rw[Qp _ _ B];exact hc
   have b9:BestR (l.get.upd q (true,.chan 0 #[] true s s false)) u land day [] p n:=by
    rcases t with b1|⟨P,a,b1,b2,b3,b4,b5⟩
    ·exact .inl b1
    ·exact .inr ⟨P,a,b1,b2,b3,b4.rd IntE.grow D,b5⟩
   exact Qa ⟨((Rd.of_le w.1).trans C).trans D,j0,o2,x2,.inr ⟨ho,p,n,c,rfl,b9,I⟩⟩
end Go.Y
end

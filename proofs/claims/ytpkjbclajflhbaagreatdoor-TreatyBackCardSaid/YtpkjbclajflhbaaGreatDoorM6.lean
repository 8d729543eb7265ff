/- Contracts and laws for the proof, joined by a program. No condition. -/
import Derived.Test.YtpkjbclajflhbaaGreatDoorM5
set_option linter.all false
noncomputable section
open Go Go.Conc Go.TM Go.Proofs
set_option maxRecDepth 100000
open Go.IntKind (wrap)
section
namespace Go.Y
set_option maxHeartbeats 0
set_option linter.unusedVariables false
variable {X:XP} {h:LH} {A:Value->LH->Prop}
variable {a b c d e f g i j k l m:Int}{n o p q r s t u v w x y z:Nat}{B C D E F G H I J K L M:Option Addr}
theorem w3733{d:ByteArray}{g:Addr}:FX X 65 #[.string d,.slice B n o,.pointer (some g)] h A (.sem false (Sem.bind (eqGuard BinOp.add 9 (Operand.tmp 5) (Operand.const (.string { data:=#[58] })) (.string d) (.string { data:=#[58] })) fun e=>binOp BinOp.add 9 (.string d) (.string { data:=#[58] })) fun a=>.unStr a fun b=>.cl 36 #[.slice B n o,.string { data:=#[59] }] fun a=>.unStr a fun f=>.sem false (Sem.bind (eqGuard BinOp.add 9 (Operand.tmp 6) (Operand.tmp 8) (.string b) (.string f)) fun e=>binOp BinOp.add 9 (.string b) (.string f)) fun a=>.unStr a fun b=>.sem false (Sem.bind (eqGuard BinOp.add 9 (Operand.tmp 9) (Operand.const (.string { data:=#[59,10] })) (.string b) (.string { data:=#[59,10] })) fun e=>binOp BinOp.add 9 (.string b) (.string { data:=#[59,10] })) fun a=>.unStr a fun b=>.cT 35 #[.pointer (some g),.string b] fun a c=>.ui a fun i=>.unCons c fun a c=>.unNil c (.rt (.tuple #[]))):=fk [] [] [] Tryz.f65
theorem w3734:FX X 66 #[.slice B n o] h A (.loop [.slice none 0 0,.int .i64 0] (fun a=>.popS a fun c b d a=>.pi a fun e a=>.unNil a (bif decide (e<(↑n:Int)) then .need (0<=e/\e<(↑n:Int)) (.someA B fun g=>.li (g.add (e.toNat*1)) fun k=>.cl 86 #[k] fun f=>.unStr f fun m=>.sem false (Instr.buildSlice 81 1 #[(0,.string m)]) fun f=>.unS f fun i l j=>.sem false (Builtin.append_ #[81,81] 81 #[.slice c b d,.slice i l j]) fun f=>.unS f fun c b d=>.ag [.slice c b d,.int .i64 (wrap .i64 (e+1))]) else .bk [.slice c b d,e])) (fun a=>.popS a fun c b d a=>.pi a fun e a=>.unNil a (.rt (.slice c b d))) (fun a=>.popS a fun c b d a=>.pi a fun b a=>.unNil a (.rt (.slice none 0 0))) fun p q=>.fail):=fk [] [⟨0,[(3,.slice),(8,.int .i64)],[],[],[],[]⟩] [] Tryz.f66
theorem w3713:FX X 20 #[.agg #[a,b,c,d,e,f,.slice B n o],.agg #[g,i,j,k,l,m,.slice C p q]] h A (.blk (bif a != g then .rn [false] else bif b != i then .rn [false] else bif c != j then .rn [false] else bif d != k then .rn [false] else bif e != l then .rn [false] else bif f != m then .rn [false] else bif (↑n:Int) != (↑p:Int) then .rn [false] else .ag [false]) (fun s=>.popB s fun D s=>.unNil s (.loop [D,.int .i64 0] (fun s=>.popB s fun D s=>.pi s fun r s=>.unNil s (bif decide (r<(↑n:Int)) then .blk (.need (0<=r/\r<(↑n:Int)) (.someA B fun u=>.li ((u.add (r.toNat*5)).add 0) fun G=>.li ((u.add (r.toNat*5)).add 1) fun H=>.li ((u.add (r.toNat*5)).add 2) fun I=>.loadS ((u.add (r.toNat*5)).add 3) fun M J E=>.li ((u.add (r.toNat*5)).add 4) fun K=>.need (0<=r/\r<(↑p:Int)) (.someA C fun t=>.li ((t.add (r.toNat*5)).add 0) fun w=>.li ((t.add (r.toNat*5)).add 1) fun x=>.li ((t.add (r.toNat*5)).add 2) fun y=>.loadS ((t.add (r.toNat*5)).add 3) fun L z F=>.li ((t.add (r.toNat*5)).add 4) fun v=>.both (.li ((t.add (r.toNat*5)).add 0) fun Z=>.li ((t.add (r.toNat*5)).add 1) fun a0=>.li ((t.add (r.toNat*5)).add 2) fun b0=>.loadS ((t.add (r.toNat*5)).add 3) fun b1 c0 S=>.li ((t.add (r.toNat*5)).add 4) fun d0=>.ne (.agg #[Z,a0,b0,.slice b1 c0 S,d0]) (.agg #[w,x,y,.slice L z F,v]) (.need (0<=r/\r<(↑p:Int)) (.someA C fun O=>.ne (.pointer (some (O.add (r.toNat*5)))) (.pointer (some (t.add (r.toNat*5)))) (.nds [r,.S C p q,.pp 3 6] (.li ((u.add (r.toNat*5)).add 0) fun e0=>.li ((u.add (r.toNat*5)).add 1) fun f0=>.li ((u.add (r.toNat*5)).add 2) fun g0=>.loadS ((u.add (r.toNat*5)).add 3) fun c1 i0 U=>.li ((u.add (r.toNat*5)).add 4) fun j0=>.ne (.agg #[e0,f0,g0,.slice c1 i0 U,j0]) (.agg #[G,H,I,.slice M J E,K]) (.need (0<=r/\r<(↑n:Int)) (.someA B fun Q=>.ne (.pointer (some (Q.add (r.toNat*5)))) (.pointer (some (u.add (r.toNat*5)))) (.nds [r,.S B n o,.pp 2 6] (.li ((t.add (r.toNat*5)).add 0) fun k0=>.li ((t.add (r.toNat*5)).add 1) fun l0=>.li ((t.add (r.toNat*5)).add 2) fun m0=>.loadS ((t.add (r.toNat*5)).add 3) fun d1 o0 V=>.li ((t.add (r.toNat*5)).add 4) fun p0=>.ne (.agg #[k0,l0,m0,.slice d1 o0 V,p0]) (.agg #[w,x,y,.slice L z F,v]) (.need (0<=r/\r<(↑p:Int)) (.someA C fun R=>.ne (.pointer (some (R.add (r.toNat*5)))) (.pointer (some (t.add (r.toNat*5)))) (.nds [r,.S C p q,.pp 3 6] (.li ((u.add (r.toNat*5)).add 0) fun q0=>.li ((u.add (r.toNat*5)).add 1) fun r0=>.li ((u.add (r.toNat*5)).add 2) fun s0=>.loadS ((u.add (r.toNat*5)).add 3) fun e1 t0 W=>.li ((u.add (r.toNat*5)).add 4) fun u0=>.ne (.agg #[q0,r0,s0,.slice e1 t0 W,u0]) (.agg #[G,H,I,.slice M J E,K]) (.need (0<=r/\r<(↑n:Int)) (.someA B fun N=>.ne (.pointer (some (N.add (r.toNat*5)))) (.pointer (some (u.add (r.toNat*5)))) (.nds [r,.S B n o,.pp 2 6] (.li ((t.add (r.toNat*5)).add 0) fun v0=>.li ((t.add (r.toNat*5)).add 1) fun x0=>.li ((t.add (r.toNat*5)).add 2) fun y0=>.loadS ((t.add (r.toNat*5)).add 3) fun f1 z0 Y=>.li ((t.add (r.toNat*5)).add 4) fun a1=>.ne (.agg #[v0,x0,y0,.slice f1 z0 Y,a1]) (.agg #[w,x,y,.slice L z F,v]) (.need (0<=r/\r<(↑p:Int)) (.someA C fun u=>.ne (.pointer (some (u.add (r.toNat*5)))) (.pointer (some (t.add (r.toNat*5)))) (.nds [r,.S C p q,.pp 3 6] (.ag [G,H,I,.slice M J E,K,w,x,y,.slice L z F,v]))))))))))))))))))))) (.li ((t.add (r.toNat*5)).add 0) fun Z=>.li ((t.add (r.toNat*5)).add 1) fun a0=>.li ((t.add (r.toNat*5)).add 2) fun b0=>.loadS ((t.add (r.toNat*5)).add 3) fun b1 c0 S=>.li ((t.add (r.toNat*5)).add 4) fun d0=>.ne (.agg #[Z,a0,b0,.slice b1 c0 S,d0]) (.agg #[w,x,y,.slice L z F,v]) (.need (0<=r/\r<(↑p:Int)) (.someA C fun O=>.ne (.pointer (some (O.add (r.toNat*5)))) (.pointer (some (t.add (r.toNat*5)))) (.nds [r,.S C p q,.pp 3 6] (.li ((u.add (r.toNat*5)).add 0) fun e0=>.li ((u.add (r.toNat*5)).add 1) fun f0=>.li ((u.add (r.toNat*5)).add 2) fun g0=>.loadS ((u.add (r.toNat*5)).add 3) fun c1 i0 U=>.li ((u.add (r.toNat*5)).add 4) fun j0=>.ne (.agg #[e0,f0,g0,.slice c1 i0 U,j0]) (.agg #[G,H,I,.slice M J E,K]) (.need (0<=r/\r<(↑n:Int)) (.someA B fun Q=>.ne (.pointer (some (Q.add (r.toNat*5)))) (.pointer (some (u.add (r.toNat*5)))) (.nds [r,.S B n o,.pp 2 6] (.li ((t.add (r.toNat*5)).add 0) fun k0=>.li ((t.add (r.toNat*5)).add 1) fun l0=>.li ((t.add (r.toNat*5)).add 2) fun m0=>.loadS ((t.add (r.toNat*5)).add 3) fun d1 o0 V=>.li ((t.add (r.toNat*5)).add 4) fun p0=>.ne (.agg #[k0,l0,m0,.slice d1 o0 V,p0]) (.agg #[w,x,y,.slice L z F,v]) (.need (0<=r/\r<(↑p:Int)) (.someA C fun R=>.ne (.pointer (some (R.add (r.toNat*5)))) (.pointer (some (t.add (r.toNat*5)))) (.nds [r,.S C p q,.pp 3 6] (.li ((u.add (r.toNat*5)).add 0) fun q0=>.li ((u.add (r.toNat*5)).add 1) fun r0=>.li ((u.add (r.toNat*5)).add 2) fun s0=>.loadS ((u.add (r.toNat*5)).add 3) fun e1 t0 W=>.li ((u.add (r.toNat*5)).add 4) fun u0=>.ne (.agg #[q0,r0,s0,.slice e1 t0 W,u0]) (.agg #[G,H,I,.slice M J E,K]) (.need (0<=r/\r<(↑n:Int)) (.someA B fun N=>.ne (.pointer (some (N.add (r.toNat*5)))) (.pointer (some (u.add (r.toNat*5)))) (.nds [r,.S B n o,.pp 2 6] (.li ((t.add (r.toNat*5)).add 0) fun v0=>.li ((t.add (r.toNat*5)).add 1) fun x0=>.li ((t.add (r.toNat*5)).add 2) fun y0=>.loadS ((t.add (r.toNat*5)).add 3) fun f1 z0 Y=>.li ((t.add (r.toNat*5)).add 4) fun a1=>.ne (.agg #[v0,x0,y0,.slice f1 z0 Y,a1]) (.agg #[w,x,y,.slice L z F,v]) (.need (0<=r/\r<(↑p:Int)) (.someA C fun u=>.ne (.pointer (some (u.add (r.toNat*5)))) (.pointer (some (t.add (r.toNat*5)))) (.nds [r,.S C p q,.pp 3 6] (.ag [G,H,I,.slice M J E,K,w,x,y,.slice L z F,v])))))))))))))))))))))))) (fun s=>.pi s fun G s=>.pi s fun H s=>.pi s fun I s=>.popS s fun u J E s=>.pi s fun K s=>.pi s fun w s=>.pi s fun x s=>.pi s fun y s=>.popS s fun t z F s=>.pi s fun v s=>.unNil s (bif G != w then .rn [false,r] else bif H != x then .rn [false,r] else bif I != y then .rn [false,r] else bif K != v then .rn [false,r] else .cB 30 #[.slice u J E,.slice t z F] fun j1=>bif !j1 then .rn [false,r] else .ag [D,.int .i64 (wrap .i64 (r+1))])) (fun s=>.pi s fun G s=>.pi s fun H s=>.pi s fun I s=>.popS s fun u J E s=>.pi s fun K s=>.pi s fun w s=>.pi s fun x s=>.pi s fun y s=>.popS s fun u z E s=>.pi s fun v s=>.unNil s (.rn [D,r])) fun g1 i1=>.fail else .bk [D,r])) (fun s=>.popB s fun D s=>.pi s fun r s=>.unNil s (.rt (.bool true))) (fun s=>.popB s fun D s=>.pi s fun r s=>.unNil s (.rt (.bool D))) fun g1 i1=>.fail)) (fun s=>.popB s fun D s=>.unNil s (.rt (.bool D))) fun g1 i1=>.fail):=fk [2,3,6,7] [⟨0,[(4,.bool),(5,.int .i64)],[2,3],[],[],[]⟩] [{ id:=7,slots:=[(28672,.int .i64),(28673,.int .i64),(28674,.int .i64),(28675,.slice),(28676,.int .i64),(32768,.int .i64),(32769,.int .i64),(32770,.int .i64),(32771,.slice),(32772,.int .i64)],ro:=[2,3],outs:=[],pps:=[6,7] },⟨3,[(4,.bool)],[2,3],[],[],[]⟩] Tryz.f20
theorem w3737{k:ByteArray}:FX X 70 #[.pointer B,.string k] h A (.someA B fun c=>.li (c.add 7) fun b=>.someA B fun c=>.store ((c.add 7).add 0) (.int .i64 (wrap .i64 (b+1))) (.cT 95 #[.string k,.string { data:=#[58] }] fun d a=>.unStr d fun k=>.unCons a fun d a=>.unStr d fun m0=>.unCons a fun d a=>.unB d fun e=>.unNil a (.new 9 #[.string { data:=#[] }] fun E=>.store (Addr.add ⟨E,0,none⟩ 0) (.string k) (.cT 96 #[.string m0,.string { data:=#[59] }] fun d a=>.unStr d fun k=>.unCons a fun d a=>.unB d fun g=>.unNil a (.blk (bif e then bif g then .loadStr ⟨E,0,none⟩ fun k=>.someA B fun c=>.li (c.add 7) fun b=>.sem false (Sem.bind (eqGuard BinOp.eql 9 (Operand.tmp 42) (Operand.const (.string { data:=#[116,114,101,97,116,121] })) (.string k) (.string { data:=#[116,114,101,97,116,121] })) fun V=>binOp BinOp.eql 9 (.string k) (.string { data:=#[116,114,101,97,116,121] })) fun d=>.unB d fun q=>.nb (b==1) (.li (c.add 7) fun D=>.ne D b (.nO (c.add 7) (.someA B fun w=>.nq w c (.nds [.val (.pointer B),g,g] (.nf e true (.nds [e,.val (.pointer B)] (.cl 126 #[.pointer B,.bool (q==(b==1))] fun d=>.unTup d fun i=>.unNil i (.nds [.B (q==(b==1)),.B (b==1)] (.li (c.add 7) fun r=>.ne r b (.nO (c.add 7) (.someA B fun o=>.nq o c (.nds [.val (.pointer B),g,g] (.nf e true (.nd e (.ag []))))))))))))))) else .both (.nds [.U,.U,.U,.U,g,g] (.nf e true (.nds [e,.val (.pointer B),.U,.U,.U,g,g] (.nf e true (.nds [e,.val (.pointer B),.U,.U,.U,g,g] (.nf e true (.nds [e,.val (.pointer B)] (.cl 126 #[.pointer B,false] fun d=>.unTup d fun i=>.unNil i (.nds [.U,.U,.U,g,g] (.nf e true (.nd e (.ag [])))))))))))) (.nds [.U,.U,.U,.U,g,g] (.nf e true (.nds [e,.val (.pointer B),.U,.U,.U,g,g] (.nf e true (.nds [e,.val (.pointer B),.U,.U,.U,g,g] (.nf e true (.nds [e,.val (.pointer B)] (.cl 126 #[.pointer B,false] fun d=>.unTup d fun i=>.unNil i (.nds [.U,.U,.U,g,g] (.nf e true (.nd e (.ag [])))))))))))) else .both (.nds [.U,.U,.U,.U,false,.U] (.nf e false (.nds [e,.val (.pointer B),.U,.U,.U,false,.U] (.nf e false (.nds [e,.val (.pointer B),.U,.U,.U,false,.U] (.nf e false (.nds [e,.val (.pointer B)] (.cl 126 #[.pointer B,false] fun d=>.unTup d fun i=>.unNil i (.nds [.U,.U,.U,false,.U] (.nf e false (.nd e (.ag [])))))))))))) (.nds [.U,.U,.U,.U,false,.U] (.nf e false (.nds [e,.val (.pointer B),.U,.U,.U,false,.U] (.nf e false (.nds [e,.val (.pointer B),.U,.U,.U,false,.U] (.nf e false (.nds [e,.val (.pointer B)] (.cl 126 #[.pointer B,false] fun d=>.unTup d fun i=>.unNil i (.nds [.U,.U,.U,false,.U] (.nf e false (.nd e (.ag []))))))))))))) (fun a=>.unNil a (.cl 97 #[.string k,.string { data:=#[59] }] fun d=>.unS d fun c b f=>.someA B fun w=>.li (w.add 7) fun D=>bif D==1 then .cl 126 #[.pointer B,.bool ((↑b:Int)==6)] fun d=>.unTup d fun i=>.unNil i (.cl 127 #[.pointer B,.slice c b f] fun d=>.unS d fun c b f=>.need ((0:Int)<=0/\0<(↑b:Int)) (.someA c fun o=>.li (o.add 0) fun r=>.need ((0:Int)<=1/\1<(↑b:Int)) (.someA c fun y=>.li (y.add 1) fun l=>.need ((0:Int)<=2/\2<(↑b:Int)) (.someA c fun z=>.li (z.add 2) fun t=>.need ((0:Int)<=3/\3<(↑b:Int)) (.someA c fun p=>.li (p.add 3) fun j=>.need ((0:Int)<=4/\4<(↑b:Int)) (.someA c fun C=>.li (C.add 4) fun R=>.need ((0:Int)<=5/\5<(↑b:Int)) (.someA c fun c=>.li (c.add 5) fun b=>.someA B fun c=>.store ((c.add 0).add 0) (.int .i64 r) (.store ((c.add 0).add 1) (.int .i64 l) (.store ((c.add 0).add 2) (.int .i64 t) (.store ((c.add 0).add 3) (.int .i64 j) (.store ((c.add 0).add 4) (.int .i64 R) (.store ((c.add 0).add 5) (.int .i64 b) (.store ((c.add 0).add 6) (.slice none 0 0) (.someA B fun s=>.nq s c (.rt (.tuple #[])))))))))))))))) else .sem false (Instr.sliceAt 137 (.pointer (some { block:=1,off:=0 })) none none none) fun F=>.unS F fun o r a0=>.cI 128 #[.slice o r a0,.func (Fn.func 129) #[] #[.pointer (some ⟨E,0,none⟩)]] fun l=>.cl 126 #[.pointer B,.bool (decide (l>=0))] fun d=>.unTup d fun i=>.unNil i (.need (0<=l/\l<(↑7:Int)) (.loadB (((Addr.add { block:=1,off:=0 } (l.toNat*4)).add 1).add 0) fun e=>.loadB (((Addr.add { block:=1,off:=0 } (l.toNat*4)).add 1).add 1) fun q=>.sem false (Instr.buildSlice 122 2 #[(0,.bool e),(1,.bool q)]) fun d=>.unS d fun y t o0=>.loop [.int .i64 2,.int .i64 0] (fun a=>.pi a fun b a=>.pi a fun j a=>.unNil a (bif decide (j<(↑t:Int)) then .need (0<=j/\j<(↑t:Int)) (.someA y fun c=>.loadB (c.add (j.toNat*1)) fun e=>bif e then .ag [.int .i64 (wrap .i64 (b+1)),.int .i64 (wrap .i64 (j+1))] else .ag [b,.int .i64 (wrap .i64 (j+1))]) else .bk [b,j])) (fun a=>.pi a fun j a=>.pi a fun R a=>.unNil a (.cl 126 #[.pointer B,.bool ((↑b:Int)==j)] fun d=>.unTup d fun i=>.unNil i (.sem false (Instr.sliceAt 81 (.slice c b f) none (some (.int .i64 (wrap .i64 (j-1)))) none) fun F=>.unS F fun z k0 f=>.cl 127 #[.pointer B,.slice z k0 f] fun d=>.unS d fun p n f=>.need ((0:Int)<=0/\0<(↑n:Int)) (.someA p fun C=>.li (C.add 0) fun S=>.blk (bif e then .need ((0:Int)<=1/\1<(↑n:Int)) (.someA p fun c=>.li (c.add 1) fun b=>.ag [l,S,b,.slice none 0 0,.int .i64 0]) else .ag [l,S,.int .i64 0,.slice none 0 0,.int .i64 0]) (fun a=>.pi a fun H a=>.pi a fun I a=>.pi a fun J a=>.popS a fun s K f a=>.pi a fun c0 a=>.unNil a (.blk (bif q then .need (0<=wrap .i64 ((↑n:Int)-1)/\wrap .i64 ((↑n:Int)-1)<(↑n:Int)) (.someA p fun c=>.li (c.add ((wrap .i64 ((↑n:Int)-1)).toNat*1)) fun b=>.ag [H,I,J,.slice s K f,b]) else .ag [H,I,J,.slice s K f,c0]) (fun a=>.pi a fun L a=>.pi a fun M a=>.pi a fun N a=>.popS a fun Z d0 f a=>.pi a fun O a=>.unNil a (.blk (.need (0<=wrap .i64 (j-1)/\wrap .i64 (j-1)<(↑b:Int)) (.someA c fun c=>.loadStr (c.add ((wrap .i64 (j-1)).toNat*1)) fun k=>.sem false (Sem.bind (eqGuard BinOp.neq 9 (Operand.tmp 151) (Operand.const (.string { data:=#[] })) (.string k) (.string { data:=#[] })) fun V=>binOp BinOp.neq 9 (.string k) (.string { data:=#[] })) fun d=>.unB d fun e=>bif e then .cl 97 #[.string k,.string { data:=#[44] }] fun d=>.unS d fun c b f=>.cl 127 #[.pointer B,.slice c b f] fun d=>.unS d fun c b f=>.ag [L,M,N,.slice c b f,O] else .ag [L,M,N,.slice Z d0 f,O])) (fun a=>.pi a fun b a=>.pi a fun e0 a=>.pi a fun f0 a=>.popS a fun c g0 f a=>.pi a fun i0 a=>.unNil a (.someA B fun m=>.loadS ((m.add 0).add 6) fun U Q G=>.sem false (Instr.buildSlice 36 1 #[(0,.agg #[b,e0,f0,.slice c g0 f,i0])]) fun d=>.unS d fun c b f=>.loadS ((m.add 0).add 6) fun l0 j0 b0=>.ne (.slice l0 j0 b0) (.slice U Q G) (.nds [.O ((m.add 0).add 6),.O (m.add 0)] (.someA B fun W=>.nq W m (.nds [.val (.pointer B),.val (.pointer B)] (.sem false (Builtin.append_ #[36,36] 36 #[.slice U Q G,.slice c b f]) fun d=>.unS d fun c b f=>.nds [.O ((m.add 0).add 6),.O (m.add 0)] (.someA B fun Y=>.nq Y m (.nds [.val (.pointer B),.val (.pointer B)] (.someA B fun x=>.store (((x.add 0).add 6).add 0) (.slice c b f) (.nO (x.add 0) (.someA B fun c=>.nq c x (.rt (.tuple #[]))))))))))))) (fun a=>.pi a fun b a=>.pi a fun b a=>.pi a fun b a=>.popS a fun c b f a=>.pi a fun b a=>.unNil a (.rt (.tuple #[]))) fun u v=>.fail)) (fun a=>.pi a fun b a=>.pi a fun b a=>.pi a fun b a=>.popS a fun c b f a=>.pi a fun b a=>.unNil a (.rt (.tuple #[]))) fun u v=>.fail)) (fun a=>.pi a fun b a=>.pi a fun b a=>.pi a fun b a=>.popS a fun c b f a=>.pi a fun b a=>.unNil a (.rt (.tuple #[]))) fun u v=>.fail)))) (fun a=>.pi a fun b a=>.pi a fun b a=>.unNil a (.rt (.tuple #[]))) fun u v=>.fail)))) (fun a=>.unNil a (.rt (.tuple #[]))) fun u v=>.fail))))):=fk [11,16] [⟨0,[(12,.int .i64),(106,.int .i64)],[11],[],[],[]⟩] [⟨29,[(69632,.int .i64),(69633,.int .i64),(69634,.int .i64),(69635,.slice),(69636,.int .i64)],[11],[],[],[]⟩,⟨26,[(69632,.int .i64),(69633,.int .i64),(69634,.int .i64),(69635,.slice),(69636,.int .i64)],[11],[],[],[]⟩,⟨24,[(69632,.int .i64),(69633,.int .i64),(69634,.int .i64),(69635,.slice),(69636,.int .i64)],[11],[],[],[]⟩,⟨4,[],[],[],[],[]⟩] Tryz.f70
theorem w3760{a:Bool}:FX X 126 #[.pointer B,a] h A (bif !a then .someA B fun b=>.li (b.add 7) fun c=>.fail else .rt (.tuple #[])):=fk [] [] [] Tryz.f126
theorem w3761:FX X 127 #[.pointer B,.slice C n o] h A (.loop [.slice none 0 0,.int .i64 0] (fun b=>.popS b fun d c e b=>.pi b fun f b=>.unNil b (bif decide (f<(↑n:Int)) then .need (0<=f/\f<(↑n:Int)) (.someA C fun t=>.loadStr (t.add (f.toNat*1)) fun g=>.sem false (Builtin.len_ #[9] 3 #[.string g]) fun a=>.ui a fun u=>.cB 121 #[u,.int .i64 1,.int .i64 9] fun m=>bif m then .cl 155 #[.string g,.string { data:=#[48,49,50,51,52,53,54,55,56,57] }] fun a=>.unStr a fun r=>.sem false (Sem.bind (eqGuard BinOp.eql 9 (Operand.tmp 22) (Operand.const (.string { data:=#[] })) (.string r) (.string { data:=#[] })) fun s=>binOp BinOp.eql 9 (.string r) (.string { data:=#[] })) fun a=>.unB a fun m=>bif m then .sem false (Instr.index 9 (.string g) (.int .i64 0)) fun a=>.unI .u8 a fun p=>bif p != 48 then .cl 126 #[.pointer B,true] fun a=>.unTup a fun k=>.unNil k (.cT 156 #[.string g] fun a b=>.ui a fun l=>.unCons b fun a b=>.unNil b (.sem false (Instr.buildSlice 47 1 #[(0,.int .i64 l)]) fun a=>.unS a fun i q j=>.sem false (Builtin.append_ #[47,47] 47 #[.slice d c e,.slice i q j]) fun a=>.unS a fun d c e=>.ag [.slice d c e,.int .i64 (wrap .i64 (f+1))])) else .sem false (Sem.bind (eqGuard BinOp.eql 9 (Operand.tmp 30) (Operand.const (.string { data:=#[48] })) (.string g) (.string { data:=#[48] })) fun s=>binOp BinOp.eql 9 (.string g) (.string { data:=#[48] })) fun a=>.unB a fun m=>.cl 126 #[.pointer B,m] fun a=>.unTup a fun k=>.unNil k (.cT 156 #[.string g] fun a b=>.ui a fun l=>.unCons b fun a b=>.unNil b (.sem false (Instr.buildSlice 47 1 #[(0,.int .i64 l)]) fun a=>.unS a fun i q j=>.sem false (Builtin.append_ #[47,47] 47 #[.slice d c e,.slice i q j]) fun a=>.unS a fun d c e=>.ag [.slice d c e,.int .i64 (wrap .i64 (f+1))])) else .cl 126 #[.pointer B,false] fun a=>.unTup a fun k=>.unNil k (.cT 156 #[.string g] fun a b=>.ui a fun p=>.unCons b fun a b=>.unNil b (.sem false (Instr.buildSlice 47 1 #[(0,.int .i64 p)]) fun a=>.unS a fun i l j=>.sem false (Builtin.append_ #[47,47] 47 #[.slice d c e,.slice i l j]) fun a=>.unS a fun d c e=>.ag [.slice d c e,.int .i64 (wrap .i64 (f+1))])) else .cl 126 #[.pointer B,false] fun a=>.unTup a fun k=>.unNil k (.cT 156 #[.string g] fun a b=>.ui a fun p=>.unCons b fun a b=>.unNil b (.sem false (Instr.buildSlice 47 1 #[(0,.int .i64 p)]) fun a=>.unS a fun i l j=>.sem false (Builtin.append_ #[47,47] 47 #[.slice d c e,.slice i l j]) fun a=>.unS a fun d c e=>.ag [.slice d c e,.int .i64 (wrap .i64 (f+1))]))) else .bk [.slice d c e,f])) (fun b=>.popS b fun d c e b=>.pi b fun f b=>.unNil b (.rt (.slice d c e))) (fun b=>.popS b fun d c e b=>.pi b fun c b=>.unNil b (.rt (.slice none 0 0))) fun v w=>.fail):=fk [] [⟨0,[(5,.slice),(12,.int .i64)],[],[],[],[]⟩] [] Tryz.f127
theorem w3762{g:Value}:FX X 128 #[.slice B n o,g] h A (.loop [.int .i64 0,.int .i64 0] (fun a=>.pi a fun c a=>.pi a fun b a=>.unNil a (bif decide (b<(↑n:Int)) then .need (0<=b/\b<(↑n:Int)) (.someA B fun d=>.loadStr ((d.add (b.toNat*4)).add 0) fun j=>.loadB ((d.add (b.toNat*4)).add 1) fun e=>.loadB ((d.add (b.toNat*4)).add 2) fun i=>.loadV ((d.add (b.toNat*4)).add 3) fun f=>.callv false g #[.agg #[.string j,e,i,f]] fun f=>.unB f fun e=>bif e then .rn [b,b] else .ag [c,.int .i64 (wrap .i64 (b+1))]) else .bk [c,b])) (fun a=>.pi a fun c a=>.pi a fun c a=>.unNil a (.rt (.int .i64 (-1)))) (fun a=>.pi a fun c a=>.pi a fun b a=>.unNil a (.rt (.int .i64 c))) fun k l=>.fail):=fk [] [⟨0,[(4,.int .i64),(8,.int .i64)],[],[],[],[]⟩] [] Tryz.f128
theorem w3763{a:ByteArray}{e:Bool}{f:Bool}{g:Value}{c:Addr}:FX X 129 #[.agg #[.string a,e,f,g],.pointer (some c)] h A (.loadStr c fun b=>.sem false (Sem.bind (eqGuard BinOp.eql 9 (Operand.tmp 5) (Operand.tmp 6) (.string a) (.string b)) fun j=>binOp BinOp.eql 9 (.string a) (.string b)) fun i=>.unB i fun d=>.rt (.bool d)):=fk [2] [] [] Tryz.f129
end Go.Y
end
section
namespace Go.Y.Txt
open Go.TM.Tp
def wrongV(n:Int):Value:=.iface 142 (.int .i64 n)
def LineAt(a:Addr)(n:Int)(h:Cells):Prop:=h.cell? (a.add 7)=some (.int .i64 n)
variable {X:XP}{h₀ h:LH}{a:Addr}{n:Int}
theorem LineAt.le{a:Addr}{n:Int}{h h':Cells}(b:h.le h')(e:LineAt a n h):LineAt a n h':=Qm b e
theorem need_no{V:Value->Prop}(px:PX X V h₀)(c:V (wrongV n))(e:h₀.le h)(d:LineAt a n h.get){Q:Value->LH->Prop}:FW X Tryz.prog 126 #[.pointer (some a),.bool false] h Q:=by
 refine fw_panics (C:={ P:=Tryz.prog,priv:=[],loops:=[],joins:=[],kd:=.normal }) (t:=142) (v:=.int .i64 n) px c (f:=126) (fd:=Tryz.f126) (args:=[.pointer (some a),.bool false]) (by kernel_rfl) (by kernel_rfl) rfl rfl rfl rfl (fun _=>rfl) (by kernel_rfl) ?_;have hw:(T.need (Value.bool true=.bool true) (.someA (some a) fun b=>.loadI .i64 (b.add 7) fun m=>.need (Value.iface 142 (.int .i64 m)=.iface 142 (.int .i64 n)) (.mem (fun h=>h₀.le h) (.leaf (.again []))))).wp X Tryz.prog anyQ h :=
  ⟨rfl,a,rfl,n,d,rfl,e,trivial⟩
 refine cast ?_ hw;congr 1
attribute [local irreducible] T.wp CV FWK
structure PN(X:XP)(h₀ h:LH)(V:Value->Prop)(a:Addr)(n:Int):Prop where
 px:PX X V h₀
 same:h₀.le h
 line:LineAt a n h.get
theorem PN.le{X:XP}{h₀ h h':LH}{V:Value->Prop}{a:Addr}{n:Int}(p:PN X h₀ h V a n)(b:h.le h'):PN X h₀ h' V a n:=⟨p.px,LH.le_trans p.same b,p.line.le b.1⟩
theorem c3760{V:Value->Prop}(p:PN X h₀ h V a n)(b:Bool)(hv:b=false->V (wrongV n)):FW X Tryz.prog 126 #[.pointer (some a),.bool b] h fun r h'=>b=true/\r=.tuple #[]/\h'=h:=by
 cases b with
 | false=>exact need_no p.px (hv rfl) p.same p.line
 | true =>
  refine w3760 p.px.ok ?_;refine yF ?_;exact Qn ⟨rfl,rfl,rfl⟩
theorem Kj{Q:Leaf->LH->Prop}{K:Value->T}{V:Value->Prop}(p:PN X h₀ h V a n){b:Bool}(hv:b=false->V (wrongV n))(c:b=true->(K (.tuple #[])).wp X Tryz.prog Q h):(T.call false 126 #[.pointer (some a),.bool b] K).wp X Tryz.prog Q h :=
 Jm (c3760 p b hv) (by rintro _ _ ⟨h1,rfl,rfl⟩;exact c h1)
theorem Ug{l:Bs}(a:numL l≠none):(1<=l.length/\l.length<=9)/\l.all digit=true/\(l.head?=some 48->l.length=1):=by
 unfold numL at a;split at a
 ·assumption
 ·exact absurd rfl a
theorem Yr{l:Bs}{P:Prop}(h1:numL l≠none->P)(h2:¬ P):numL l=none:=by
 cases e:numL l with
 | none=>rfl
 | some n=>exact absurd (h1 (by rw[e];simp)) h2
theorem c3761{V:Value->Prop}{ln:Int}(F:PN X h₀ h V a ln){p:Option Addr}{n c:Nat}{l:List Bs}(s:BsS h p n c l)(hl:l.length<=2^20)(hb:∀ x∈l,x.length<=2^20)(hv:numsL l=none->V (wrongV ln)) :
  FW X Tryz.prog 127 #[.pointer (some a),.slice p n c] h fun r h'=>h.le h'/\∃ m,numsL l=some m/\∃ q k d,r=.slice q k d/\InS h' q k d (ints m)/\NewIn h.get q:=by
 refine w3761 F.px.ok ?_;have C:=s.2.1;refine Kc (fun Q vs h'=>h.le h'/\∃ (q:Option Addr) (m k i:Nat) (acc:List Nat),vs=[.slice q m k,.int .i64 i]/\i<=n/\Q=n-i/\numsL (l.take i)=some acc/\Growing IntEnc 3 1 h.get h'.get q m k (ints acc))
  (fun vs h'=>h.le h'/\∃ (q:Option Addr) (m k:Nat) (i:Int) (acc:List Nat),vs=[.slice q m k,.int .i64 i]/\numsL l=some acc/\Growing IntEnc 3 1 h.get h'.get q m k (ints acc))
  ⟨LH.le_refl _,none,0,0,0,[],rfl,Nat.zero_le _,rfl,rfl,Growing.nil⟩ ?_ ?_
 ·rintro Y Q vs h1 P ⟨o,q,m,k,i,acc,rfl,hi,rfl,f,g⟩;have D:=Wq f;rw[List.length_take]at D;refine yJ (fun R=>?_) (fun R=>?_)
  ·have N:=List.getElem?_eq_getElem (show i<l.length by omega);have A:=List.getElem_mem (show i<l.length by omega);generalize l[i]=x at N A;obtain⟨b,Z,S⟩:=(s.le o).at N;have W:0<=(i:Int)/\(i:Int)<(n:Int):=by omega
   have U:=hb x A;have bad:numL x=none->V (wrongV ln):=fun h0=>hv (nums_none h0 A);have j:=nums_snoc (l.take i) x;rw[<- Ww N,f]at j;have fin:1<=x.length/\x.length<=9->x.all digit=true->(x.head?=some 48->x.length=1)->numL x=some (valL x):=fun h1 h2 h3=>by unfold numL;rw[if_pos ⟨h1,h2,h3⟩]
   refine gZ ?_;refine Je (by rw[Int.toNat_natCast];exact S) ?_;refine Jf undS ?_;refine gZ ?_;refine t_pu (Tre.c2052 _ _ _) ?_;refine yI (fun e=>?_) (fun e=>?_)
   ·have hlen:1<=x.length/\x.length<=9:=by simp[Tr.inB]at e;omega
    have E:x≠[]:=by intro h0;subst h0;simp at hlen
    refine t_gr (d3542 E (by omega)) ?_;rintro _ h2 t rfl;refine Qx ?_;refine Db (b:=[]) undS ?_;refine yI (fun G=>?_) (fun G=>?_)
    ·have u:x.all digit=true:=trimD_nil.1 (by simpa using G);obtain⟨y,r,v⟩ : ∃ y r,x=y::r:=by
      cases x with
      | nil=>exact absurd rfl E
      | cons y r=>exact⟨y,r,rfl⟩
     have K:x[0]?=some y:=by rw[v];rfl
     refine Kd (i:=0) undS K ?_;refine yI (fun J=>?_) (fun J=>?_)
     ·have I:y≠48:=by rintro rfl;simp at J
      rw[fin hlen u (fun z=>by rw[v]at z;simp at z;exact absurd z I)]at j;refine Kj ((F.le o).le t) (fun e=>by cases e) fun _=>?_;refine gZ ?_;refine t_gr (c3771 u hlen.1 hlen.2) ?_;rintro _ h3 w rfl;refine gZ ?_;refine Ux (valL x:Int) (by unfold ints;rw[List.length_map];omega) (g.le (LH.le_trans t w).1) (LH.le_trans o (LH.le_trans t w)) fun O c' h' B g'=>?_;refine Qj (P (n-(i+1)) _ _ (by omega) ⟨B,O,m+1,c',i+1,acc++[valL x],?_,by omega,rfl,j,?_⟩)
      ·rw[Qo (by omega) (by omega)];rfl
      ·unfold ints at g' ⊢;rw[List.map_append];exact g'
     ·have I:y=48:=UInt8.toNat_inj.1 (by
       have:(y.toNat:Int)=48:=by simpa using J
       show y.toNat=48;omega)
      refine Db (b:=[48]) undS ?_;refine gZ ?_;refine Kj ((F.le o).le t) (fun H=>?_) fun H=>?_
      ·refine bad (Yr (fun C=>(Ug C).2.2) fun z=>?_);have h1:=z (by rw[v,I];rfl);rw[v]at h1;have:r=[]:=List.eq_nil_of_length_eq_zero (by simpa using h1);rw[v,I,this]at H;simp at H
      ·have L:x=[48]:=by simpa using H
       rw[fin hlen u (fun _=>by rw[L];rfl)]at j;refine gZ ?_;refine t_gr (c3771 u hlen.1 hlen.2) ?_;rintro _ h3 w rfl;refine gZ ?_;refine Ux (valL x:Int) (by unfold ints;rw[List.length_map];omega) (g.le (LH.le_trans t w).1) (LH.le_trans o (LH.le_trans t w)) fun O c' h' B g'=>?_;refine Qj (P (n-(i+1)) _ _ (by omega) ⟨B,O,m+1,c',i+1,acc++[valL x],?_,by omega,rfl,j,?_⟩)
       ·rw[Qo (by omega) (by omega)];rfl
       ·unfold ints at g' ⊢;rw[List.map_append];exact g'
    ·have M:¬ x.all digit=true:=fun z=>by rw[decide_eq_true (trimD_nil.2 z)]at G;cases G
     exact Kj ((F.le o).le t) (fun _=>bad (Yr (fun C=>(Ug C).2.1) M)) (fun e=>by cases e)
   ·exact Kj (F.le o) (fun _=>bad (Yr (fun C=>(Ug C).1) (by intro z;simp[Tr.inB]at e;omega))) (fun e=>by cases e)
  ·rw[List.take_of_length_le (by omega)]at f;exact gH ⟨o,q,m,k,_,acc,rfl,f,g⟩
 ·rintro vs h1 ⟨o,q,m,k,i,acc,rfl,f,g⟩;have D:=Wq f;refine gZ ?_;refine Qn ⟨o,acc,f,q,m,k,rfl,growI g (by unfold ints;rw[List.length_map];omega),g.new⟩
end Go.Y.Txt
end
section
namespace Go.TM.Tp
theorem findB_of:∀ {L:List Bs} {w:Bs} {i:Nat},i<L.length->(∀ j,j<i->L[j]?≠some w)->L[i]?=some w->findB w L=some i
 | [],w,i,h,_,_=>by simp at h
 | a::L,w,0,_,_,h=>by
  unfold findB;rw[if_pos (by simpa using h)]
 | a::L,w,i+1,h,h1,h2=>by
  unfold findB;rw[if_neg (fun e=>h1 0 (by omega) (by simp[e]))];rw[findB_of (i:=i) (by simpa using h) (fun j b=>by have:=h1 (j+1) (by omega);simpa using this) (by simpa using h2)];rfl
theorem findB_not:∀ {L:List Bs} {w:Bs},(∀ j,j<L.length->L[j]?≠some w)->findB w L=none
 | [],w,_=>rfl
 | a::L,w,h=>by
  unfold findB;rw[if_neg (fun e=>h 0 (by simp) (by simp[e])),findB_not (L:=L) (fun j b=>by have:=h (j+1) (by simp;omega);simpa using this)];rfl
end Go.TM.Tp
namespace Go.Y.Txt
open Go.TM.Tp
attribute [local irreducible] T.wp CV FWK
def KWords(h:Cells):Prop:=∀ k,k<7->h.cell? ⟨1,k*4,none⟩=some (.string (str (wordT k)))
variable {h:LH}{z:Addr}
theorem KWords.le{h h':Cells}(b:h.le h')(k:KWords h):KWords h':=fun i a=>Qm b (k i a)
theorem c3763{w w':Bs}(b:h.get.cell? z=some (.string (str w)))(b1 a:Bool)(g:Value):Pu Tryz.prog 129 #[.agg #[.string (str w'),.bool b1,.bool a,g],.pointer (some z)] h (.bool (decide (w'=w))):=by
 refine w3763 Qr ?_;refine Je b ?_;refine Db undS ?_;refine gZ ?_;exact Qn ⟨rfl,rfl⟩
theorem sliceKinds{X:XP}{Q:Leaf->LH->Prop}{K:Value->T}(a:(K (.slice (some ⟨1,0,none⟩) 7 7)).wp X Tryz.prog Q h):(T.sem false (Instr.sliceAt 137 (.pointer (some ⟨1,0,none⟩)) none none none) K).wp X Tryz.prog Q h:=by
 refine Jh (A:=fun v h'=>v=.slice (some ⟨1,0,none⟩) 7 7/\h'=h.get) ?_ (by rintro _ _ ⟨rfl,rfl⟩;exact a);have e:Qe Tryz.prog (Instr.sliceAt 137 (.pointer (some ⟨1,0,none⟩)) none none none) (fun v h'=>v=.slice (some ⟨1,0,none⟩) 7 7/\h'=h.get) (fun _ _=>False) h.get=(Value.slice (some ⟨1,0,none⟩) 7 7=.slice (some ⟨1,0,none⟩) 7 7/\h.get=h.get):=by kernel_rfl
 rw[e];exact⟨rfl,rfl⟩
theorem c3762(n:Tre.Kinds h.get)(hw:KWords h.get){w:Bs}(v:h.get.cell? z=some (.string (str w))) :
  Pu Tryz.prog 128 #[.slice (some ⟨1,0,none⟩) 7 7,.func (.func 129) #[] #[.pointer (some z)]] h (.int .i64 (match findB w wordsT with|some k=>(k:Int)|none=>-1)):=by
 refine w3762 Qr ?_;refine Kc (fun o vs h'=>h'=h/\∃ i:Nat,vs=[.int .i64 0,.int .i64 i]/\i<=7/\o=7-i/\∀ j,j<i->wordsT[j]?≠some w) (fun vs h'=>h'=h/\∃ i:Int,vs=[.int .i64 0,.int .i64 i]/\∀ j,j<7->wordsT[j]?≠some w) ⟨rfl,0,rfl,by omega,rfl,fun j m=>absurd m (by omega)⟩ ?_ ?_
 ·rintro Y o vs _ t ⟨rfl,i,rfl,A,rfl,b⟩;refine yJ (fun q=>?_) (fun q=>?_)
  ·have a:i<7:=by omega
   have u:0<=(i:Int)/\(i:Int)<((7:Nat):Int):=by omega
   have p:((⟨1,0,none⟩ : Addr).add ((i:Int).toNat*4)).add 0=⟨1,i*4,none⟩:=by rw[Qa,Qa,Int.toNat_natCast];simp
   have f:((⟨1,0,none⟩ : Addr).add ((i:Int).toNat*4)).add 1=⟨1,i*4+1,none⟩:=by rw[Qa,Qa,Int.toNat_natCast];simp
   have g:((⟨1,0,none⟩ : Addr).add ((i:Int).toNat*4)).add 2=⟨1,i*4+2,none⟩:=by rw[Qa,Qa,Int.toNat_natCast];simp
   have l:((⟨1,0,none⟩ : Addr).add ((i:Int).toNat*4)).add 3=⟨1,i*4+3,none⟩:=by rw[Qa,Qa,Int.toNat_natCast];simp
   have r:=hw i a;have x:=n.land i a;have y:=n.since i a;have s:=n.gives i a;refine gZ ?_;rw[p,f,g,l];refine Je r ?_;refine gZ ?_;refine Dy s ?_;refine J3 (Hs Qr (by rfl) (c3763 v (Tre.landK i) (Tre.sinceK i) _)) ?_;rintro _ _ ⟨rfl,rfl⟩;have d:wordsT[i]?=some (wordT i):=by
    unfold wordT;have:i<wordsT.length:=a;rw[List.getElem?_eq_getElem this];rfl
   refine yI (fun e=>?_) (fun e=>?_)
   ·have c:wordT i=w:=by simpa using e
    refine gI ?_;refine gZ ?_;refine Qn ⟨?_,rfl⟩;rw[findB_of (L:=wordsT) (i:=i) a b (by rw[d,c])]
   ·have c:wordT i≠w:=by simpa using e
    refine Qj (t (7-(i+1)) _ _ (by omega) ⟨rfl,i+1,?_,by omega,rfl,fun j m=>?_⟩)
    ·rw[Qo (by omega) (by omega)];rfl
    ·by_cases e:j=i
     ·subst e;rw[d];simpa using c
     ·exact b j (by omega)
  ·exact gH ⟨rfl,_,rfl,fun j m=>b j (by omega)⟩
 ·rintro vs _ ⟨rfl,i,rfl,b⟩;refine gZ ?_;refine Qn ⟨?_,rfl⟩;rw[findB_not (L:=wordsT) b]
end Go.Y.Txt
end
section
namespace Go.Y
open Go.Proofs.YtpkjbclajflhbaaGreatDoor
open Go.ChangeShapes Go.WideShapes Go.RowKit
theorem laid_cell{P:Program}{w:World}{n:String}{d:DataW Unit}:∀ {l:List (String×DataW Unit)} {ps:List MemPlace},DataW.LaidVars P w l ps->(n,d)∈l->∃ g t cs fuel p,P.globalNamed n=some g/\(P.globals[g]?).map (·.type)=some t/\w.var? P n=some cs/\DataW.trod (fun _=>()) P w 0 (fun _=>true) false fuel t cs.toList=some (d,p)/\∀ x∈MemPlace.row ⟨g,0,none⟩ cs.size,x∈ps
 | [],_,h,hm=>by simp at hm
 | (m,e)::r,ps,h,hm=>by
  obtain⟨g,t,cs,fuel,p,q,h1,h2,h3,s,h5,c⟩:=h;rcases List.mem_cons.1 hm with a|a
  ·cases a;exact⟨g,t,cs,fuel,p,h1,h2,h3,s,fun x b=>by rw[c,List.mem_append,List.mem_append];exact .inl (.inl b)⟩
  ·obtain⟨g,t,cs,fuel,p,f,i,j,k,o⟩:=laid_cell h5 a;exact⟨g,t,cs,fuel,p,f,i,j,k,fun x b=>by rw[c,List.mem_append];exact .inr (o x b)⟩
def powN : String := "internal/strconv.uint64pow10"
theorem gPow:Tryz.prog.globalNamed powN=some 5:=by kernel_rfl
theorem tPow:(Tryz.prog.globals[5]?).map (·.type)=some 313:=by kernel_rfl
theorem und64:Tryz.prog.underlying 292=some (.int .u64):=by kernel_rfl
theorem pow_of_laid{l:List (String×DataW Unit)}{W:World}(h:laidMetH Tryz.prog l W)(hm:(powN,Rows.laid_internal_strconv_uint64pow10)∈l):Tp.PowT 5 (getW W):=by
 obtain⟨ps,A,_⟩:=(laidMetH_iff.1 h).1;obtain⟨g',G,f,g,F,p,s,t,k,_⟩:=laid_cell A (List.mem_filter.2 ⟨hm,rfl⟩);obtain rfl:=Option.some.inj (gPow.symm.trans p);obtain rfl:=Option.some.inj (tPow.symm.trans s);obtain⟨xs,m,_,u,D,E,o⟩:=DataW.trod_array Tryz.underlying313 k;have v:Tryz.prog.cellsOf 292=1:=by kernel_rfl
 have b:∀ j:Nat,W.cell? ⟨5,j,none⟩=f[j]?:=World.var?_cell gPow t;have u:(Rows.laid_internal_strconv_uint64pow10:DataW Unit)=.agg (xs.map (·.1)):=(Prod.mk.inj u).1;intro j B;refine Z8 ?_;rw[b];have q:=o j (by omega);rw[v]at q;cases d:xs[j]? with
 | none=>have:=List.getElem?_eq_none_iff.1 d;omega
 | some y =>
  rw[d]at q;obtain⟨n,w,x,_⟩:=DataW.trod_int und64 q;have C:(xs.map (·.1))[j]?=some (.lit (.int .u64 n)):=by rw[List.getElem?_map,d,x];rfl
  have c:∀ i:Nat,i<5->∀ z:DataW Unit,(xs.map (·.1))[i]?=some z->z=.lit (.int .u64 (10^i:Nat)):=by
   intro i r z e;have:(DataW.agg (xs.map (·.1)):DataW Unit)=Rows.laid_internal_strconv_uint64pow10:=u.symm;unfold Rows.laid_internal_strconv_uint64pow10 at this;injection this with this;rw[this]at e
   match i,r with
   | 0,_=>cases e;rfl
   | 1,_=>cases e;rfl
   | 2,_=>cases e;rfl
   | 3,_=>cases e;rfl
   | 4,_=>cases e;rfl
  have a:=c j B _ C;injection a with a;injection a with _ a;subst a;have:=congrArg (·[0]?) w;simp at this;simpa using this
end Go.Y
namespace Go.Y.Tre
open Go.Proofs.YtpkjbclajflhbaaGreatDoor
open Go.ChangeShapes Go.WideShapes Go.RowKit
theorem Gx{W:World}{sp:Nat->Bool}{fuel:Nat}{cs:List Value}{x:DataW (List UInt8)×List MemPlace}{s:List UInt8}{y:List (DataW (List UInt8))}
 (h:DataW.trod (funcToken Tryz.prog) Tryz.prog W 0 sp true fuel 136 cs=some x)(e:x.1=.agg (.lit (.string s)::y)):cs[0]?=some (.string (str s)):=by
 obtain⟨k,n,_,rfl,d,hlen,g⟩:=DataW.trod_struct Tryz.underlying136 h;rw[show Tryz.prog.cellsOf 136=4 by kernel_rfl]at d
 match cs,d,k,hlen with
 | [v0,v1,v2,i],_,[j,l,m],_ =>
  have h0:DataW.trod (funcToken Tryz.prog) Tryz.prog W 0 sp true n 9 (([v0,v1,v2,i].drop 0).take (Tryz.prog.cellsOf 9))=some j:=g 0 _ rfl;rw[show Tryz.prog.cellsOf 9=1 by kernel_rfl]at h0;obtain⟨b,c,f,_⟩:=DataW.trod_string Txt.undS h0;simp only[List.map_cons,List.map_nil,DataW.agg.injEq,List.cons.injEq]at e;have a:=e.1;rw[f]at a;simp only[DataW.lit.injEq,Lit.string.injEq]at a;simp at c;rw[c,<- a,<- str_of b];rfl
theorem words_of_laid{l:List (String×DataW Unit)}{W:World}(h:laidMetH Tryz.prog l W)(v:(kindsN,Rows.laid_touchmark_treaty_kinds)∈l):Txt.KWords (getW W):=by
 obtain⟨g,t,cs,fuel,p,u,x,hv,s⟩:=laidMetH.funcs h (n:=kindsN) v;obtain rfl:=Option.some.inj (gKinds.symm.trans u);obtain rfl:=Option.some.inj (tKinds.symm.trans x);obtain⟨xs,m,_,d,y,w,c⟩:=DataW.trod_array Tryz.underlying137 s;have b:∀ j:Nat,W.cell? ⟨1,j,none⟩=cs[j]?:=World.var?_cell gKinds hv;obtain⟨x0,x1,x2,x3,x4,x5,z,rfl⟩:=array7 w;have f:Tryz.prog.cellsOf 136=4:=by kernel_rfl
 simp only[Prod.mk.injEq]at d;obtain⟨d,_⟩:=d;simp only[DataW.funcsOut,DataW.funcsOutAll,List.map_cons,List.map_nil,DataW.agg.injEq,List.cons.injEq,beq_self_eq_true,if_true,and_true]at d;obtain⟨k,o,q,r,g4,g5,g6⟩:=d;rw[f]at c;have key:∀ i,i<7->((cs.toList.drop (i*4)).take 4)[0]?=some (.string (str (Tp.wordT i))):=by
  intro i e;have a:=c i e
  match i,e with
  | 0,_=>exact Gx a k.symm
  | 1,_=>exact Gx a o.symm
  | 2,_=>exact Gx a q.symm
  | 3,_=>exact Gx a r.symm
  | 4,_=>exact Gx a g4.symm
  | 5,_=>exact Gx a g5.symm
  | 6,_=>exact Gx a g6.symm
 intro i e;refine Z8 ?_;rw[b];have:=key i e;rw[List.getElem?_take,if_pos (by omega),List.getElem?_drop]at this;simpa using this
end Go.Y.Tre
end
section
namespace Go.TM.Tp
def fieldsP(l:Bs):Option (Bs×List Bs):=if (cutV 58 l).2.2=true/\(cutV 58 l).2.1.getLast?=some 59 then some ((cutV 58 l).1,cut 59 (trimS 59 (cutV 58 l).2.1)) else none
theorem cutV_len(c:UInt8)(l:Bs):(cutV c l).1.length<=l.length/\(cutV c l).2.1.length<=l.length:=by
 rcases Zv c l with h|⟨a,r,rfl,h⟩
 ·rw[Uq h];simp
 ·rw[Up h];simp;omega
theorem trimS_len(c:UInt8)(l:Bs):(trimS c l).length<=l.length:=by
 unfold trimS;split
 ·rw[List.length_dropLast];omega
 ·exact Nat.le_refl _
def lineCut(s:Bs):Bs×Bs:=match cut 10 s with
 | a::_::_=>(a++[10],s.drop (a.length+1))
 | _=>(s,[])
theorem Ha{l:Bs}(h:(10:UInt8)∉l):lineCut l=(l,[]):=by unfold lineCut;rw[Kg h]
theorem G9{a r:Bs}(h:(10:UInt8)∉a):lineCut (a++10::r)=(a++[10],r):=by
 unfold lineCut;rw[Kf h];have:=Wx 10 r;cases e:cut 10 r with
 | nil=>exact absurd e this
 | cons x y=>simp
theorem trimS_snoc(c:UInt8)(a:Bs):trimS c (a++[c])=a:=by unfold trimS;simp
theorem trimS_none{c:UInt8}{a:Bs}(h:c∉a):trimS c a=a:=by
 unfold trimS;rw[if_neg];intro e;exact h (List.mem_of_getLast? e)
theorem lines_step{s:Bs}(h0:s≠[]):linesL s=trimS 10 (lineCut s).1::linesL (lineCut s).2:=by
 rcases Zv 10 s with h|⟨a,r,rfl,h⟩
 ·rw[Ha h,lines_one h h0,trimS_none h];rfl
 ·rw[G9 h,Dk h,trimS_snoc]
theorem Hl{s:Bs}(h0:s≠[]):(lineCut s).2.length<s.length/\(lineCut s).1.length<=s.length:=by
 have b:=List.length_pos_iff.2 h0;rcases Zv 10 s with h|⟨a,r,rfl,h⟩
 ·rw[Ha h];simp;exact b
 ·rw[G9 h];simp;omega
end Go.TM.Tp
end
section
namespace Go.TM.Tp
def bxC(z:Nat)(el:TypeId)(v:Value):Cells:=oneC z (.cells #[v] el (0,0))
variable {h:LH}{z:Nat}{el:TypeId}{v w:Value}
theorem Yg(a:h.get z=none):(h.add (bxC z el v)).get z=some (true,.cells #[v] el (0,0)):=Jj a
theorem bx_cell(a:h.get z=none):(h.add (bxC z el v)).get.cell? ⟨z,0,none⟩=some v:=by
 unfold Cells.cell?;simp only[Yg a];rfl
theorem bx_store(a:h.get z=none):{ h.add (bxC z el v) with get:=(h.add (bxC z el v)).get.setCell ⟨z,0,none⟩ w }=h.add (bxC z el w):=by
 have b:(h.add (bxC z el v)).get.setCell ⟨z,0,none⟩ w=(h.add (bxC z el w)).get:=by
  funext r;unfold Cells.setCell;by_cases e:r=z
  ·subst e;rw[Yg a,if_pos rfl,Yg a];rfl
  ·rw[if_neg e];show h.get.add (bxC z el v) r=h.get.add (bxC z el w) r;unfold Cells.add bxC oneC;simp only[if_neg e]
 show (⟨(h.add (bxC z el v)).get.setCell ⟨z,0,none⟩ w,_,_,_⟩ : LH)=_;rw[b];rfl
theorem Zo(h:LH)(k:Cells):h.le (h.add k):=⟨fun _ _ a=>Qh a,rfl,rfl,rfl⟩
theorem Uv{X:XP}{P:Program}{Q:Leaf->LH->Prop}{k:T}(a:h.get z=none)(h1:isOne w=true)(b:k.wp X P Q (h.add (bxC z el w))):(T.store (Addr.add ⟨z,0,none⟩ 0) w k).wp X P Q (h.add (bxC z el v)):=by
 have e:Addr.add ⟨z,0,none⟩ 0=⟨z,0,none⟩:=by rw[Qa]
 rw[e];refine t_store h1 ⟨_,Yg a⟩ (bx_cell a) (by simp[Cells.frozen?,Yg a]) ?_;rw[bx_store a];exact b
def NextLine(s:Bs)(xs:List Value)(s':Bs):Prop:=s≠[]/\xs=[.string (str (lineCut s).1)]/\s'=(lineCut s).2
def NoLine(s:Bs):Prop:=s=[]
end Go.TM.Tp
namespace Go.Y.Txt
open Go.TM.Tp
attribute [local irreducible] T.wp CV FWK
theorem hands3743{X:XP}(B:XOK X){h₀:LH}{z:Nat}(t:Bs)(K:t.length<=2^40):HandsF X Tryz.prog (.func (.func 93) #[] #[.pointer (some ⟨z,0,none⟩)]) h₀ (bxC z 9 (.string (str t))) NextLine NoLine t:=by
 intro y J E I u k h hle A C;refine Hs B (by rfl) (?_:FW X Tryz.prog 93 #[y,.pointer (some ⟨z,0,none⟩)] (h.add (bxC z 9 (.string (str t)))) _);refine w3743 B ?_;refine Jc (fun G vs h'=>vs=[]/\∃ (s:Bs) (hm:LH),h'=hm.add (bxC z 9 (.string (str s)))/\hm.get z=none/\h₀.le hm/\J s hm/\G=s.length/\s.length<=2^40)
  ⟨rfl,t,h,rfl,Jt C,hle,A,rfl,K⟩ ?_
 rintro Y G vs _ w ⟨rfl,s,hm,rfl,o,m,p,rfl,n⟩;have l:=bx_cell (el:=9) (v:=.string (str s)) o;have q:∀ H,Disj hm.get (bxC z 9 (.string (str H))):=fun H=>J1 o;refine gZ ?_;refine Je l ?_;refine Jf undS ?_;refine yJ (fun D=>?_) (fun D=>?_)
 ·have h0:s≠[]:=by rintro rfl;simp at D
  have hlen:=Hl h0;have i:=CV.frame B (k s hm [.string (str (lineCut s).1)] (lineCut s).2 m ⟨h0,rfl,rfl⟩ p) (q (lineCut s).2);refine Je l ?_;refine t_pu (c3569 s 10) ?_;rcases Zv 10 s with h1|⟨a,r,rfl,h1⟩
  ·rw[Dq h1];rw[Ha h1]at i hlen;refine gZ ?_;refine t_if (fun e=>absurd e (by decide)) (fun _=>?_);refine Je l ?_;refine Uv o rfl ?_;refine J3 i ?_;rintro b j ⟨h',d,rfl,c,⟨rfl,g⟩|⟨rfl,f⟩⟩
   ·refine yF ?_;exact Qj (w _ _ _ hlen.1 ⟨rfl,[],h',rfl,Jt d,c,g,rfl,by simp⟩)
   ·refine yT ?_;refine gI ?_;refine gZ ?_;exact Qn ⟨LH.le_trans c (Zo _ _),.inr (u _ _ f d)⟩
  ·rw[Wv h1];rw[G9 h1]at i hlen;have hw:wrap .i64 ((a.length:Int)+1)=((a.length+1:Nat):Int):=by
    have:(a++10::r).length=a.length+r.length+1:=by simp;omega
    rw[Qo (by omega) (by omega)];rfl
   have hb:a.length+1<=(a++10::r).length:=by simp
   have F:(a++10::r).take (a.length+1)=a++[10]:=by simp[List.take_append,List.take_of_length_le]
   have x:(a++10::r).drop (a.length+1)=r:=by simp
   refine gZ ?_;refine t_if (fun _=>?_) (fun e=>by omega);refine Je l (Je l ?_);rw[hw];refine Wo ?_ ?_
   ·refine W2 undS hb ?_;rw[F];refine Qx ?_;refine gZ ?_;refine Je l ?_;refine gZ ?_;refine Wo ?_ ?_
    ·refine G0 undS hb ?_;rw[x];refine Qx ?_;refine gZ ?_;refine Uv o rfl (J3 i ?_);rintro b j ⟨h',d,rfl,c,⟨rfl,g⟩|⟨rfl,f⟩⟩
     ·refine yF ?_;exact Qj (w _ _ _ hlen.1 ⟨rfl,r,h',rfl,Jt d,c,g,rfl,by simp at hlen n;omega⟩)
     ·refine yT ?_;refine gI ?_;refine gZ ?_;exact Qn ⟨LH.le_trans c (Zo _ _),.inr (u _ _ f d)⟩
    ·refine gZ ?_;refine Je l ?_;refine gZ ?_;refine G0 undS hb ?_;rw[x];refine Qx ?_;refine gZ ?_;refine Uv o rfl (J3 i ?_);rintro b j ⟨h',d,rfl,c,⟨rfl,g⟩|⟨rfl,f⟩⟩
     ·refine yF ?_;exact Qj (w _ _ _ hlen.1 ⟨rfl,r,h',rfl,Jt d,c,g,rfl,by simp at hlen n;omega⟩)
     ·refine yT ?_;refine gI ?_;refine gZ ?_;exact Qn ⟨LH.le_trans c (Zo _ _),.inr (u _ _ f d)⟩
   ·refine G0 undS hb ?_;rw[x];refine Qx ?_;refine gZ ?_;refine Je l ?_;refine gZ ?_;refine W2 undS hb ?_;rw[F];refine Qx ?_;refine gZ ?_;refine Uv o rfl (J3 i ?_);rintro b j ⟨h',d,rfl,c,⟨rfl,g⟩|⟨rfl,f⟩⟩
    ·refine yF ?_;exact Qj (w _ _ _ hlen.1 ⟨rfl,r,h',rfl,Jt d,c,g,rfl,by simp at hlen n;omega⟩)
    ·refine yT ?_;refine gI ?_;refine gZ ?_;exact Qn ⟨LH.le_trans c (Zo _ _),.inr (u _ _ f d)⟩
 ·have h0:s=[]:=List.eq_nil_of_length_eq_zero (by omega);refine gH ?_;refine gZ ?_;exact Qn ⟨LH.le_trans m (Zo _ _),.inl ⟨s,h0,I _ _ _ p (q s)⟩⟩
theorem c3726{h:LH}(s:Bs):FW X0 Tryz.prog 47 #[.string (str s)] h fun r h'=>∃ z,r=.func (.func 93) #[] #[.pointer (some ⟨z,0,none⟩)]/\h.get z=none/\h'=h.add (bxC z 9 (.string (str s))):=by
 refine w3726 Qr ?_;refine Z5 fun z a=>?_;refine Qn ⟨z,rfl,a,?_⟩;unfold LH.add;congr 1;funext r;unfold Cells.upd Cells.add bxC oneC;by_cases e:r=z
 ·subst e;simp only[if_pos rfl,a]
 ·simp only[if_neg e];cases h.get r<;>rfl
end Go.Y.Txt
end
section
namespace Go.TM.Rv
attribute [local irreducible] T.wp CV FWK
/-! ### Halves -/
def diff(h h':Cells):Cells:=fun r=>match h r with
 | some _=>none
 | none=>h' r
theorem diff_disj(h h':Cells):Disj h (diff h h'):=fun r=>by
 unfold diff;cases h r with
 | none=>exact .inl rfl
 | some x=>exact .inr rfl
theorem diff_get{h h':Cells}(a:h.le h'):h.add (diff h h')=h':=by
 funext r;unfold Cells.add diff;cases e:h r with
 | none=>rfl
 | some x=>exact(a r x e).symm
theorem diff_add{h h':LH}(b:h.le h'):h.add (diff h.get h'.get)=h':=by
 obtain⟨h1,h2,h3,a⟩:=b;show ({ h with get:=h.get.add (diff h.get h'.get) }:LH)=h';rw[diff_get h1];cases h;cases h';simp only at h2 h3 a;subst h2;subst h3;subst a;rfl
section
variable {P:Program} {X:XP} {Q:Leaf->LH->Prop}
end
end Go.TM.Rv
end
section
namespace Go.TM.Tp
attribute [local irreducible] T.wp CV FWK
theorem t_grB{X:XP}{P:Program}{Q:Leaf->LH->Prop}{hB h':LH}{f:FuncId}{args:Array Value}{k:Value->T}{V:Value->LH->Prop}(hle:hB.le h')(c:Gr P f args hB V)
 (l:∀ v b h'',hB.le b->b.le h''->h'.le h''->(∀ r,hB.get r=none->h'.get r≠none->b.get r=none)->V v b->(k v).wp X P Q h''):(T.call false f args k).wp X P Q h':=by
 have e:=Rv.diff_add hle;have d:=Rv.diff_disj hB.get h'.get;rw[<- e];refine Jm (Yj (FW.frame Qr c d)) ?_;rintro v _ ⟨h2,d2,rfl,a,hv⟩;refine l v h2 _ a (Zo _ _) ⟨fun r x g=>?_,a.2.1.trans ?_,a.2.2.1.trans ?_,a.2.2.2.trans ?_⟩ (fun r h0 h1=>?_) hv
 ·rw[<- e]at g;cases hb:hB.get r with
  | some y =>
   have j:h'.get r=some y:=hle.1 _ _ hb;rw[e]at g;rw[j]at g;cases g;exact Qh (a.1 _ _ hb)
  | none =>
   have i:Rv.diff hB.get h'.get r=some x:=by
    have:=g;unfold LH.add Cells.add at this;simp only[hb]at this;exact this
   exact Q1 d2 i
 ·exact hle.2.1.symm
 ·exact hle.2.2.1.symm
 ·exact hle.2.2.2.symm
 ·rcases d2 r with h|h
  ·exact h
  ·exfalso;apply h1;unfold Rv.diff at h;rw[h0]at h;exact h
theorem growing_rebase{α:Type}{Enc d:α->List Value->Prop}{el:TypeId}{k:Nat}{hB e h' h'':LH}{p:Option Addr}{n c:Nat}{l:List α}(hm:∀ x ws,Enc x ws->d x ws)(h2:h'.le h'')(h:∀ r,hB.get r=none->h'.get r≠none->e.get r=none)(g:Growing Enc el k hB.get h'.get p n c l):Growing d el k e.get h''.get p n c l:=by
 obtain⟨vs,o,r⟩:=g.row;refine⟨⟨vs,o.le h2.1,r.mono hm⟩,fun a f=>h _ (g.new a f) ?_⟩;rcases o.2 with⟨h1,_⟩|⟨b,cs,h1,h3,_⟩
 ·rw[h1]at f;cases f
 ·rw[h1]at f;cases f;rw[h3];simp
end Go.TM.Tp
namespace Go.Y.Txt
open Go.TM.Tp
attribute [local irreducible] T.wp CV FWK
end Go.Y.Txt
end
section
namespace Go.TM.Tp
attribute [local irreducible] T.wp CV FWK
theorem t_grX{X:XP}(l:XOK X){P:Program}{Q:Leaf->LH->Prop}{hB h':LH}{f:FuncId}{args:Array Value}{k:Value->T}{V:Value->LH->Prop}(hle:hB.le h')(c:FW X P f args hB fun v h''=>hB.le h''/\V v h'')
 (m:∀ v b h'',hB.le b->b.le h''->h'.le h''->(∀ r,hB.get r=none->h'.get r≠none->b.get r=none)->V v b->(k v).wp X P Q h''):(T.call false f args k).wp X P Q h':=by
 have e:=Rv.diff_add hle;have d:=Rv.diff_disj hB.get h'.get;rw[<- e];refine Jm (FW.frame l c d) ?_;rintro v _ ⟨h2,d2,rfl,a,hv⟩;refine m v h2 _ a (Zo _ _) ⟨fun r x g=>?_,a.2.1.trans ?_,a.2.2.1.trans ?_,a.2.2.2.trans ?_⟩ (fun r h0 h1=>?_) hv
 ·rw[<- e]at g;cases hb:hB.get r with
  | some y =>
   have j:h'.get r=some y:=hle.1 _ _ hb;rw[e]at g;rw[j]at g;cases g;exact Qh (a.1 _ _ hb)
  | none =>
   have i:Rv.diff hB.get h'.get r=some x:=by
    have:=g;unfold LH.add Cells.add at this;simp only[hb]at this;exact this
   exact Q1 d2 i
 ·exact hle.2.1.symm
 ·exact hle.2.2.1.symm
 ·exact hle.2.2.2.symm
 ·rcases d2 r with h|h
  ·exact h
  ·exfalso;apply h1;unfold Rv.diff at h;rw[h0]at h;exact h
end Go.TM.Tp
namespace Go.Y.Txt
open Go.TM.Tp Go.TM.Tr
attribute [local irreducible] T.wp CV FWK
variable {h' hB h'':LH}{b:Nat}{vs:List Value}{f:TC}{es:List Ev}{v:Value}
theorem eventEnc_mono{h h':Cells}(a:h.le h'):∀ x ws,EventEnc h x ws->EventEnc h' x ws:=by
 rintro x _ ⟨q,m,c,rfl,hm,s⟩;exact⟨q,m,c,rfl,hm,s.le IntE.grow a⟩
structure RSt(hB h':LH)(b:Nat)(vs:List Value)(f:TC)(es:List Ev):Prop where
 le:hB.le h'
 new:hB.get b=none
 cell:h'.get b=some (true,.cells vs.toArray 141 (0,0))
 ev:Growing (EventEnc hB.get) 120 5 hB.get h'.get f.p f.n f.c es
theorem RSt.up(s:RSt hB h' b vs f es)(a:h'.le h''):RSt hB h'' b vs f es :=
 ⟨LH.le_trans s.le a,s.new,a.1 _ _ s.cell,s.ev.le a.1⟩
theorem RSt.rebase{a:LH}(s:RSt hB h' b vs f es)(h1:hB.le a)(h2:a.le h'')(h3:h'.le h'')(c:∀ r,hB.get r=none->h'.get r≠none->a.get r=none):RSt a h'' b vs f es :=
 ⟨h2,c _ s.new (by rw[s.cell];simp),h3.1 _ _ s.cell,growing_rebase (eventEnc_mono h1.1) h3 c s.ev⟩
theorem RSt.at(s:RSt hB h' b vs f es){j:Nat}(a:vs[j]?=some v):h'.get.cell? ⟨b,j,none⟩=some v:=by
 unfold Cells.cell?;rw[s.cell];simpa using a
theorem RSt.put(s:RSt hB h' b vs f es)(j:Nat)(v:Value):RSt hB { h' with get:=h'.get.setCell ⟨b,j,none⟩ v } b (vs.set j v) f es:=by
 have ne:∀ r,r≠b->(h'.get.setCell ⟨b,j,none⟩ v) r=h'.get r:=fun r hr=>by unfold Cells.setCell;rw[if_neg hr]
 have hb:(h'.get.setCell ⟨b,j,none⟩ v) b=some (true,.cells (vs.set j v).toArray 141 (0,0)):=by
  unfold Cells.setCell;rw[if_pos rfl,s.cell];simp
 refine⟨⟨fun r x c=>?_,s.le.2⟩,s.new,hb,?_⟩
 ·have hr:r≠b:=by rintro rfl;rw[s.new]at c;cases c
  show (h'.get.setCell ⟨b,j,none⟩ v) r=_;rw[ne r hr];exact s.le.1 _ _ c
 ·obtain⟨ws,o,r⟩:=s.ev.row;refine⟨⟨ws,⟨o.1,?_⟩,r⟩,s.ev.new⟩;rcases o.2 with h1|⟨a,cs,h1,h3,d⟩
  ·exact .inl h1
  ·refine .inr ⟨a,cs,h1,?_,d⟩;have hr:a≠b:=by
    rintro rfl;rw[s.cell]at h3;cases h3
   show (h'.get.setCell ⟨b,j,none⟩ v) a=_;rw[ne _ hr];exact h3
theorem Dx{X:XP}{Q:Leaf->LH->Prop}{a:Addr}{k:T}(s:RSt hB h' b vs f es)(j:Nat)(c:a=⟨b,j,none⟩)(d:j<vs.length)(hv:isOne v=true)
 (e:∀ h'',RSt hB h'' b (vs.set j v) f es->(k).wp X Tryz.prog Q h''):(T.store a v k).wp X Tryz.prog Q h':=by
 subst c;refine Go.TM.t_store hv ⟨_,s.cell⟩ (s.at (List.getElem?_eq_getElem d)) ?_ (e _ (s.put j v));unfold Cells.frozen?;rw[s.cell];simp
def rdL(x:TF)(f:TC)(n:Nat):List Value:=[.int .i64 x.items,.int .i64 x.lands,.int .i64 x.start,.int .i64 x.depend,.int .i64 x.refuse,.int .i64 x.turn,.slice f.p f.n f.c,.int .i64 (n:Int)]
theorem RSt.withR(s:RSt hB h' b vs f es):({ hB with get:=hB.get.upd b (true,.cells vs.toArray 141 (0,0)) }:LH).le h'/\hB.le { hB with get:=hB.get.upd b (true,.cells vs.toArray 141 (0,0)) }:=by
 refine⟨⟨fun r x a=>?_,s.le.2⟩,⟨J6 _ s.new,rfl,rfl,rfl⟩⟩;by_cases hr:r=b
 ·subst hr;change (hB.get.upd r _) r=_ at a;rw[Qk]at a;cases a;exact s.cell
 ·change (hB.get.upd b _) r=_ at a;rw[Qp _ _ hr]at a;exact s.le.1 _ _ a
theorem RSt.back{a:LH}(s:RSt hB h' b vs f es)(h1:({ hB with get:=hB.get.upd b (true,.cells vs.toArray 141 (0,0)) }:LH).le a)(h2:a.le h'')(h3:h'.le h'')
 (h:∀ r,({ hB with get:=hB.get.upd b (true,.cells vs.toArray 141 (0,0)) }:LH).get r=none->h'.get r≠none->a.get r=none) :
  ∃ c,hB.le c/\RSt c h'' b vs f es/\∀ r x,r≠b->a.get r=some x->c.get r=some x:=by
 let c:LH:={ a with get:=fun r=>if r=b then none else a.get r }
 have g:hB.le c:=⟨fun r x d=>by
  have hr:r≠b:=by rintro rfl;rw[s.new]at d;cases d
  show (if r=b then none else a.get r)=_;rw[if_neg hr];exact h1.1 _ _ (by show (hB.get.upd b _) r=_;rw[Qp _ _ hr];exact d),h1.2⟩
 refine⟨c,g,s.rebase g ⟨fun r x d=>?_,h2.2⟩ h3 (fun r h0 i=>?_),fun r x hr d=>?_⟩
 ·have e:(if r=b then none else a.get r)=some x:=d;split at e
  ·cases e
  ·exact h2.1 _ _ e
 ·show (if r=b then none else a.get r)=none;split
  ·rfl
  ·rename_i hr;exact h r (by show (hB.get.upd b _) r=_;rw[Qp _ _ hr];exact h0) i
 ·show (if r=b then none else a.get r)=_;rw[if_neg hr];exact d
end Go.Y.Txt
end
section
namespace Go.TM.Tp
open Go.TM.Tr
variable {k:Nat}{ns ms:List Nat}
theorem cell?_same{h h':Cells}{a:Addr}{v:Value}(hc:h.cell? a=some v)(hb:∀ x,h a.block=some x->h' a.block=some x):h'.cell? a=some v:=by
 obtain⟨x,b,_⟩:=Hu hc;unfold Cells.cell? at hc ⊢;rw[hb x b];rw[b]at hc;exact hc
def lineG(first:Bool)(w:Bs)(f:List Bs):Option LT :=
 if decide (w=wTreaty)≠first then none
 else if first then (match numsL f with|some [a,b,c,d,e,f]=>some (.head a b c d e f)|_=>none)
 else (findB w wordsT).bind fun k=>(eventL k f).map .event
theorem lineG_w0(first:Bool)(a:List Bs):lineG first [] a=none:=by
 cases first<;>rfl
theorem Dl(first:Bool)(l:Bs):lineT first l=(fieldsP l).bind fun x=>lineG first x.1 x.2:=by
 show (fieldsL l).bind (fun x=>lineG first x.1 x.2)=_;unfold fieldsP;rcases Zv 58 l with h|⟨a,r,rfl,h⟩
 ·rw[Uq h,fields_none h,if_neg (by simp)]
 ·rw[Up h,fields_some h];simp only[true_and];by_cases h0:a=[]
  ·subst h0;rw[if_pos rfl];split
   ·simp[lineG_w0]
   ·rfl
  ·rw[if_neg h0];split
   ·rename_i b;unfold trimS;rw[if_pos b]
   ·rfl
theorem findB_lt:∀ {L:List Bs} {w:Bs} {k:Nat},findB w L=some k->k<L.length
 | [],w,k,h=>by cases h
 | a::L,w,k,h=>by
  unfold findB at h;split at h
  ·cases h;simp
  ·cases e:findB w L with
   | none=>rw[e]at h;cases h
   | some j =>
    rw[e]at h;cases h;have:=findB_lt e;simp;omega
def fieldsN(k:Nat):Nat:=1+(if landB k then 1 else 0)+(if sinceB k then 1 else 0)
theorem numsOf_len{n m:List Nat}{e:Ev}(h:numsOf k n m=some e):n.length=fieldsN k:=by
 unfold numsOf at h;unfold fieldsN;cases a:landB k<;>cases b:sinceB k<;>rw[a,b]at h
 ·cases h
 all_goals
  match n,h with
  | [],h=>cases h
  | [_],h=>cases h
  | [_,_],h=>first|rfl|cases h
  | [_,_,_],h=>first|rfl|cases h
  | _::_::_::_::_,h=>cases h
theorem eventL_of{f:List Bs}{z:Bs}(b:f.getLast?=some z)(a:numsL f.dropLast=some ns)(hm:listL z=some ms):eventL k f=numsOf k ns ms:=by
 unfold eventL;rw[b,a];simp only[Option.bind_some];rw[hm];rfl
theorem eventL_none1{f:List Bs}(a:numsL f.dropLast=none):eventL k f=none:=by
 unfold eventL;cases f.getLast? with
 | none=>rfl
 | some z=>rw[a];rfl
theorem eventL_none2{f:List Bs}{z:Bs}(a:f.getLast?=some z)(hm:listL z=none):eventL k f=none:=by
 unfold eventL;rw[a];simp only[];cases numsL f.dropLast with
 | none=>rfl
 | some n=>simp only[Option.bind_some];rw[hm];rfl
theorem eventL_len{f:List Bs}(h:f.length≠fieldsN k+1):eventL k f=none:=by
 cases e:eventL k f with
 | none=>rfl
 | some x =>
  exfalso;unfold eventL at e;cases b:f.getLast? with
  | none=>rw[b]at e;cases e
  | some z =>
   rw[b]at e;simp only[]at e;cases a:numsL f.dropLast with
   | none=>rw[a]at e;cases e
   | some n =>
    rw[a]at e;simp only[Option.bind_some]at e;cases hm:listL z with
    | none=>rw[hm]at e;cases e
    | some m =>
     rw[hm]at e;have h1:=numsOf_len e;have h2:=Wq a;rw[List.length_dropLast]at h2;have:f≠[]:=by rintro rfl;cases b
     have:=List.length_pos_iff.2 this;omega
theorem kinds_two:∀ k,k<7->(landB k||sinceB k)=true:=by decide
theorem numsOf_of{x0 x1 e:Nat}(f:k<7)(hlen:ns.length=fieldsN k)(h0:ns[0]?=some x0)(h1:ns[1]?=some x1)(d:ns[ns.length-1]?=some e) :
  numsOf k ns ms=some ⟨k,x0,if landB k then (x1:Int) else 0,ints ms,if sinceB k then (e:Int) else 0⟩:=by
 have h2:=kinds_two k f;unfold fieldsN at hlen;unfold numsOf;cases a:landB k<;>cases b:sinceB k<;>rw[a,b]at hlen h2
 ·cases h2
 all_goals
  match ns,hlen,h0,h1,d with
  | [_,_],c,h0,h1,d=>first|(simp at c;done)|(simp at h0 h1 d;subst h0 h1 d;rfl)
  | [_,_,_],c,h0,h1,d=>first|(simp at c;done)|(simp at h0 h1 d;subst h0 h1 d;rfl)
  | [],c,_,_,_=>simp at c
  | [_],c,_,_,_=>simp at c
  | _::_::_::_::_,c,_,_,_=>simp at c
theorem add_blk(a:Addr)(n:Nat):(a.add n).block=a.block:=by unfold Addr.add;split<;>rfl
end Go.TM.Tp
namespace Go.Y.Txt
open Go.TM.Tp Go.TM.Tr
attribute [local irreducible] T.wp CV FWK
variable {b:Nat}{h:Cells}{el:TypeId}{v w:Value}{X:XP}
theorem sl_other{c hB:Cells}{q:Option Addr}{k:Nat}{l:List Int}(s:Sl IntE 1 c q k l)(g:∀ a,q=some a->a.block≠b)(f:∀ r x,r≠b->c r=some x->hB r=some x):Sl IntE 1 hB q k l:=by
 refine⟨s.1,s.2.1,fun i x h=>?_⟩;obtain⟨a,d,e⟩:=s.2.2 i x h;refine⟨a,d,?_⟩;unfold IntE at e ⊢;refine cell?_same e fun y j=>f _ _ ?_ j;rw[add_blk,add_blk];exact g a d
theorem set_upd{r:Nat}:(h.upd r (true,.cells #[v] el (0,0))).setCell ⟨r,0,none⟩ w=h.upd r (true,.cells #[w] el (0,0)):=by
 funext q;unfold Cells.setCell Cells.upd;by_cases e:q=r
 ·subst e;simp
 ·simp[e]
theorem t_newBox{Q:Leaf->LH->Prop}{h:LH}{k:Nat->T}(hw:isOne w=true)(a:∀ r h2,h.le h2->h2.get.cell? ⟨r,0,none⟩=some w->(k r).wp X Tryz.prog Q h2) :
  (T.new el #[v] fun r=>T.store ((⟨r,0,none⟩ : Addr).add 0) w (k r)).wp X Tryz.prog Q h:=by
 refine Z5 fun r hr=>?_;rw[Yy];refine Go.TM.t_store (v₀:=v) hw ⟨_,Qk _ _ _⟩ (by unfold Cells.cell?;simp[Cells.upd]) (by unfold Cells.frozen?;simp[Cells.upd]) ?_;refine a r _ ⟨?_,rfl,rfl,rfl⟩ ?_
 ·show h.get.le ((h.get.upd r _).setCell _ _);rw[set_upd];exact J6 _ hr
 ·show ((h.get.upd r _).setCell _ _).cell? _=_;rw[set_upd];unfold Cells.cell?;simp[Cells.upd]
theorem upd_cell{j:Nat}{vs:List Value}(hv:vs[j]?=some v):(h.upd b (true,.cells vs.toArray el (0,0))).cell? ⟨b,j,none⟩=some v:=by
 unfold Cells.cell?;rw[Qk];simpa using hv
theorem BsS.take{h:LH}{p:Option Addr}{n c i:Nat}{l:List Bs}(s:BsS h p n c l)(b:i<=n):BsS h p i c (l.take i):=by
 refine⟨Nat.le_trans b s.1,?_,?_,fun j x a=>?_⟩
 ·rw[List.length_take];have:=s.2.1;omega
 ·rw[List.length_take];have:=s.2.2.1;omega
 ·rw[List.getElem?_take]at a;split at a
  ·exact s.2.2.2 j x a
  ·cases a
theorem landK_B:∀ k,k<7->Tre.landK k=landB k:=by decide
theorem sinceK_B:∀ k,k<7->Tre.sinceK k=sinceB k:=by decide
theorem fill_two(c d:Bool):Instr.fill (fun i=>some (i*1,1)) ((Array.range (2*1)).map ((Value.bool false).cells[·%(Value.bool false).cells.size]!)) #[(0,.bool c),(1,.bool d)].toList=some [Value.bool c,.bool d].toArray:=by
 cases c<;>cases d<;>kernel_rfl
set_option maxHeartbeats 1000000 in
theorem c3737{h₀:LH}{V:Value->Prop}(px:PX X V h₀){hB h':LH}{x:TF}{n:Nat}{f:TC}(S:RSt hB h' b (rdL x f n) f x.events)(hs:h₀.le hB)(hk:Tre.Kinds hB.get)(hw:KWords hB.get)(l:Bs)(hl:l.length<=2^18)(u5:x.events.length<=2^18)(hn:n<=2^18)(hv:lineT (n==0) l=none->V (wrongV ((n+1:Nat):Int))) :
  FW X Tryz.prog 70 #[.pointer (some ⟨b,0,none⟩),.string (str l)] h' fun r h''=>r=.tuple #[]/\∃ y p1 f',lineT (n==0) l=some y/\hB.le p1/\RSt p1 h'' b (rdL (y.put x) f' (n+1)) f' (y.put x).events:=by
 refine w3737 px.ok ?_;have g7:h'.get.cell? ((⟨b,0,none⟩ : Addr).add 7)=some (.int .i64 (n:Int)):=by rw[Qa];exact S.at (j:=0+7) rfl
 refine gZ ?_;refine Dx S 7 (by rw[Qa,Qa]) (by simp[rdL]) rfl fun h1 S1=>?_;rw[show wrap .i64 ((n:Int)+1)=((n+1:Nat):Int) by rw[Qo (by omega) (by omega)];rfl]at S1;have S1:RSt hB h1 b (rdL x f (n+1)) f x.events:=S1;refine t_pu (c3744 l 58 (by omega)) ?_;refine gZ ?_;refine Qx ?_;refine gZ ?_;refine Qx ?_;refine gZ ?_;have n1:h₀.le h1:=LH.le_trans hs S1.le;have l6:=Uo 59 (trimS 59 (cutV 58 l).2.1);obtain⟨j5,k5⟩:=cutV_len 58 l;have tl:=trimS_len 59 (cutV 58 l).2.1;have k0:¬ ((cutV 58 l).2.2=true/\(cutV 58 l).2.1.getLast?=some 59)->V (wrongV ((n+1:Nat):Int)):=fun h=>hv (by rw[Dl];unfold fieldsP;rw[if_neg h];rfl);have s:(cutV 58 l).2.2=true->(cutV 58 l).2.1.getLast?=some 59->lineG (n==0) (cutV 58 l).1 (cut 59 (trimS 59 (cutV 58 l).2.1))=none->V (wrongV ((n+1:Nat):Int)):=fun h1 h2 h=>hv (by rw[Dl];unfold fieldsP;rw[if_pos ⟨h1,h2⟩];exact h);have good:(cutV 58 l).2.2=true->(cutV 58 l).2.1.getLast?=some 59->∀ {y},lineG (n==0) (cutV 58 l).1 (cut 59 (trimS 59 (cutV 58 l).2.1))=some y->lineT (n==0) l=some y:=fun h1 h2 y h=>by rw[Dl];unfold fieldsP;rw[if_pos ⟨h1,h2⟩];exact h
 refine t_newBox (v:=.string ⟨#[]⟩) rfl fun z h2 t gz=>?_;refine t_pu (c3745 _ 59 (by omega)) ?_;refine gZ ?_;refine Qx ?_;refine gZ ?_;generalize (cutV 58 l).1=w at *;generalize (cutV 58 l).2.1=r0 at *;generalize (cutV 58 l).2.2=ok at *;have small:∀ x∈cut 59 (trimS 59 r0),x.length<=2^18:=fun x hx=>by have:=Gs hx;omega
 generalize s3:cut 59 (trimS 59 r0)=F at *;have S2:=S1.up t;have pn:∀ {hX:LH},h1.le hX->PN X h₀ hX V ⟨b,0,none⟩ ((n+1:Nat):Int):=fun hl=>⟨px,LH.le_trans n1 hl,by
  show Cells.cell? _ _=_;rw[Qa];exact(S1.up hl).at (j:=0+7) rfl⟩
 have e1:(((n+1:Nat):Int)==1)=(n==0):=by
  by_cases h:n=0
  ·subst h;rfl
  ·have:(n==0)=false:=by simpa using h
   rw[this];simp;omega
 have g7:h2.get.cell? ((⟨b,0,none⟩ : Addr).add 7)=some (.int .i64 ((n+1:Nat):Int)):=by rw[Qa];exact S2.at (j:=0+7) rfl
 refine Jk (fun vs h'=>vs=[]/\h'=h2/\ok=true/\r0.getLast?=some 59/\decide (w=wTreaty)=(n==0)) ?_ ?_
 ·refine Qt (fun e=>?_) (fun e=>?_)
  ·refine Qt (fun I=>?_) (fun I=>?_)
   ·have g:r0.getLast?=some 59:=by simpa using I
    refine Je gz ?_;refine gZ ?_;refine Db (b:=wTreaty) undS ?_;subst e;refine gZ ?_;refine Kj (pn t) (fun e3=>?_) (fun e3=>?_)
    ·refine s rfl g ?_;unfold lineG;rw[if_pos];intro h3;rw[e1,h3]at e3;simp at e3
    ·refine gZ ?_;refine Qj ⟨rfl,rfl,rfl,g,?_⟩;rw[e1]at e3;simpa using e3
   ·have hb:V (wrongV ((n+1:Nat):Int)):=k0 fun h=>by rw[decide_eq_true h.2]at I;cases I
    subst e;refine Wo ?_ ?_
    ·refine gZ ?_;exact Kj (pn t) (fun _=>hb) (fun e=>by cases e)
    ·refine gZ ?_;exact Kj (pn t) (fun _=>hb) (fun e=>by cases e)
  ·have hb:V (wrongV ((n+1:Nat):Int)):=k0 fun h=>by rw[h.1]at e;cases e
   subst e;refine Wo ?_ ?_
   ·refine gZ ?_;exact Kj (pn t) (fun _=>hb) (fun e=>by cases e)
   ·refine gZ ?_;exact Kj (pn t) (fun _=>hb) (fun e=>by cases e)
 rintro vs _ ⟨rfl,rfl,C,g,N⟩;refine gZ ?_;refine t_grB (hB:=hB) S2.le (c3746 (trimS 59 r0) 59 (by omega)) ?_;rintro _ q0 h3 E H P m3 ⟨p,m,k,rfl,sf⟩;rw[s3]at sf;have S3:=S2.rebase E H P m3;have D:h1.le h3:=LH.le_trans t P;have hm:=sf.2.1;have g7:h3.get.cell? ((⟨b,0,none⟩ : Addr).add 7)=some (.int .i64 ((n+1:Nat):Int)):=by rw[Qa];exact S3.at (j:=0+7) rfl
 have gz:=gz;refine gZ ?_;rw[e1]
 -- numbers e5 read, beside z4 rows b5 grow
 have W:∀ {Q:Leaf->LH->Prop} {K:Value->T} {hC h4:LH} {p:Option Addr} {m k:Nat} {gs:List Bs},q0.le hC->RSt hC h4 b (rdL x f (n+1)) f x.events->h1.le h4->BsS hC p m k gs->gs.length<=2^20->(∀ x∈gs,x.length<=2^20)->(numsL gs=none->V (wrongV ((n+1:Nat):Int))) ->
   (∀ ns q d e u h5,numsL gs=some ns->hC.le u->RSt u h5 b (rdL x f (n+1)) f x.events->h4.le h5->InS u q d e (ints ns)->(K (.slice q d e)).wp X Tryz.prog Q h5) ->
   (T.call false 127 #[.pointer (some ⟨b,0,none⟩),.slice p m k] K).wp X Tryz.prog Q h4:=by
  intro Q K hC h4 p m k gs lC S4 a6 sg v3 u3 x3 hK;obtain⟨lR,j2⟩:=S4.withR;refine t_grX px.ok lR (c3761 (h₀:=h₀) (V:=V) (ln:=((n+1:Nat):Int)) ⟨px,?_,?_⟩ (sg.le j2) v3 u3 x3) ?_
  ·exact LH.le_trans hs (LH.le_trans E (LH.le_trans lC j2))
  ·show Cells.cell? _ _=_;rw[Qa];exact upd_cell rfl
  rintro _ s5 h5 o2 n2 e0 hd ⟨ns,B,q,d,e,rfl,sI,nw⟩;obtain⟨u,l2,Z,keep⟩:=S4.back o2 n2 e0 hd;refine hK ns q d e u h5 B l2 Z e0 ⟨sI.1,sl_other sI.2 (fun a ha s0=>?_) keep⟩;have:=nw a ha;rw[s0]at this;rw[show ({ hC with get:=hC.get.upd b (true,.cells (rdL x f (n+1)).toArray 141 (0,0)) }:LH).get b=_ from Qk _ _ _]at this;cases this
 refine Qt (fun e=>?_) (fun e=>?_)
 ·-- z4 first line
  have n0:n=0:=by simpa using e
  rw[e]at N;have y5:w=wTreaty:=by simpa using N
  have J:lineG (n==0) w F=match numsL F with|some [a,b,c,d,e,f]=>some (.head a b c d e f)|_=>none:=by
   unfold lineG;rw[N,e];rfl
  refine Kj (pn D) (fun e6=>s C g ?_) fun e6=>?_
  ·rw[J];cases B:numsL F with
   | none=>rfl
   | some ns =>
    have hlen:=Wq B;have:ns.length≠6:=by intro h6;rw[hlen,<- hm]at h6;simp[h6]at e6
    match ns,this with
    | [],_ | [_],_ | [_,_],_ | [_,_,_],_ | [_,_,_,_],_ | [_,_,_,_,_],_|_::_::_::_::_::_::_::_,_=>rfl
    | [_,_,_,_,_,_],h=>exact absurd rfl h
  have m6:m=6:=by
   have:(m:Int)=6:=by simpa using e6
   omega
  refine gZ ?_;refine W (LH.le_refl _) S3 D sf (by omega) (fun x hx=>by have:=small x hx;omega) (fun h0=>s C g (by rw[J,h0])) ?_;intro ns q d e' u h5 B lC Z b6 sI;have hlen:=Wq B;obtain⟨a0,a1,a2,a3,a4,a5,rfl⟩ : ∃ a0 a1 a2 a3 a4 a5,ns=[a0,a1,a2,a3,a4,a5]:=by
   have:ns.length=6:=by rw[hlen,<- hm,m6]
   match ns,this with
   | [a0,a1,a2,a3,a4,a5],_=>exact⟨a0,a1,a2,a3,a4,a5,rfl⟩
  have o3:d=6:=sI.2.1;subst o3;have A:=sI.le Z.le;obtain⟨qa,rfl,i0⟩:=A.at (i:=0) (x:=(a0:Int)) rfl;obtain⟨_,g1,i1⟩:=A.at (i:=1) (x:=(a1:Int)) rfl;obtain⟨_,z3,i2⟩:=A.at (i:=2) (x:=(a2:Int)) rfl;obtain⟨_,b4,i3⟩:=A.at (i:=3) (x:=(a3:Int)) rfl;obtain⟨_,e4,i4⟩:=A.at (i:=4) (x:=(a4:Int)) rfl;obtain⟨_,j4,i5⟩:=A.at (i:=5) (x:=(a5:Int)) rfl;cases g1;cases z3;cases b4;cases e4;cases j4;rw[Nat.mul_one]at i0 i1 i2 i3 i4 i5;refine gZ ?_;have pa:∀ j,(((⟨b,0,none⟩ : Addr).add 0).add j)=⟨b,j,none⟩:=fun j=>by rw[Qa,Qa];simp
  refine Dx Z 0 (pa 0) (by simp[rdL]) rfl fun h6 S6=>?_;refine Dx S6 1 (pa 1) (by simp[rdL]) rfl fun h7 S7=>?_;refine Dx S7 2 (pa 2) (by simp[rdL]) rfl fun h8 S8=>?_;refine Dx S8 3 (pa 3) (by simp[rdL]) rfl fun h9 S9=>?_;refine Dx S9 4 (pa 4) (by simp[rdL]) rfl fun g3 o0=>?_;refine Dx o0 5 (pa 5) (by simp[rdL]) rfl fun l5 z2=>?_;refine Dx z2 6 (pa 6) (by simp[rdL]) rfl fun m5 p0=>?_;refine gZ ?_;refine Qn ⟨rfl,.head a0 a1 a2 a3 a4 a5,u,⟨none,0,0⟩,good C g (by rw[J,B]),LH.le_trans E lC,⟨p0.le,p0.new,p0.cell,Growing.nil⟩⟩
 ·-- an event
  rw[e]at N;have J:lineG (n==0) w F=(findB w wordsT).bind fun k=>(eventL k F).map .event:=by
   unfold lineG;rw[N,e];rfl
  have q1:hB.le h3:=LH.le_trans E H;have y0:=hk.le q1.1;have m4:=hw.le q1.1;refine sliceKinds ?_;refine gZ ?_;refine t_pu (c3762 y0 m4 (Qm P.1 gz)) ?_;cases u0:findB w wordsT with
  | none =>
   refine gZ ?_;exact Kj (pn D) (fun _=>s C g (by rw[J,u0];rfl)) (fun e=>absurd e (by decide))
  | some kk =>
  have k7:kk<7:=findB_lt u0;rw[u0]at J;have J:lineG (n==0) w F=(eventL kk F).map .event:=J;refine gZ ?_;refine Kj (pn D) (fun e=>absurd e (by simp)) fun _=>?_;have w5:0<=(kk:Int)/\(kk:Int)<7:=by omega
  have gl:=y0.landAt k7;have gs:=y0.sinceAt k7;refine gZ ?_;rw[landK_B kk k7,sinceK_B kk k7];refine Zu [.bool (landB kk),.bool (sinceB kk)] Tre.undBs Tre.inf4 (by decide) (by decide) (fill_two _ _) ?_;intro rb h4 R _ gr;have O:=LH.le_trans D R;have S4:=S3.up R;have k6:=sf.le (LH.le_trans H R);refine gZ ?_;refine Kc (fun mm vs h'=>h4=h'/\∃ i:Nat,vs=[.int .i64 ((2+(if 1<=i/\landB kk=true then 1 else 0)+(if 2<=i/\sinceB kk=true then 1 else 0):Nat):Int),.int .i64 i]/\i<=2/\mm=2-i) (fun vs h'=>h4=h'/\∃ i:Int,vs=[.int .i64 ((fieldsN kk+1:Nat):Int),.int .i64 i]) ⟨rfl,0,rfl,by omega,rfl⟩ ?_ ?_
  ·rintro Y mm vs _ hY ⟨rfl,i,rfl,hi,rfl⟩;refine yJ (fun ei=>?_) (fun ei=>?_)
   ·have w0:i<2:=by omega
    match i,w0 with
    | 0,_ =>
     have g0:h4.get.cell? (Addr.add ⟨rb,0,none⟩ (((0:Nat):Int).toNat*1))=some (.bool (landB kk)):=gr 0 _ rfl;have y1:0<=((0:Nat):Int)/\((0:Nat):Int)<((2:Nat):Int):=by omega
     refine yI (fun G=>?_) (fun G=>?_)
     ·refine Qj (hY 1 _ _ (by omega) ⟨rfl,1,?_,by omega,rfl⟩);rw[if_neg (by omega),if_neg (by omega),if_pos ⟨by omega,G⟩,if_neg (by omega),Qo (by omega) (by omega),Qo (by omega) (by omega)];rfl
     ·refine Qj (hY 1 _ _ (by omega) ⟨rfl,1,?_,by omega,rfl⟩);rw[if_neg (by omega),if_neg (by omega),if_neg (by simp[G]),if_neg (by omega),Qo (by omega) (by omega)];rfl
    | 1,_ =>
     have g0:h4.get.cell? (Addr.add ⟨rb,0,none⟩ (((1:Nat):Int).toNat*1))=some (.bool (sinceB kk)):=gr 1 _ rfl;have y1:0<=((1:Nat):Int)/\((1:Nat):Int)<((2:Nat):Int):=by omega
     refine yI (fun G=>?_) (fun G=>?_)
     ·refine Qj (hY 0 _ _ (by omega) ⟨rfl,2,?_,by omega,rfl⟩);rw[if_neg (show ¬ (2<=1/\sinceB kk=true) by omega),if_pos (show 2<=2/\sinceB kk=true from ⟨by omega,G⟩),Qo (by split<;>omega) (by split<;>omega),Qo (by omega) (by omega)];cases landB kk<;>rfl
     ·refine Qj (hY 0 _ _ (by omega) ⟨rfl,2,?_,by omega,rfl⟩);rw[if_neg (show ¬ (2<=1/\sinceB kk=true) by omega),if_neg (show ¬ (2<=2/\sinceB kk=true) by simp[G]),Qo (by omega) (by omega)];cases landB kk<;>rfl
   ·have w0:i=2:=by omega
    subst w0;refine gH ⟨rfl,((2:Nat):Int),?_⟩;unfold fieldsN;cases landB kk<;>cases sinceB kk<;>rfl
  rintro vs _ ⟨rfl,i,rfl⟩;refine gZ ?_;refine Kj (pn O) (fun ef=>s C g ?_) fun ef=>?_
  ·rw[J,eventL_len]
   ·rfl
   ·intro hc;rw[<- hc,<- hm]at ef;simp at ef
  have y3:m=fieldsN kk+1:=by
   have:(m:Int)=((fieldsN kk+1:Nat):Int):=by simpa using ef
   omega
  have q5:2<=fieldsN kk/\fieldsN kk<=3:=by
   have:=kinds_two kk k7;unfold fieldsN;revert this;cases landB kk<;>cases sinceB kk<;>simp
  refine gZ ?_;have eM:wrap .i64 (((fieldsN kk+1:Nat):Int)-1)=(fieldsN kk:Int):=by rw[Qo (by omega) (by omega)];omega
  rw[eM];have x5:=sf.1;refine W1 undSs infS (i:=fieldsN kk) (by omega) ?_;refine gZ ?_;have q3:F.dropLast=F.take (fieldsN kk):=by rw[List.dropLast_eq_take,<- hm,y3];rfl
  have sP:BsS q0 p (fieldsN kk) k F.dropLast:=by rw[q3];exact BsS.take sf (by omega)
  refine W (LH.le_refl _) S4 O sP (by rw[List.length_dropLast];omega) (fun x hx=>by have:=small x (List.dropLast_subset _ hx);omega) (fun h0=>s C g (by rw[J,eventL_none1 h0];rfl)) ?_;intro ns q d e' u h5 B lC Z e0 sI;have hlen:ns.length=fieldsN kk:=by have:=Wq B;rw[List.length_dropLast]at this;omega
  have hd:d=fieldsN kk:=by have:=sI.2.1;unfold ints at this;rw[List.length_map]at this;omega
  have A:=sI.le Z.le;have j1:=List.getElem?_eq_getElem (show 0<ns.length by omega);have l1:=List.getElem?_eq_getElem (show 1<ns.length by omega);have m1:=List.getElem?_eq_getElem (show ns.length-1<ns.length by omega);generalize ns[0]=x0 at j1;generalize ns[1]=x1 at l1;generalize ns[ns.length-1]=xL at m1;have up:∀ {i y:Nat},ns[i]?=some y->(ints ns)[i]?=some (y:Int):=fun h=>by unfold ints;rw[List.getElem?_map,h];rfl
  obtain⟨qa,rfl,i0⟩:=A.at (up j1);obtain⟨_,g1,i1⟩:=A.at (up l1);obtain⟨_,k4,iL⟩:=A.at (up m1);cases g1;cases k4;rw[Nat.mul_one]at i0 i1;have b0:(0:Int)<=0/\(0:Int)<(d:Int):=by omega
  have b1:(0:Int)<=1/\(1:Int)<(d:Int):=by omega
  refine gZ ?_;have eD:wrap .i64 ((d:Int)-1)=((ns.length-1:Nat):Int):=by rw[Qo (by omega) (by omega)];omega
  rw[eD];have bL:0<=((ns.length-1:Nat):Int)/\((ns.length-1:Nat):Int)<(d:Int):=by omega
  have z5:h5.get.cell? (qa.add (((ns.length-1:Nat):Int).toNat*1))=some (.int .i64 (xL:Int)):=iL;refine Jk (fun vs h'=>h5=h'/\vs=[.int .i64 (kk:Int),.int .i64 (x0:Int),.int .i64 (if landB kk then (x1:Int) else 0),.slice none 0 0,.int .i64 0]) ?_ ?_
  ·refine Qt (fun G=>?_) (fun G=>?_)
   ·refine gZ ?_;refine Qj ⟨rfl,?_⟩;rw[G];rfl
   ·refine Qj ⟨rfl,?_⟩;rw[G];rfl
  rintro vs _ ⟨rfl,rfl⟩;refine gZ ?_;refine Jk (fun vs h'=>h5=h'/\vs=[.int .i64 (kk:Int),.int .i64 (x0:Int),.int .i64 (if landB kk then (x1:Int) else 0),.slice none 0 0,.int .i64 (if sinceB kk then (xL:Int) else 0)]) ?_ ?_
  ·refine Qt (fun G=>?_) (fun G=>?_)
   ·refine gZ ?_;refine Qj ⟨rfl,?_⟩;rw[G];rfl
   ·refine Qj ⟨rfl,?_⟩;rw[G];rfl
  rintro vs _ ⟨rfl,rfl⟩;refine gZ ?_;generalize k3:(if landB kk then (x1:Int) else 0)=Ld;generalize l3:(if sinceB kk then (xL:Int) else 0)=Sn;have l0:fieldsN kk<F.length:=by omega
  have hz:=List.getElem?_eq_getElem l0;have z1:=List.getElem_mem l0;generalize F[fieldsN kk]=zz at hz z1;have L:F.getLast?=some zz:=by rw[List.getLast?_eq_getElem?,show F.length-1=fieldsN kk by omega];exact hz
  have y2:=small zz z1;obtain⟨pz,rfl,b3⟩:=BsS.at (BsS.le (LH.le_trans lC Z.le) sf) hz;have bz:0<=(fieldsN kk:Int)/\(fieldsN kk:Int)<(m:Int):=by omega
  have o1:h5.get.cell? (pz.add ((fieldsN kk:Int).toNat*1))=some (.string (str zz)):=b3;have u2:=LH.le_trans O e0;refine Jk (fun vs h'=>∃ (q2:Option Addr) (d2 I:Nat) (hD:LH) (ms:List Nat),vs=[.int .i64 (kk:Int),.int .i64 (x0:Int),.int .i64 Ld,.slice q2 d2 I,.int .i64 Sn]/\q0.le hD/\RSt hD h' b (rdL x f (n+1)) f x.events/\InS hD q2 d2 I (ints ms)/\listL zz=some ms) ?_ ?_
  ·refine gZ ?_;refine Je o1 ?_;refine t_neB (b:=[]) undS ?_;refine yI (fun ez=>?_) (fun ez=>?_)
   ·have g2:zz≠[]:=by simpa using ez
    have M:listL zz=numsL (cut 44 zz):=by unfold listL;rw[if_neg g2]
    have tz:=Uo 44 zz;refine t_grB (hB:=u) Z.le (c3746 zz 44 (by omega)) ?_;rintro _ o5 h6 U x2 m0 n3 ⟨p2,m2,k2,rfl,s2⟩;have S6:=Z.rebase U x2 m0 n3;refine gZ ?_;refine W (LH.le_trans lC U) S6 (LH.le_trans u2 m0) s2 (by omega) (fun x hx=>by have:=Gs hx;omega) (fun h0=>s C g (by rw[J,eventL_none2 L (by rw[M,h0])];rfl)) ?_;intro ms q2 d2 I j3 h7 z0 s4 S7 j6 j0;refine gZ ?_;refine Qj ⟨q2,d2,I,j3,ms,rfl,LH.le_trans lC (LH.le_trans U s4),S7,j0,by rw[M,z0]⟩
   ·have o4:zz=[]:=by simpa using ez
    subst o4;refine Qj ⟨none,0,0,u,[],rfl,lC,Z,InS.nil,rfl⟩
  rintro vs h7 ⟨q2,d2,I,hD,ms,rfl,lD,S7,j0,z0⟩;have u1:eventL kk F=some ⟨kk,x0,Ld,ints ms,Sn⟩:=by rw[eventL_of L B z0,numsOf_of k7 hlen j1 l1 m1,k3,l3]
  have y4:lineG (n==0) w F=some (.event ⟨kk,x0,Ld,ints ms,Sn⟩):=by rw[J,u1];rfl
  have pa:∀ j,(((⟨b,0,none⟩ : Addr).add 0).add j)=⟨b,j,none⟩:=fun j=>by rw[Qa,Qa];simp
  have g6:h7.get.cell? (((⟨b,0,none⟩ : Addr).add 0).add 6)=some (.slice f.p f.n f.c):=by rw[pa];exact S7.at rfl
  have v5:=S7.ev.count EventEnc.len (by omega);refine gZ ?_;refine Zu [.int .i64 (kk:Int),.int .i64 (x0:Int),.int .i64 Ld,.slice q2 d2 I,.int .i64 Sn] Tre.undEvs Tre.infEv (by decide) (by decide) (by kernel_rfl) ?_;intro r8 h8 u4 _ l4;have S8:=S7.up u4;have g6:h8.get.cell? (((⟨b,0,none⟩ : Addr).add 0).add 6)=some (.slice f.p f.n f.c):=by rw[pa];exact S8.at rfl
  refine gZ ?_;refine D1 (h₀:=hD) (Enc:=EventEnc hD.get) (⟨kk,x0,Ld,ints ms,Sn⟩ : Ev) [.int .i64 (kk:Int),.int .i64 (x0:Int),.int .i64 Ld,.slice q2 d2 I,.int .i64 Sn] rfl rfl Tre.undEvs Tre.infEv rfl (by omega) (by omega) S8.ev S8.le ⟨q2,d2,I,rfl,j0.1,j0.2⟩ rfl l4 (by intro w hw;simp at hw;rcases hw with rfl|rfl|rfl|rfl|rfl<;>rfl) ?_;intro p' c' h9 x4 q4 g9;have S9:RSt hD h9 b (rdL x f (n+1)) ⟨p',f.n+1,c'⟩ (x.events++[⟨kk,x0,Ld,ints ms,Sn⟩]):=⟨x4,S8.new,q4 b _ (fun a ha s0=>by
   obtain⟨ws,o,_⟩:=S8.ev.row;rcases o.2 with⟨h1,_⟩|⟨b2,cs,h1,h3,_⟩
   ·rw[h1]at ha;cases ha
   ·rw[h1]at ha;cases ha;rw[show b2=b from s0,S8.cell]at h3;cases h3) S8.cell,g9⟩
  refine gZ ?_;refine Dx S9 6 (by rw[pa,Qa]) (by simp[rdL]) rfl fun g3 o0=>?_;refine gZ ?_;exact Qn ⟨rfl,.event ⟨kk,x0,Ld,ints ms,Sn⟩,hD,⟨p',f.n+1,c'⟩,good C g y4,LH.le_trans E lD,o0⟩
end Go.Y.Txt
end
section
namespace Go.Y.Txt
open Go.TM.Tp
noncomputable section
def sA:Code->Code | .seq a _=>a|c=>c
def sB:Code->Code | .seq _ b=>b|c=>c
def sOps:Code->Array Oper | .region _ o _=>o|_=>#[]
def sAsq:Code->Code | .block _ (.rangeFunc _ _ a _)=>a|c=>c
def sBd:Code->Code | .block _ (.rangeFunc _ _ _ b)=>b|c=>c
def We:Code:=(Tryz.f18.body).getD .skip
def pr0:=sOps (sA We)
def pB:=sA (sB We)
def pr3:=sOps (sA (sB (sB We)))
def pr4:=sOps (sA (sB (sB (sB We))))
def pL:=sA (sB (sB (sB (sB We))))
def pPost:=sB (sB (sB (sB (sB We))))
def pr5:=sOps (sA pL)
def pAsq:=sAsq (sB pL)
def pBd:=sBd (sB pL)
def pRest:Code:=sB ((Tryz.f69.body).getD .skip)
def pC:Ctx:={ P:=Tryz.prog,priv:=[5],loops:=[{ id:=0,slots:=[],ro:=[5],outs:=[],ps:=[.cell .str] }],joins:=[],kd:=.normal }
variable {Q:Value->LH->Prop}{t:ByteArray}{r r1 r2 r3:Nat}{n:Int}{v:Value}
theorem parse_catch{t:Bs}{h:LH}(a:(catchT pC [] [] Tryz.f18 Tryz.f69 69 6 0 1 pr0 pr3 pr4 pr5 pB pRest pAsq pBd pPost #[17] (.tmp 16) (.tmp 14) Q [.string (str t)]).wp XT Tryz.prog (Qc Q) h):FW XT Tryz.prog 18 #[.string (str t)] h Q :=
 fw_catch (C:=pC) (fd:=Tryz.f18) (fg:=Tryz.f69) (g:=69) (i0:=0) (i3:=3) (i4:=4) (i5:=5) (id:=0) (n4:=1) (ig:=0) (d:=6) (r0:=pr0) (r3:=pr3) (r4:=pr4) (r5:=pr5) (B:=pB) (post:=pPost) (asq:=pAsq) (bd:=pBd) (restg:=pRest) (ps:=#[17]) (fo:=.tmp 16) (x:=.tmp 14) (args:=[.string (str t)])
  rfl (by kernel_rfl) (by kernel_rfl) (by kernel_rfl) (by kernel_rfl) (od:=pr4[1]!) (by kernel_rfl) (ats:=#[]) (by kernel_rfl) (by kernel_rfl) (fun _=>by kernel_rfl) (by kernel_rfl) (by kernel_rfl) (og:=(sOps (sA ((Tryz.f69.body).getD .skip)))[0]!) (by kernel_rfl) (atg:=#[]) (by kernel_rfl) (by kernel_rfl) (fun _=>by kernel_rfl) (by kernel_rfl) (by kernel_rfl) a
def readT(r r1 r2:Nat):T:=.loadI .i64 (Addr.add ⟨r,0,none⟩ 0) fun a=>.loadI .i64 (Addr.add ⟨r,0,none⟩ 1) fun b=>.loadI .i64 (Addr.add ⟨r,0,none⟩ 2) fun c=>.loadI .i64 (Addr.add ⟨r,0,none⟩ 3) fun d=>.loadI .i64 (Addr.add ⟨r,0,none⟩ 4) fun e=>.loadI .i64 (Addr.add ⟨r,0,none⟩ 5) fun f=>.loadS (Addr.add ⟨r,0,none⟩ 6) fun p n k =>
 .loadI .i64 ⟨r1,0,none⟩ fun l=>.loadI .i64 ⟨r2,0,none⟩ fun w=>.leaf (.ret (.tuple #[.agg #[.int .i64 a,.int .i64 b,.int .i64 c,.int .i64 d,.int .i64 e,.int .i64 f,.slice p n k],.int .i64 l,.int .i64 w]))
def zeroT(r r1 r2:Nat)(l w:Int)(k:T):T:=.store (Addr.add ⟨r,0,none⟩ 0) (.int .i64 0) (.store (Addr.add ⟨r,0,none⟩ 1) (.int .i64 0) (.store (Addr.add ⟨r,0,none⟩ 2) (.int .i64 0) (.store (Addr.add ⟨r,0,none⟩ 3) (.int .i64 0) (.store (Addr.add ⟨r,0,none⟩ 4) (.int .i64 0) (.store (Addr.add ⟨r,0,none⟩ 5) (.int .i64 0) (.store (Addr.add ⟨r,0,none⟩ 6) (.slice none 0 0)
 (.store (Addr.add ⟨r1,0,none⟩ 0) (.int .i64 l) (.store (Addr.add ⟨r2,0,none⟩ 0) (.int .i64 w) k))))))))
def zeroF:Array Value:=#[.int .i64 0,.int .i64 0,.int .i64 0,.int .i64 0,.int .i64 0,.int .i64 0,.slice none 0 0]
def zeroR:Array Value:=#[.int .i64 0,.int .i64 0,.int .i64 0,.int .i64 0,.int .i64 0,.int .i64 0,.slice none 0 0,.int .i64 0]
def cloV(r r1 r2:Nat):Value:=.func (.func 69) #[] #[.pointer (some ⟨r,0,none⟩),.pointer (some ⟨r1,0,none⟩),.pointer (some ⟨r2,0,none⟩)]
def pEnv(t:ByteArray)(r r1 r2 r3:Nat)(n:Int)(v:Value):Env :=
  [(16,.val v),(15,.val (.string t)),(14,.val (cloV r r1 r2)),(24576,.val (.pointer (some ⟨r3,0,none⟩))),(5,.pp 5 0),(24576,.val (.pointer none)),(13,.val (.pointer (some ⟨r3,0,none⟩))),(12,.val (.agg zeroR)),(10,.val (.bool (decide (n>60000)))),(9,.val (.int .i64 n)),(8,.val (.string t)),
   (4,.val (.pointer (some ⟨r2,0,none⟩))),(3,.val (.pointer (some ⟨r1,0,none⟩))),(2,.val (.pointer (some ⟨r,0,none⟩))),(0,.val (.string t))]
theorem parse_tree:catchT pC [] [] Tryz.f18 Tryz.f69 69 6 0 1 pr0 pr3 pr4 pr5 pB pRest pAsq pBd pPost #[17] (.tmp 16) (.tmp 14) Q [.string t] =
  T.new 38 zeroF fun r=>.new 3 #[.int .i64 0] fun r1=>.new 29 #[.int .i64 0] fun r2=>.sem false (Builtin.len_ #[9] 3 #[.string t]) fun v=>T.unI .i64 v fun n=>bif decide (n>60000) then zeroT r r1 r2 0 2 (readT r r1 r2)
   else .new 141 zeroR fun r3=>.mem (fun _=>∃ cap:List Value,cloV r r1 r2=.func (.func 69) #[] cap.toArray) (.call false 47 #[.string t] fun v =>
    .mem (fromLoop pC [] [] Tryz.f18 Tryz.f69 69 6 0 pRest pAsq pBd pPost #[17] (.tmp 16) Q (pEnv t r r1 r2 r3 n v) (cloV r r1 r2)) (.leaf (.again []))):=by
 kernel_rfl
def pE2(t:ByteArray)(r r1 r2 r3:Nat)(n:Int)(v:Value):Env:=stays (wrOf #[17] pAsq pBd) (appL [5] []) (pEnv t r r1 r2 r3 n v)
theorem each_tree{a:LExit->Env->T}:rfT pC 0 (.tmp 16) #[17] pAsq pBd (pEnv t r r1 r2 r3 n v) a =
  T.each v [] (fun xs vs=>T.unCons xs fun w b=>T.unStr w fun s=>T.unNil b (T.unNil vs (.call false 49 #[.string s,.string ⟨#[10]⟩] fun w=>T.unStr w fun s=>T.nd (.pointer (some ⟨r3,0,none⟩)) (.call false 70 #[.pointer (some ⟨r3,0,none⟩),.string s] fun w=>T.unTup w fun l=>T.unNil l (.leaf (.again []))))))
   (fun vs=>T.unNil vs (a .fall (pE2 t r r1 r2 r3 n v))) (fun vs=>T.unNil vs (a .fall (pE2 t r r1 r2 r3 n v))) (fun vs=>T.unNil vs (a .ret (pE2 t r r1 r2 r3 n v))) (outT (fun j vs=>T.unNil vs (a (.exit j) (pE2 t r r1 r2 r3 n v))) []):=by
 kernel_rfl
def putT(r r1 r2:Nat)(a b c d e f:Int)(p:Option Addr)(m k:Nat)(K:T):T:=.store (Addr.add ⟨r,0,none⟩ 0) (.int .i64 a) (.store (Addr.add ⟨r,0,none⟩ 1) (.int .i64 b) (.store (Addr.add ⟨r,0,none⟩ 2) (.int .i64 c) (.store (Addr.add ⟨r,0,none⟩ 3) (.int .i64 d) (.store (Addr.add ⟨r,0,none⟩ 4) (.int .i64 e) (.store (Addr.add ⟨r,0,none⟩ 5) (.int .i64 f) (.store (Addr.add ⟨r,0,none⟩ 6) (.slice p m k)
 (.store (Addr.add ⟨r1,0,none⟩ 0) (.int .i64 0) (.store (Addr.add ⟨r2,0,none⟩ 0) (.int .i64 0) K))))))))
def loadT(r3:Nat)(K:Int->Int->Int->Int->Int->Int->Option Addr->Nat->Nat->T):T:=.someA (some ⟨r3,0,none⟩) fun a=>.loadI .i64 ((a.add 0).add 0) fun x0=>.loadI .i64 ((a.add 0).add 1) fun x1=>.loadI .i64 ((a.add 0).add 2) fun x2=>.loadI .i64 ((a.add 0).add 3) fun x3=>.loadI .i64 ((a.add 0).add 4) fun x4=>.loadI .i64 ((a.add 0).add 5) fun x5=>.loadS ((a.add 0).add 6) fun p m k=>K x0 x1 x2 x3 x4 x5 p m k
theorem post_tree{K:Option AV->Option AV->Option AV->LH->Prop}:postT pC pPost (fun e=>K (slotA e 2) (slotA e 3) (slotA e 4)) .fall (pE2 t r r1 r2 r3 n v) =
  T.someA (some ⟨r3,0,none⟩) fun a=>.loadI .i64 (a.add 7) fun m=>bif m==0 then zeroT r r1 r2 0 3 (.mem (K (some (.val (.pointer (some ⟨r,0,none⟩)))) (some (.val (.pointer (some ⟨r1,0,none⟩)))) (some (.val (.pointer (some ⟨r2,0,none⟩))))) (.leaf (.ret undef)))
   else loadT r3 fun x0 x1 x2 x3 x4 x5 p m k=>.call false 64 #[.agg #[.int .i64 x0,.int .i64 x1,.int .i64 x2,.int .i64 x3,.int .i64 x4,.int .i64 x5,.slice p m k]] fun v=>T.unI .i64 v fun w =>
    bif w != 0 then zeroT r r1 r2 0 w (.mem (K (some (.val (.pointer (some ⟨r,0,none⟩)))) (some (.val (.pointer (some ⟨r1,0,none⟩)))) (some (.val (.pointer (some ⟨r2,0,none⟩))))) (.leaf (.ret undef)))
    else loadT r3 fun x0 x1 x2 x3 x4 x5 p m k=>putT r r1 r2 x0 x1 x2 x3 x4 x5 p m k (.mem (K (some (.val (.pointer (some ⟨r,0,none⟩)))) (some (.val (.pointer (some ⟨r1,0,none⟩)))) (some (.val (.pointer (some ⟨r2,0,none⟩))))) (.leaf (.ret undef))):=by
 kernel_rfl
theorem res_tree{e:Env}(h2:slotA e 2=some (.val (.pointer (some ⟨r,0,none⟩))))(h3:slotA e 3=some (.val (.pointer (some ⟨r1,0,none⟩))))(c:slotA e 4=some (.val (.pointer (some ⟨r2,0,none⟩)))):resT pC e Tryz.f18.results.toList retL=readT r r1 r2:=by
 have a:resT pC e Tryz.f18.results.toList retL=resT pC [(2,.val (.pointer (some ⟨r,0,none⟩))),(3,.val (.pointer (some ⟨r1,0,none⟩))),(4,.val (.pointer (some ⟨r2,0,none⟩)))] Tryz.f18.results.toList retL:=by
  rw[show Tryz.f18.results.toList=[.cell 2 38,.cell 3 3,.cell 4 29] by kernel_rfl];simp only[resT,h2,h3,c];rfl
 have b:resT pC [(2,.val (.pointer (some ⟨r,0,none⟩))),(3,.val (.pointer (some ⟨r1,0,none⟩))),(4,.val (.pointer (some ⟨r2,0,none⟩)))] Tryz.f18.results.toList retL=readT r r1 r2:=by kernel_rfl
 exact a.trans b
theorem vals_slots:valsOf (pEnv t r r1 r2 r3 n v) Tryz.f18.results.toList=[(2,.val (.pointer (some ⟨r,0,none⟩))),(3,.val (.pointer (some ⟨r1,0,none⟩))),(4,.val (.pointer (some ⟨r2,0,none⟩)))]:=by
 kernel_rfl
def cloT(v:Value)(a b c:Nat):T:=.sem false (Sem.bind (eqGuard .eql 20 (.tmp 6) (.const .nilIface) v .nilIface) fun _=>binOp .eql 20 v .nilIface) fun w=>T.unB w fun y=>bif y then .leaf (.ret (.tuple #[]))
 else .sem false (Instr.typeAssert v 20 142 true) fun w=>T.unTup w fun l=>T.unCons l fun w vs=>T.unI .i64 w fun n=>T.unCons vs fun w vs=>T.unB w fun y=>T.unNil vs (bif y then zeroT a b c n 3 (.leaf (.ret (.tuple #[]))) else .fail)
theorem clo_tree{a b c:Nat}:closT (cloC pC [] []) 6 pRest [.pointer (some ⟨a,0,none⟩),.pointer (some ⟨b,0,none⟩),.pointer (some ⟨c,0,none⟩)] v=cloT v a b c:=by
 kernel_rfl
end
end Go.Y.Txt
end
section
namespace Go.Y.Tre
open Go.TM.Tr
attribute [local irreducible] T.wp CV FWK
variable {x:TF}{h:LH}{f:TC}{land day item:Int}
theorem not_and_false{a b:Bool}(h:a=false):(a&&b)=false:=by rw[h];rfl
def numsB(x:TF):Bool:=inB x.items 0 5&&(inB x.lands 1 3&&(dayB x.start&&(dayB x.depend&&(dayB x.refuse&&dayB x.turn))))
theorem nums_ok(h:numsB x=true):IsI (x.lands-1)/\IsI (x.items-1):=by
 simp[numsB,inB]at h;unfold IsI;omega
theorem Z9(h:numsB x=false):checkT x=1:=by unfold checkT;exact if_pos h
theorem checkT_many(h:numsB x=true)(h2:10<x.events.length):checkT x=2:=by
 unfold checkT;rw[if_neg (by unfold numsB at h;rw[h];simp),if_pos h2]
theorem checkT_each(h:numsB x=true)(h2:¬ 10<x.events.length):checkT x=firstT (fun _ e=>eventT x e) 0 x.events:=by
 unfold checkT;rw[if_neg (by unfold numsB at h;rw[h];simp),if_neg h2]
theorem check_is(h:checkT x=0):IsI (x.lands-1)/\IsI (x.items-1):=by
 have:=J9 h;unfold IsI;omega
theorem c2021(v:Kinds h.get)(s:TreatyR h.get f x):Pu Tryz.prog 64 #[treatyV f x] h (.int .i64 (checkT x)):=by
 refine w2021 Qr ?_;have F:=s.2.1;have hb:=s.2.2.1;refine Jk (fun vs h'=>vs=[.int .i64 0]/\numsB x=true/\h=h') ?_ ?_
 ·refine t_pu (c2052 _ _ _) ?_;refine yI (fun e=>?_) (fun j=>?_)
  ·refine gI ?_;refine gZ ?_;exact Qn ⟨by rw[Z9 (not_and_false (by simpa using e))],rfl⟩
  have j:inB x.items 0 5=true:=by simpa using j
  refine t_pu (c2052 _ _ _) ?_;refine yI (fun e=>?_) (fun g=>?_)
  ·refine gI ?_;refine gZ ?_;have e:inB x.lands 1 3=false:=by simpa using e
   exact Qn ⟨by rw[Z9 (by simp[numsB,e])],rfl⟩
  have g:inB x.lands 1 3=true:=by simpa using g
  refine t_pu (c2053 _) ?_;refine yI (fun e=>?_) (fun k=>?_)
  ·refine gI ?_;refine gZ ?_;have e:dayB x.start=false:=by simpa using e
   exact Qn ⟨by rw[Z9 (by simp[numsB,e])],rfl⟩
  have k:dayB x.start=true:=by simpa using k
  refine t_pu (c2053 _) ?_;refine yI (fun e=>?_) (fun l=>?_)
  ·refine gI ?_;refine gZ ?_;have e:dayB x.depend=false:=by simpa using e
   exact Qn ⟨by rw[Z9 (by simp[numsB,e])],rfl⟩
  have l:dayB x.depend=true:=by simpa using l
  refine t_pu (c2053 _) ?_;refine yI (fun e=>?_) (fun o=>?_)
  ·refine gI ?_;refine gZ ?_;have e:dayB x.refuse=false:=by simpa using e
   exact Qn ⟨by rw[Z9 (by simp[numsB,e])],rfl⟩
  have o:dayB x.refuse=true:=by simpa using o
  refine t_pu (c2053 _) ?_;refine yI (fun e=>?_) (fun p=>?_)
  ·refine gI ?_;refine gZ ?_;have e:dayB x.turn=false:=by simpa using e
   exact Qn ⟨by rw[Z9 (by simp[numsB,e])],rfl⟩
  have p:dayB x.turn=true:=by simpa using p
  exact Qj ⟨rfl,by simp[numsB,j,g,k,l,o,p],rfl⟩
 rintro vs _ ⟨rfl,b,rfl⟩;refine yJ (fun e=>?_) (fun e=>?_)
 ·exact Qn ⟨by rw[checkT_many b (by omega)],rfl⟩
 have r:=checkT_each b (by omega);refine Jc (fun t vs h'=>h=h'/\∃ i:Nat,vs=[.int .i64 0,.int .i64 i]/\i<=f.n/\t=f.n-i/\checkT x=firstT (fun _ e=>eventT x e) i (x.events.drop i)) ⟨rfl,0,rfl,Nat.zero_le _,rfl,r⟩ ?_;rintro Y t vs _ u ⟨rfl,i,rfl,E,rfl,hc⟩;refine yJ (fun g=>?_) (fun g=>?_)
 ·obtain⟨y,a,w,D,z,A,B,⟨q,m,c,C,_,g5⟩,g4⟩:=s.2.at (i:=i) (by omega);rw[J0 w,firstT]at hc;refine gZ ?_;refine t_pu (c2054 v (f:=f) (x:=x) (e:=y) (nums_ok b).1 (nums_ok b).2 g5) ?_;refine yI (fun d=>?_) (fun d=>?_)
  ·refine gZ ?_;rw[if_pos (by simpa using d)]at hc;exact Qn ⟨by rw[hc],rfl⟩
  ·rw[if_neg (by simpa using d)]at hc;refine Qj (u (f.n-(i+1)) _ _ (by omega) ⟨rfl,i+1,?_,by omega,rfl,hc⟩);rw[Qo (by omega) (by omega)];rfl
 ·refine gZ ?_;rw[List.drop_eq_nil_of_le (by omega),firstT]at hc;exact Qn ⟨by rw[hc],rfl⟩
def askedT(x:TF)(land:Int):Int:=if checkT x≠0 then checkT x else if inB land 0 (x.lands-1)=false then 6 else 0
def Qw(x:TF)(land day:Int):Int:=if askedT x land≠0 then askedT x land else if dayB day then 0 else 1
def Q7(x:TF)(land item:Int):Int:=if askedT x land≠0 then askedT x land else if inB item 0 (x.items-1) then 0 else 6
def Jo(x:TF)(land item day:Int):Int:=if Q7 x land item≠0 then Q7 x land item else if dayB day then 0 else 1
theorem Gu(h:askedT x land=0):checkT x=0/\inB land 0 (x.lands-1)=true:=by
 unfold askedT at h;split at h
 ·rename_i h1;exact absurd h h1
 ·rename_i h1;split at h
  ·cases h
  ·rename_i h2;exact⟨by simpa using h1,by simpa using h2⟩
theorem Hv(h:Qw x land day=0):askedT x land=0/\dayB day=true:=by
 unfold Qw at h;split at h
 ·rename_i h1;exact absurd h h1
 ·rename_i h1;split at h
  ·rename_i h2;exact⟨by simpa using h1,h2⟩
  ·cases h
theorem askedItem_ok(h:Q7 x land item=0):askedT x land=0/\inB item 0 (x.items-1)=true:=by
 unfold Q7 at h;split at h
 ·rename_i h1;exact absurd h h1
 ·rename_i h1;split at h
  ·rename_i h2;exact⟨by simpa using h1,h2⟩
  ·cases h
theorem askedAll_ok(h:Jo x land item day=0):Q7 x land item=0/\dayB day=true:=by
 unfold Jo at h;split at h
 ·rename_i h1;exact absurd h h1
 ·rename_i h1;split at h
  ·rename_i h2;exact⟨by simpa using h1,h2⟩
  ·cases h
theorem c2079(b:Kinds h.get)(c:TreatyR h.get f x)(land:Int):Pu Tryz.prog 159 #[treatyV f x,land] h (.int .i64 (askedT x land)):=by
 refine w2079 Qr ?_;refine t_pu (c2021 b c) ?_;refine yI (fun e=>?_) (fun e=>?_)
 ·exact Qn ⟨by rw[askedT,if_pos (by simpa using e)],rfl⟩
 have e:checkT x=0:=by simpa using e
 have a:=check_is e;rw[Qo a.1.1 a.1.2];refine t_pu (c2052 _ _ _) ?_;refine yI (fun d=>?_) (fun d=>?_)
 ·exact Qn ⟨by rw[askedT,if_neg (by simp[e]),if_pos (by simpa using d)],rfl⟩
 ·exact Qn ⟨by rw[askedT,if_neg (by simp[e]),if_neg (by simp at d;simp[d])],rfl⟩
theorem c2063(a:Kinds h.get)(b:TreatyR h.get f x)(land day:Int):Pu Tryz.prog 111 #[treatyV f x,land,day] h (.int .i64 (Qw x land day)):=by
 refine w2063 Qr ?_;refine t_pu (c2079 a b land) ?_;refine yI (fun e=>?_) (fun e=>?_)
 ·exact Qn ⟨by rw[Qw,if_pos (by simpa using e)],rfl⟩
 have e:askedT x land=0:=by simpa using e
 refine t_pu (c2053 _) ?_;refine yI (fun d=>?_) (fun d=>?_)
 ·exact Qn ⟨by rw[Qw,if_neg (by simp[e]),if_pos d,e],rfl⟩
 ·exact Qn ⟨by rw[Qw,if_neg (by simp[e]),if_neg (by simp[d])],rfl⟩
theorem c2058(b:Kinds h.get)(c:TreatyR h.get f x)(land item:Int):Pu Tryz.prog 113 #[treatyV f x,land,item] h (.int .i64 (Q7 x land item)):=by
 refine w2058 Qr ?_;refine t_pu (c2079 b c land) ?_;refine yI (fun e=>?_) (fun e=>?_)
 ·exact Qn ⟨by rw[Q7,if_pos (by simpa using e)],rfl⟩
 have e:askedT x land=0:=by simpa using e
 have a:=check_is (Gu e).1;rw[Qo a.2.1 a.2.2];refine t_pu (c2052 _ _ _) ?_;refine yI (fun d=>?_) (fun d=>?_)
 ·exact Qn ⟨by rw[Q7,if_neg (by simp[e]),if_pos d,e],rfl⟩
 ·exact Qn ⟨by rw[Q7,if_neg (by simp[e]),if_neg (by simp[d])],rfl⟩
theorem c2066(a:Kinds h.get)(b:TreatyR h.get f x)(land item day:Int):Pu Tryz.prog 116 #[treatyV f x,land,item,day] h (.int .i64 (Jo x land item day)):=by
 refine w2066 Qr ?_;refine t_pu (c2058 a b land item) ?_;refine yI (fun e=>?_) (fun e=>?_)
 ·exact Qn ⟨by rw[Jo,if_pos (by simpa using e)],rfl⟩
 have e:Q7 x land item=0:=by simpa using e
 refine t_pu (c2053 _) ?_;refine yI (fun d=>?_) (fun d=>?_)
 ·exact Qn ⟨by rw[Jo,if_neg (by simp[e]),if_pos d,e],rfl⟩
 ·exact Qn ⟨by rw[Jo,if_neg (by simp[e]),if_neg (by simp[d])],rfl⟩
end Go.Y.Tre
end
section
namespace Go.TM.Tp
variable {X:XP}{P:Program}{Q:Leaf->LH->Prop}{h:LH}
theorem U6{p:LH->Prop}{k:T}(h1:p h)(h2:k.wp X P Q h):(T.mem p k).wp X P Q h:=⟨h1,h2⟩
theorem D0{l:Leaf}(h1:Q l h):(T.leaf l).wp X P Q h:=h1
theorem t_assertI{K:Value->T}{b asserted:TypeId}{v:Value}(hu:P.underlying asserted=some (.int .i64))(a:(K (.tuple #[v,.bool true])).wp X P Q h):(T.sem false (Instr.typeAssert (.iface asserted v) b asserted true) K).wp X P Q h:=by
 refine Jh (A:=fun w h'=>w=.tuple #[v,.bool true]/\h'=h.get) ?_ (by rintro w h' ⟨rfl,rfl⟩;exact a);unfold Instr.typeAssert;simp only[lwp_bind,Qd hu,if_true,Qg];exact⟨trivial,trivial⟩
theorem parseT_wrong{t:Bs}(h:¬ 60000<t.length){u:Tr.TF}{n:Nat}(e:goT 0 noTreaty (linesL t)=(u,some n)):parseT t=(noTreaty,n,3):=by
 unfold parseT;rw[if_neg h,e]
theorem parseT_right{t:Bs}(h:¬ 60000<t.length){u:Tr.TF}(e:goT 0 noTreaty (linesL t)=(u,none)):parseT t=if linesL t=[] then (noTreaty,0,3) else if Tr.checkT u≠0 then (noTreaty,0,Tr.checkT u) else (u,0,0):=by
 unfold parseT;rw[if_neg h,e]
end Go.TM.Tp
namespace Go.Y.Txt
open Go.TM.Tp Go.TM.Tr
attribute [local irreducible] T.wp CV FWK
structure Res(hS H:LH)(r r1 r2:Nat)(vs:List Value)(l w:Value):Prop where
 le:hS.le H
 d:hS.get r=none/\hS.get r1=none/\hS.get r2=none
 ne:r1≠r/\r2≠r/\r2≠r1
 c0:H.get r=some (true,.cells vs.toArray 38 (0,0))
 c1:H.get r1=some (true,.cells #[l] 3 (0,0))
 c2:H.get r2=some (true,.cells #[w] 29 (0,0))
def resK(r r1 r2:Nat):Cells:=fun x=>if x=r then some (true,.cells zeroF 38 (0,0)) else if x=r1 then some (true,.cells #[.int .i64 0] 3 (0,0)) else if x=r2 then some (true,.cells #[.int .i64 0] 29 (0,0)) else none
def zeroL:List Value:=[.int .i64 0,.int .i64 0,.int .i64 0,.int .i64 0,.int .i64 0,.int .i64 0,.slice none 0 0]
variable {hS H:LH}{r r1 r2 b j m c:Nat}{h:Cells}{v l w:Value}{vs:List Value}{el:TypeId}{X:XP}{Q:Leaf->LH->Prop}{k:T}{x0 x1 x2 x3 x4 x5:Int}{p:Option Addr}
theorem Res.init(d:hS.get r=none/\hS.get r1=none/\hS.get r2=none)(ne:r1≠r/\r2≠r/\r2≠r1):Res hS (hS.add (resK r r1 r2)) r r1 r2 zeroL (.int .i64 0) (.int .i64 0):=by
 refine⟨Zo _ _,d,ne,?_,?_,?_⟩
 ·show (hS.get.add _) r=_;rw[Qi d.1];unfold resK;rw[if_pos rfl];rfl
 ·show (hS.get.add _) r1=_;rw[Qi d.2.1];unfold resK;rw[if_neg ne.1,if_pos rfl]
 ·show (hS.get.add _) r2=_;rw[Qi d.2.2];unfold resK;rw[if_neg ne.2.1,if_neg ne.2.2,if_pos rfl]
theorem G3{x:Nat}(a:x≠b):(h.setCell ⟨b,j,none⟩ v) x=h x:=by unfold Cells.setCell;rw[if_neg a]
theorem Y4(hb:h b=some (true,.cells vs.toArray el (0,0))):(h.setCell ⟨b,j,none⟩ v) b=some (true,.cells (vs.set j v).toArray el (0,0)):=by
 unfold Cells.setCell;rw[if_pos rfl,hb];simp
theorem Zz(hb:h b=some (true,.cells vs.toArray el (0,0)))(a:vs[j]?=some v):h.cell? ⟨b,j,none⟩=some v:=by
 unfold Cells.cell?;rw[hb];simpa using a
theorem De(s:Res hS H r r1 r2 vs l w)(j:Nat)(c:j<vs.length)(hv:isOne v=true)(e:∀ b,Res hS b r r1 r2 (vs.set j v) l w->k.wp X Tryz.prog Q b):(T.store (Addr.add ⟨r,0,none⟩ j) v k).wp X Tryz.prog Q H:=by
 rw[Qa,Nat.zero_add];refine Go.TM.t_store hv ⟨_,s.c0⟩ (Zz s.c0 (List.getElem?_eq_getElem c)) (by unfold Cells.frozen?;rw[s.c0];simp) (e _ ⟨⟨fun x y a=>?_,s.le.2⟩,s.d,s.ne,Y4 s.c0,?_,?_⟩)
 ·have hr:x≠r:=by rintro rfl;rw[s.d.1]at a;cases a
  show (H.get.setCell _ _) x=_;rw[G3 hr];exact s.le.1 _ _ a
 ·show (H.get.setCell _ _) r1=_;rw[G3 s.ne.1];exact s.c1
 ·show (H.get.setCell _ _) r2=_;rw[G3 s.ne.2.1];exact s.c2
theorem t_res1(s:Res hS H r r1 r2 vs l w)(hv:isOne v=true)(c:∀ b,Res hS b r r1 r2 vs v w->k.wp X Tryz.prog Q b):(T.store (Addr.add ⟨r1,0,none⟩ 0) v k).wp X Tryz.prog Q H:=by
 rw[Qa];have c1:H.get r1=some (true,.cells ([l]:List Value).toArray 3 (0,0)):=s.c1;refine Go.TM.t_store hv ⟨_,s.c1⟩ (Zz c1 rfl) (by unfold Cells.frozen?;rw[s.c1];simp) (c _ ⟨⟨fun x y a=>?_,s.le.2⟩,s.d,s.ne,?_,Y4 c1,?_⟩)
 ·have hr:x≠r1:=by rintro rfl;rw[s.d.2.1]at a;cases a
  show (H.get.setCell _ _) x=_;rw[G3 hr];exact s.le.1 _ _ a
 ·show (H.get.setCell _ _) r=_;rw[G3 (Ne.symm s.ne.1)];exact s.c0
 ·show (H.get.setCell _ _) r2=_;rw[G3 s.ne.2.2];exact s.c2
theorem t_res2(s:Res hS H r r1 r2 vs l w)(hv:isOne v=true)(c:∀ b,Res hS b r r1 r2 vs l v->k.wp X Tryz.prog Q b):(T.store (Addr.add ⟨r2,0,none⟩ 0) v k).wp X Tryz.prog Q H:=by
 rw[Qa];have c2:H.get r2=some (true,.cells ([w]:List Value).toArray 29 (0,0)):=s.c2;refine Go.TM.t_store hv ⟨_,s.c2⟩ (Zz c2 rfl) (by unfold Cells.frozen?;rw[s.c2];simp) (c _ ⟨⟨fun x y a=>?_,s.le.2⟩,s.d,s.ne,?_,?_,Y4 c2⟩)
 ·have hr:x≠r2:=by rintro rfl;rw[s.d.2.2]at a;cases a
  show (H.get.setCell _ _) x=_;rw[G3 hr];exact s.le.1 _ _ a
 ·show (H.get.setCell _ _) r=_;rw[G3 (Ne.symm s.ne.2.1)];exact s.c0
 ·show (H.get.setCell _ _) r1=_;rw[G3 (Ne.symm s.ne.2.2)];exact s.c1
theorem U4(s:Res hS H r r1 r2 vs l w)(f:vs.length=7)(e w':Int)(g:∀ d,Res hS d r r1 r2 [.int .i64 x0,.int .i64 x1,.int .i64 x2,.int .i64 x3,.int .i64 x4,.int .i64 x5,.slice p m c] (.int .i64 e) (.int .i64 w')->k.wp X Tryz.prog Q d) :
  (T.store (Addr.add ⟨r,0,none⟩ 0) (.int .i64 x0) (.store (Addr.add ⟨r,0,none⟩ 1) (.int .i64 x1) (.store (Addr.add ⟨r,0,none⟩ 2) (.int .i64 x2) (.store (Addr.add ⟨r,0,none⟩ 3) (.int .i64 x3) (.store (Addr.add ⟨r,0,none⟩ 4) (.int .i64 x4) (.store (Addr.add ⟨r,0,none⟩ 5) (.int .i64 x5) (.store (Addr.add ⟨r,0,none⟩ 6) (.slice p m c)
   (.store (Addr.add ⟨r1,0,none⟩ 0) (.int .i64 e) (.store (Addr.add ⟨r2,0,none⟩ 0) (.int .i64 w') k))))))))).wp X Tryz.prog Q H:=by
 obtain⟨v0,v1,v2,a,v4,b,v6,rfl⟩ : ∃ v0 v1 v2 a v4 b v6,vs=[v0,v1,v2,a,v4,b,v6]:=by
  match vs,f with
  | [v0,v1,v2,a,v4,b,v6],_=>exact⟨_,_,_,_,_,_,_,rfl⟩
 refine De s 0 (by simp) rfl fun _ s=>?_;refine De s 1 (by simp) rfl fun _ s=>?_;refine De s 2 (by simp) rfl fun _ s=>?_;refine De s 3 (by simp) rfl fun _ s=>?_;refine De s 4 (by simp) rfl fun _ s=>?_;refine De s 5 (by simp) rfl fun _ s=>?_;refine De s 6 (by simp) rfl fun _ s=>?_;refine t_res1 s rfl fun _ s=>?_;exact t_res2 s rfl fun _ s=>g _ s
theorem Uw{l w:Int}(s:Res hS H r r1 r2 [.int .i64 x0,.int .i64 x1,.int .i64 x2,.int .i64 x3,.int .i64 x4,.int .i64 x5,.slice p m c] (.int .i64 l) (.int .i64 w))
 (a:Q (.ret (.tuple #[.agg #[x0,x1,x2,x3,x4,x5,.slice p m c],l,w])) H):(readT r r1 r2).wp X Tryz.prog Q H:=by
 have b:H.get.cell? (Addr.add ⟨r,0,none⟩ 0)=some (.int .i64 x0):=by rw[Qa];exact Zz s.c0 rfl
 have d:H.get.cell? (Addr.add ⟨r,0,none⟩ 1)=some (.int .i64 x1):=by rw[Qa];exact Zz (j:=0+1) s.c0 rfl
 have e:H.get.cell? (Addr.add ⟨r,0,none⟩ 2)=some (.int .i64 x2):=by rw[Qa];exact Zz (j:=0+2) s.c0 rfl
 have f:H.get.cell? (Addr.add ⟨r,0,none⟩ 3)=some (.int .i64 x3):=by rw[Qa];exact Zz (j:=0+3) s.c0 rfl
 have g4:H.get.cell? (Addr.add ⟨r,0,none⟩ 4)=some (.int .i64 x4):=by rw[Qa];exact Zz (j:=0+4) s.c0 rfl
 have g5:H.get.cell? (Addr.add ⟨r,0,none⟩ 5)=some (.int .i64 x5):=by rw[Qa];exact Zz (j:=0+5) s.c0 rfl
 have g6:H.get.cell? (Addr.add ⟨r,0,none⟩ 6)=some (.slice p m c):=by rw[Qa];exact Zz (j:=0+6) s.c0 rfl
 have g:H.get.cell? ⟨r1,0,none⟩=some (.int .i64 l):=Zz (vs:=[.int .i64 l]) s.c1 rfl;have h:H.get.cell? ⟨r2,0,none⟩=some (.int .i64 w):=Zz (vs:=[.int .i64 w]) s.c2 rfl;unfold readT;refine gZ ?_;exact D0 a
theorem und20:Tryz.prog.underlying 20=some (.interface #[]):=by kernel_rfl
theorem undWrong:Tryz.prog.underlying 142=some (.int .i64):=by kernel_rfl
def ParseTA(o:TF×Nat×Int)(r:Value)(h:LH):Prop:=∃ f,r=.tuple #[treatyV f o.1,.int .i64 (o.2.1:Int),.int .i64 o.2.2]/\TreatyR h.get f o.1
theorem zero_R:TreatyR h ⟨none,0,0⟩ noTreaty:=⟨Nat.le_refl _,rfl,by decide,fun i x a=>by cases a⟩
theorem ParseTA.zero{h:LH}{n:Nat}{w:Int}:ParseTA (noTreaty,n,w) (.tuple #[.agg #[.int .i64 0,.int .i64 0,.int .i64 0,.int .i64 0,.int .i64 0,.int .i64 0,.slice none 0 0],.int .i64 (n:Int),w]) h:=⟨⟨none,0,0⟩,rfl,zero_R⟩
def BadV(t:Bs)(v:Value):Prop:=∃ k u,goT 0 noTreaty (linesL t)=(u,some k)/\v=wrongV (k:Int)
def ParJ(h:LH)(r3:Nat)(t:Bs)(s:Bs)(vs:List Value)(h':LH):Prop:=∃ (hB:LH) (n:Nat) (x:TF) (f:TC),vs=[]/\h.le hB/\RSt hB h' r3 (rdL x f n) f x.events/\goT n x (linesL s)=goT 0 noTreaty (linesL t)/\s.length+n<=t.length/\x.events.length<=n/\(n=0->s=t)/\(n≠0->t≠[])
theorem c3711{h:LH}(hk:Tre.Kinds h.get)(hw:KWords h.get)(t:Bs):FW XT Tryz.prog 18 #[.string (str t)] h fun r h'=>h.le h'/\ParseTA (parseT t) r h':=by
 refine parse_catch ?_;rw[parse_tree];refine Z5 fun r hr=>?_;refine Z5 fun r1 q=>?_;refine Z5 fun r2 v=>?_;have q:(h.get.upd r (true,.cells zeroF 38 (0,0))) r1=none:=q;have v:((h.get.upd r (true,.cells zeroF 38 (0,0))).upd r1 (true,.cells #[.int .i64 0] 3 (0,0))) r2=none:=v;have n1:r1≠r:=by rintro rfl;rw[Qk]at q;cases q
 have E:h.get r1=none:=by rw[Qp _ _ n1]at q;exact q
 have n2:r2≠r1:=by rintro rfl;rw[Qk]at v;cases v
 have l:(h.get.upd r (true,.cells zeroF 38 (0,0))) r2=none:=by rw[Qp _ _ n2]at v;exact v
 have n3:r2≠r:=by rintro rfl;rw[Qk]at l;cases l
 have F:h.get r2=none:=by rw[Qp _ _ n3]at l;exact l
 have dK:Disj h.get (resK r r1 r2):=fun x=>by
  unfold resK;by_cases O:x=r
  ·subst O;exact .inl hr
  ·by_cases C:x=r1
   ·subst C;exact .inl E
   ·by_cases H:x=r2
    ·subst H;exact .inl F
    ·right;rw[if_neg O,if_neg C,if_neg H]
 have eH:({ { { h with get:=h.get.upd r (true,.cells zeroF 38 (0,0)) } with get:=(h.get.upd r (true,.cells zeroF 38 (0,0))).upd r1 (true,.cells #[.int .i64 0] 3 (0,0)) } with get:=((h.get.upd r (true,.cells zeroF 38 (0,0))).upd r1 (true,.cells #[.int .i64 0] 3 (0,0))).upd r2 (true,.cells #[.int .i64 0] 29 (0,0)) }:LH)=h.add (resK r r1 r2):=by
  have eG:((h.get.upd r (true,.cells zeroF 38 (0,0))).upd r1 (true,.cells #[.int .i64 0] 3 (0,0))).upd r2 (true,.cells #[.int .i64 0] 29 (0,0))=h.get.add (resK r r1 r2):=by
   funext x;unfold Cells.upd Cells.add resK;by_cases H:x=r2
   ·subst H;simp[F,n2,n3]
   ·by_cases C:x=r1
    ·subst C;simp[H,E,n1]
    ·by_cases O:x=r
     ·subst O;simp[H,C,hr]
     ·simp only[O,C,H,if_false];cases h.get x<;>rfl
  exact congrArg (fun g=>({ h with get:=g }:LH)) eG
 have key:∀ {k:T},k.wp XT Tryz.prog (Qc fun r h'=>h.le h'/\ParseTA (parseT t) r h') (h.add (resK r r1 r2))->k.wp XT Tryz.prog (Qc fun r h'=>h.le h'/\ParseTA (parseT t) r h') ({ { { h with get:=h.get.upd r (true,.cells zeroF 38 (0,0)) } with get:=(h.get.upd r (true,.cells zeroF 38 (0,0))).upd r1 (true,.cells #[.int .i64 0] 3 (0,0)) } with get:=((h.get.upd r (true,.cells zeroF 38 (0,0))).upd r1 (true,.cells #[.int .i64 0] 3 (0,0))).upd r2 (true,.cells #[.int .i64 0] 29 (0,0)) }:LH):=fun w=>by rw[eH];exact w
 refine key ?_;clear key eH;have R0:=Res.init (hS:=h) ⟨hr,E,F⟩ ⟨n1,n3,n2⟩;refine Jf undS ?_;refine yJ (fun e=>?_) (fun e=>?_)
 ·have:parseT t=(noTreaty,0,2):=by unfold parseT;rw[if_pos (by omega)]
  rw[this];unfold zeroT;refine U4 R0 rfl 0 2 fun I i=>?_;refine Uw i ⟨i.le,?_⟩;exact ParseTA.zero
 have ht:¬ 60000<t.length:=by omega
 refine Z5 fun r3 A=>?_;have A:(h.get.add (resK r r1 r2)) r3=none:=A;have U:h.get r3=none:=by
  cases hx:h.get r3 with
  | none=>rfl
  | some y=>rw[Qh hx]at A;cases A
 have u0:resK r r1 r2 r3=none:=by rw[Qi U]at A;exact A
 have m0:Disj (h.get.upd r3 (true,.cells zeroR 141 (0,0))) (resK r r1 r2):=fun x=>by
  by_cases e:x=r3
  ·subst e;exact .inr u0
  ·rw[Qp _ _ e];exact dK x
 have eU:(h.get.add (resK r r1 r2)).upd r3 (true,.cells zeroR 141 (0,0))=(h.get.upd r3 (true,.cells zeroR 141 (0,0))).add (resK r r1 r2):=by
  funext x;unfold Cells.upd Cells.add;by_cases e:x=r3
  ·simp[e]
  ·simp[e]
 have key:∀ {k:T} {Q:Leaf->LH->Prop},k.wp XT Tryz.prog Q (({ h with get:=h.get.upd r3 (true,.cells zeroR 141 (0,0)) }:LH).add (resK r r1 r2))->k.wp XT Tryz.prog Q { h.add (resK r r1 r2) with get:=(h.add (resK r r1 r2)).get.upd r3 (true,.cells zeroR 141 (0,0)) }:=fun w=>by
  have O:({ h.add (resK r r1 r2) with get:=(h.add (resK r r1 r2)).get.upd r3 (true,.cells zeroR 141 (0,0)) }:LH)=({ h with get:=h.get.upd r3 (true,.cells zeroR 141 (0,0)) }:LH).add (resK r r1 r2):=congrArg (fun g=>({ h with get:=g }:LH)) eU;rw[O];exact w
 refine key ?_;clear key eU;have k0:h.le { h with get:=h.get.upd r3 (true,.cells zeroR 141 (0,0)) }:=⟨J6 _ U,rfl,rfl,rfl⟩
 have S0:RSt h { h with get:=h.get.upd r3 (true,.cells zeroR 141 (0,0)) } r3 (rdL noTreaty ⟨none,0,0⟩ 0) ⟨none,0,0⟩ noTreaty.events:=⟨k0,U,Qk _ _ _,Growing.nil⟩
 generalize n0:({ h with get:=h.get.upd r3 (true,.cells zeroR 141 (0,0)) }:LH)=B at *;have l0:Disj B.get (resK r r1 r2):=by rw[<- n0];exact m0
 refine U6 ⟨[.pointer (some ⟨r,0,none⟩),.pointer (some ⟨r1,0,none⟩),.pointer (some ⟨r2,0,none⟩)],rfl⟩ ?_;refine Jm (Yj (c3726 t)) ?_;rintro _ _ ⟨z,rfl,Z,rfl⟩;have Z:(B.get.add (resK r r1 r2)) z=none:=Z;have j0:B.get z=none:=by
  cases hx:B.get z with
  | none=>rfl
  | some y=>rw[Qh hx]at Z;cases Z
 have kz:resK r r1 r2 z=none:=by rw[Qi j0]at Z;exact Z
 have eS:(B.add (resK r r1 r2)).add (bxC z 9 (.string (str t)))=(B.add (bxC z 9 (.string (str t)))).add (resK r r1 r2):=by
  unfold LH.add;simp only;rw[show (B.get.add (resK r r1 r2)).add (bxC z 9 (.string (str t)))=(B.get.add (bxC z 9 (.string (str t)))).add (resK r r1 r2) from Q2 (J1 kz)]
 rw[eS];have y0:t.length<=2^17:=by omega
 let KF:Option AV->Option AV->Option AV->LH->Prop:=fun a b c h'=>(a=some (.val (.pointer (some ⟨r,0,none⟩)))/\b=some (.val (.pointer (some ⟨r1,0,none⟩)))/\c=some (.val (.pointer (some ⟨r2,0,none⟩))))/\(readT r r1 r2).wp XT Tryz.prog (retQ fun r h'=>h.le h'/\ParseTA (parseT t) r h') h';refine U6 ⟨[.pointer (some ⟨r,0,none⟩),.pointer (some ⟨r1,0,none⟩),.pointer (some ⟨r2,0,none⟩)],B.add (bxC z 9 (.string (str t))),h,resK r r1 r2,BadV t,fun e=>KF (slotA e 2) (slotA e 3) (slotA e 4),rfl,by kernel_rfl,rfl,?_,?_,?_,dK,?_⟩ (D0 trivial)
 ·intro x;rcases l0 x with h1|h1
  ·by_cases e:x=z
   ·subst e;exact .inr kz
   ·left;show (B.get.add (bxC z _ _)) x=none;rw[Qi h1];exact Kq e
  ·exact .inr h1
 ·-- w0 loop
  intro X px;rw[each_tree];refine t_eachF (P:=Tryz.prog) (μ:=List.length) ?_ (hm:=B) (k₀:=bxC z 9 (.string (str t))) rfl (J1 j0) k0 (hands3743 px.ok t (by omega)) (ParJ h r3 t) ⟨h,0,noTreaty,⟨none,0,0⟩,rfl,LH.le_refl h,S0,rfl,by omega,Nat.le_refl _,fun _=>rfl,fun h0=>absurd rfl h0⟩ ?_ ?_
  ·rintro s xs s' ⟨h0,rfl,rfl⟩;exact(Hl h0).1
  ·-- behind w0 last line
   rintro s vs h' e0 hl ⟨hB,n,x,f,rfl,m,S,hgo,W,a0,h0,h1⟩;have hs:s=[]:=e0;subst hs;have C:goT 0 noTreaty (linesL t)=(x,none):=by rw[<- hgo,lines_nil,goT]
   refine gZ ?_;refine U6 (fun dk=>?_) (D0 trivial);rw[post_tree (K:=KF)];have G:resK r r1 r2 r≠none/\resK r r1 r2 r1≠none/\resK r r1 r2 r2≠none:=by
    unfold resK;simp[n1,n2,n3]
   have N:∀ y,resK r r1 r2 y≠none->h'.get y=none:=fun y hy=>(dk y).resolve_right hy;have R:=Res.init (hS:=h') ⟨N r G.1,N r1 G.2.1,N r2 G.2.2⟩ ⟨n1,n3,n2⟩;have J:=S.up (Zo h' (resK r r1 r2));have fileR:TreatyR h'.get f x:=by
    obtain⟨ws,o,_⟩:=S.ev.row;exact⟨o.le_cap,S.ev.sl EventEnc.len (by omega) (EventEnc.e (Jv S.le.1)) (by omega)⟩
   have L:∀ {k:Nat} {w:Int} {I:LH},parseT t=(noTreaty,k,w)->Res h' I r r1 r2 [.int .i64 0,.int .i64 0,.int .i64 0,.int .i64 0,.int .i64 0,.int .i64 0,.slice none 0 0] (.int .i64 (k:Int)) (.int .i64 w)->(T.mem (KF (some (.val (.pointer (some ⟨r,0,none⟩)))) (some (.val (.pointer (some ⟨r1,0,none⟩)))) (some (.val (.pointer (some ⟨r2,0,none⟩))))) (.leaf (.ret undef))).wp XT Tryz.prog anyQ I:=by
    intro k w I hp i;refine U6 ⟨⟨rfl,rfl,rfl⟩,Uw i ⟨LH.le_trans hl i.le,?_⟩⟩ (D0 trivial);rw[hp];exact ParseTA.zero
   have pa:∀ j,(((⟨r3,0,none⟩ : Addr).add 0).add j)=⟨r3,j,none⟩:=fun j=>by rw[Qa,Qa];simp
   have g7:(h'.add (resK r r1 r2)).get.cell? ((⟨r3,0,none⟩ : Addr).add 7)=some (.int .i64 (n:Int)):=by rw[Qa];exact J.at (j:=0+7) rfl
   have q0:(h'.add (resK r r1 r2)).get.cell? (((⟨r3,0,none⟩ : Addr).add 0).add 0)=some (.int .i64 x.items):=by rw[pa];exact J.at rfl
   have q1:(h'.add (resK r r1 r2)).get.cell? (((⟨r3,0,none⟩ : Addr).add 0).add 1)=some (.int .i64 x.lands):=by rw[pa];exact J.at rfl
   have q2:(h'.add (resK r r1 r2)).get.cell? (((⟨r3,0,none⟩ : Addr).add 0).add 2)=some (.int .i64 x.start):=by rw[pa];exact J.at rfl
   have q3:(h'.add (resK r r1 r2)).get.cell? (((⟨r3,0,none⟩ : Addr).add 0).add 3)=some (.int .i64 x.depend):=by rw[pa];exact J.at rfl
   have q4:(h'.add (resK r r1 r2)).get.cell? (((⟨r3,0,none⟩ : Addr).add 0).add 4)=some (.int .i64 x.refuse):=by rw[pa];exact J.at rfl
   have q5:(h'.add (resK r r1 r2)).get.cell? (((⟨r3,0,none⟩ : Addr).add 0).add 5)=some (.int .i64 x.turn):=by rw[pa];exact J.at rfl
   have q6:(h'.add (resK r r1 r2)).get.cell? (((⟨r3,0,none⟩ : Addr).add 0).add 6)=some (.slice f.p f.n f.c):=by rw[pa];exact J.at rfl
   refine yI (fun e=>?_) (fun e=>?_)
   ·have V:n=0:=by
     have:(n:Int)=0:=by simpa using e
     omega
    have p0:t=[]:=(h0 V).symm;refine U4 R rfl 0 3 fun I i=>L ?_ i;rw[parseT_right ht C,if_pos (by rw[p0];rfl)]
   ·have V:n≠0:=fun h=>by rw[h]at e;simp at e
    have D:=h1 V;have g0:parseT t=if checkT x≠0 then (noTreaty,0,checkT x) else (x,0,0):=by rw[parseT_right ht C,if_neg (by rw[lines_step D];simp)]
    unfold loadT;refine gZ ?_;refine t_pu (Tre.c2021 (hk.le (LH.le_trans hl (Zo _ _)).1) ((⟨fileR.1,fileR.2.le EventE.grow (Zo h' (resK r r1 r2)).1⟩ : TreatyR (h'.add (resK r r1 r2)).get f x))) ?_;refine yI (fun e=>?_) (fun e=>?_)
    ·have hc:checkT x≠0:=by simpa using e
     refine U4 R rfl 0 (checkT x) fun I i=>L ?_ i;rw[g0,if_pos hc]
    ·have hc:checkT x=0:=by simpa using e
     refine gZ ?_;refine U4 R rfl 0 0 fun I i=>?_;refine U6 ⟨⟨rfl,rfl,rfl⟩,Uw i ⟨LH.le_trans hl i.le,?_⟩⟩ (D0 trivial);rw[g0,if_neg (by simp[hc])];exact⟨f,rfl,fileR.1,fileR.2.le EventE.grow i.le.1⟩
  ·-- a line
   rintro s xs s' vs h' ⟨D,rfl,rfl⟩ hl ⟨hB,n,x,f,rfl,m,S,hgo,W,a0,h0,h1⟩ Y hY;have x0:=Hl D;have z0:=trimS_len 10 (lineCut s).1;rw[lines_step D]at hgo;refine gZ ?_;refine Qx ?_;refine gZ ?_;refine t_pu (c3728 _ 10 (by omega)) ?_;refine Qx ?_;refine gZ ?_;generalize trimS 10 (lineCut s).1=bb at *;generalize (lineCut s).2=s' at *;refine Jm (c3737 px S m (hk.le m.1) (hw.le m.1) bb (by omega) (by omega) (by omega) (fun h0=>?_)) ?_
   ·rw[goT,h0]at hgo;exact⟨n+1,x,hgo.symm,rfl⟩
   rintro _ h2 ⟨rfl,y,o0,f',hy,l2,S2⟩;refine gZ ?_;have M:h.le h2:=LH.le_trans (LH.le_trans m l2) S2.le;rw[goT,hy]at hgo;refine Jq M (hY _ _ M ⟨o0,n+1,y.put x,f',rfl,LH.le_trans m l2,S2,hgo,by omega,?_,fun h=>absurd h (by omega),fun _ e=>D (List.eq_nil_of_length_eq_zero (by rw[e]at W;exact Nat.eq_zero_of_add_eq_zero_right (Nat.le_zero.1 W)))⟩);cases y with
   | head a b c d e f=>exact Nat.zero_le _
   | event e=>show (x.events++[e]).length<=n+1;rw[List.length_append];simpa using a0
 ·-- no panic
  rintro e h' ⟨⟨C,H,e4⟩,s0⟩;unfold lastW;rw[res_tree C H e4];rw[show closT (cloC pC [] []) 6 pRest [.pointer (some ⟨r,0,none⟩),.pointer (some ⟨r1,0,none⟩),.pointer (some ⟨r2,0,none⟩)] .nilIface=cloT .nilIface r r1 r2 from clo_tree];unfold cloT;refine t_eqNilI und20 (.inl rfl) rfl ?_;refine yT ?_;exact Qn s0
 ·-- a panic
  rintro v₀ ⟨k,u,hgo,rfl⟩;rw[vals_slots];unfold lastW;rw[res_tree (r:=r) (r1:=r1) (r2:=r2) rfl rfl rfl];rw[show closT (cloC pC [] []) 6 pRest [.pointer (some ⟨r,0,none⟩),.pointer (some ⟨r1,0,none⟩),.pointer (some ⟨r2,0,none⟩)] (wrongV k)=cloT (wrongV k) r r1 r2 from clo_tree];unfold cloT wrongV;refine t_eqNilI und20 (.inr ⟨_,_,rfl⟩) rfl ?_;refine yF ?_;refine t_assertI undWrong ?_;refine yT ?_;refine U4 R0 rfl (k:Int) 3 fun I i=>?_;refine Qn (Uw i ⟨i.le,?_⟩);rw[parseT_wrong ht hgo];exact ParseTA.zero
end Go.Y.Txt
end
section
namespace Go.TM.Tp
theorem t_sliceArrM{P:Program}{X:XP}{Q:Leaf->LH->Prop}{h:LH}{K:Value->T}{t el:TypeId}{n i j s b:Nat}{z:Option Value}{a:Addr}(hu:P.underlying t=some (.array n el))(e:(P.info? el).map (fun i=>(i.size,i.bytes,i.zero))=some (s,b,z))(f:i<=j)(k:j<=n)(g:i<n)
 (l:(K (.slice (some (a.add (i*s))) (j-i) (n-i))).wp X P Q h):(T.sem false (Instr.sliceAt t (.pointer (some a)) (some (.int .i64 (i:Int))) (some (.int .i64 (j:Int))) none) K).wp X P Q h:=by
 obtain⟨inf,c,d,_,_⟩:=Zy e;refine Jh (A:=fun v h'=>h'=h.get/\(K v).wp X P Q h) ?_ (by rintro v h' ⟨rfl,hw⟩;exact hw);unfold Instr.sliceAt;simp only[lwp_bind,Qd hu,Instr.sureAddr];unfold Instr.sliceBounds Instr.sliceBound;simp only[lwp_bind,Qg,asIntOf];rw[if_pos (show 0<=(j:Int)/\(j:Int)<=(n:Int) by omega)];simp only[Qg,lwp_bind,Int.toNat_natCast];rw[if_pos (show 0<=(i:Int)/\(i:Int)<=(j:Int) by omega)];simp only[Qg,lwp_bind,Int.toNat_natCast,Q0 c,d];refine⟨trivial,?_⟩;rw[if_neg (by omega)];exact l
end Go.TM.Tp
namespace Go.Y.Txt
open Go.TM.Tp
open Go.Lib (decDigits)
attribute [local irreducible] T.wp CV FWK
variable {h:LH}{r n:Nat}{cs:Array Value}
theorem und24:Tryz.prog.underlying 291=some (.array 24 5):=by kernel_rfl
abbrev bV(b:UInt8):Value:=.int .u8 (b.toNat:Int)
set_option maxHeartbeats 0 in
theorem k3784(h1:1000<=n)(h2:n<10000)(hb:h.get r=some (true,.cells cs 291 (0,0)))(p:cs.size=24) :
  FW X0 Tryz.prog 200 #[.slice (some ⟨r,1,none⟩) 4 23,.int .u64 (n:Int)] h fun v h'=>v=.tuple #[]/\Wr 291 24 r h h' [(1,bV (hiD (n / 100))),(2,bV (loD (n / 100))),(3,bV (hiD (n%100))),(4,bV (loD (n%100)))]:=by
 refine w3784 _ _ _ _ Qr ?_;unfold n3784;have x:Wr 291 24 r h h []:=⟨⟨fun _ _=>rfl,rfl,rfl,rfl⟩,cs,hb,p,by simp⟩
 refine Jc (fun q vs h'=>vs=[.int .u64 (n:Int),.int .i64 ((4:Nat):Int)]/\h=h') (n:=0) ⟨rfl,rfl⟩ ?_;rintro Y q vs _ B ⟨rfl,rfl⟩;refine gZ ?_;refine t_if (fun e=>absurd e (by decide)) (fun _=>?_);refine gH ?_;refine gZ ?_;have b:n%100<100:=by omega
 have a:n / 100<100:=by omega
 have s:J4[2*(n%100)]?=some (hiD (n%100)):=(Gi _ b).1;have t:J4[2*(n%100)+1]?=some (loD (n%100)):=(Gi _ b).2;have u:J4[2*(n / 100)]?=some (hiD (n / 100)):=(Gi _ a).1;have w:J4[2*(n / 100)+1]?=some (loD (n / 100)):=(Gi _ a).2;have f:IntKind.wrap .u32 (n:Int)=(n:Int):=Zj (by omega);have w1:Int.tmod (n:Int) 10000=(n:Int):=by rw[Int.tmod_eq_emod_of_nonneg (by omega)];omega
 have w2:Int.tmod (n:Int) 100*2=((2*(n%100):Nat):Int):=by rw[Int.tmod_eq_emod_of_nonneg (by omega)];omega
 have w3:Int.tdiv (n:Int) 100=((n / 100:Nat):Int):=by rw[Int.tdiv_eq_ediv_of_nonneg (by omega)];omega
 have w4:Int.tdiv (n:Int) 10000=((0:Nat):Int):=by rw[Int.tdiv_eq_ediv_of_nonneg (by omega)];omega
 have i1:IntKind.wrap .u32 (Int.tmod (Int.tmod (IntKind.wrap .u32 (n:Int)) 10000) 100*2)=((2*(n%100):Nat):Int):=by rw[f,w1,w2,Zj (by omega)]
 have i2:IntKind.wrap .u32 (IntKind.wrap .u32 (Int.tmod (Int.tmod (IntKind.wrap .u32 (n:Int)) 10000) 100*2)+1)=((2*(n%100)+1:Nat):Int):=by
  rw[i1];exact Zj (n:=2*(n%100)+1) (by omega)
 have i3:IntKind.wrap .u32 (IntKind.wrap .u32 (Int.tdiv (Int.tmod (IntKind.wrap .u32 (n:Int)) 10000) 100)*2)=((2*(n / 100):Nat):Int):=by
  rw[f,w1,w3,Zj (by omega)];have:=Zj (n:=2*(n / 100)) (by omega);rw[<- this];congr 1;omega
 have i4:IntKind.wrap .u32 (IntKind.wrap .u32 (IntKind.wrap .u32 (Int.tdiv (Int.tmod (IntKind.wrap .u32 (n:Int)) 10000) 100)*2)+1)=((2*(n / 100)+1:Nat):Int):=by
  rw[i3];exact Zj (n:=2*(n / 100)+1) (by omega)
 have i5:IntKind.wrap .u32 (Int.tdiv (IntKind.wrap .u32 (n:Int)) 10000)=0:=by rw[f,w4];rfl
 have b1:0<=wrap .i64 (((4:Nat):Int)-1)/\wrap .i64 (((4:Nat):Int)-1)<((4:Nat):Int):=by decide
 have y:0<=wrap .i64 (((4:Nat):Int)-2)/\wrap .i64 (((4:Nat):Int)-2)<((4:Nat):Int):=by decide
 have z:0<=wrap .i64 (((4:Nat):Int)-3)/\wrap .i64 (((4:Nat):Int)-3)<((4:Nat):Int):=by decide
 have A:0<=wrap .i64 (((4:Nat):Int)-4)/\wrap .i64 (((4:Nat):Int)-4)<((4:Nat):Int):=by decide
 have i:Addr.add (Addr.add ⟨r,1,none⟩ (Int.toNat (wrap .i64 (((4:Nat):Int)-1))*1)) 0=⟨r,4,none⟩:=by rw[Qa,Qa];rfl
 have j:Addr.add (Addr.add ⟨r,1,none⟩ (Int.toNat (wrap .i64 (((4:Nat):Int)-2))*1)) 0=⟨r,3,none⟩:=by rw[Qa,Qa];rfl
 have m:Addr.add (Addr.add ⟨r,1,none⟩ (Int.toNat (wrap .i64 (((4:Nat):Int)-3))*1)) 0=⟨r,2,none⟩:=by rw[Qa,Qa];rfl
 have o:Addr.add (Addr.add ⟨r,1,none⟩ (Int.toNat (wrap .i64 (((4:Nat):Int)-4))*1)) 0=⟨r,1,none⟩:=by rw[Qa,Qa];rfl
 refine Jk (fun vs h'=>vs=[.int .i64 0,.int .u32 0]/\Wr 291 24 r h h' [(1,bV (hiD (n / 100))),(2,bV (loD (n / 100))),(3,bV (hiD (n%100))),(4,bV (loD (n%100)))]) ?_ ?_
 ·refine t_if (fun _=>?_) (fun e=>absurd (by decide) e)
  repeat (refine gT (by decide) ?_)
  refine Jk (fun vs h'=>vs=[]/\Wr 291 24 r h h' [(3,bV (hiD (n%100))),(4,bV (loD (n%100)))]) ?_ ?_
  ·repeat' (first|with_reducible apply Wo|refine Kv (l:=J4) (2*(n%100)) undS i1 s ?_|refine Kv (l:=J4) (2*(n%100)+1) undS i2 t ?_|(refine U1 (k:=4) (by assumption) i (by decide) (by decide) rfl ?_;intro d g)|(refine U1 (k:=3) (by assumption) j (by decide) (by simp) rfl ?_;intro d g)|exact Qj ⟨rfl,by assumption⟩|refine gZ ?_)
  rintro vs h3 ⟨rfl,c⟩;refine gZ ?_
  repeat' (first|with_reducible apply Wo|refine Kv (l:=J4) (2*(n / 100)) undS i3 u ?_|refine Kv (l:=J4) (2*(n / 100)+1) undS i4 w ?_|(refine U1 (k:=2) (by assumption) m (by decide) (by simp) rfl ?_;intro d g)|(refine U1 (k:=1) (by assumption) o (by decide) (by simp) rfl ?_;intro d g)|exact Qj ⟨by rw[i5];rfl,by assumption⟩|refine gZ ?_)
 rintro vs h3 ⟨rfl,c⟩;refine gZ ?_;refine t_if (fun e=>absurd e (by decide)) (fun _=>?_);refine t_if (fun e=>absurd e (by decide)) (fun _=>?_);exact Qn ⟨rfl,c⟩
set_option maxHeartbeats 0 in
theorem k3784'(h1:100<=n)(h2:n<1000)(hb:h.get r=some (true,.cells cs 291 (0,0)))(m:cs.size=24) :
  FW X0 Tryz.prog 200 #[.slice (some ⟨r,1,none⟩) 3 23,.int .u64 (n:Int)] h fun v h'=>v=.tuple #[]/\Wr 291 24 r h h' [(1,bV (UInt8.ofNat (48+n / 100))),(2,bV (hiD (n%100))),(3,bV (loD (n%100)))]:=by
 refine w3784 _ _ _ _ Qr ?_;unfold n3784;have t:Wr 291 24 r h h []:=⟨⟨fun _ _=>rfl,rfl,rfl,rfl⟩,cs,hb,m,by simp⟩
 refine Jc (fun o vs h'=>vs=[.int .u64 (n:Int),.int .i64 ((3:Nat):Int)]/\h=h') (n:=0) ⟨rfl,rfl⟩ ?_;rintro Y o vs _ w ⟨rfl,rfl⟩;refine gZ ?_;refine t_if (fun e=>absurd e (by decide)) (fun _=>?_);refine gH ?_;refine gZ ?_;have a:n%100<100:=by omega
 have p:J4[2*(n%100)]?=some (hiD (n%100)):=(Gi _ a).1;have q:J4[2*(n%100)+1]?=some (loD (n%100)):=(Gi _ a).2;have s:IntKind.wrap .u32 (n:Int)=(n:Int):=Zj (by omega);have w2:Int.tmod (n:Int) 100*2=((2*(n%100):Nat):Int):=by rw[Int.tmod_eq_emod_of_nonneg (by omega)];omega
 have w3:Int.tdiv (n:Int) 100=((n / 100:Nat):Int):=by rw[Int.tdiv_eq_ediv_of_nonneg (by omega)];omega
 have i1:IntKind.wrap .u32 (Int.tmod (n:Int) 100*2)=((2*(n%100):Nat):Int):=by rw[w2,Zj (by omega)]
 have i2:IntKind.wrap .u32 (IntKind.wrap .u32 (Int.tmod (n:Int) 100*2)+1)=((2*(n%100)+1:Nat):Int):=by
  rw[i1];exact Zj (n:=2*(n%100)+1) (by omega)
 have i3:IntKind.wrap .u8 (IntKind.wrap .u32 (48+IntKind.wrap .u32 (Int.tdiv (n:Int) 100)))=((UInt8.ofNat (48+n / 100)).toNat:Int):=by
  have i:=Zj (n:=48+n / 100) (by omega);have j:=Ym (n:=48+n / 100) (by omega);rw[w3,Zj (n:=n / 100) (by omega),show (48+((n / 100:Nat):Int))=((48+n / 100:Nat):Int) by omega,i,j,UInt8.toNat_ofNat'];omega
 have b1:0<=wrap .i64 (((3:Nat):Int)-1)/\wrap .i64 (((3:Nat):Int)-1)<((3:Nat):Int):=by decide
 have u:0<=wrap .i64 (((3:Nat):Int)-2)/\wrap .i64 (((3:Nat):Int)-2)<((3:Nat):Int):=by decide
 have d:Addr.add (Addr.add ⟨r,1,none⟩ (Int.toNat (wrap .i64 (((3:Nat):Int)-1))*1)) 0=⟨r,3,none⟩:=by rw[Qa,Qa];rfl
 have f:Addr.add (Addr.add ⟨r,1,none⟩ (Int.toNat (wrap .i64 (((3:Nat):Int)-2))*1)) 0=⟨r,2,none⟩:=by rw[Qa,Qa];rfl
 have g:Addr.add (Addr.add ⟨r,1,none⟩ 0) 0=⟨r,1,none⟩:=by rw[Qa,Qa]
 refine Jk (fun vs h'=>vs=[.int .i64 ((3:Nat):Int),.int .u32 (n:Int)]/\h=h') ?_ ?_
 ·refine t_if (fun e=>absurd e (by decide)) (fun _=>?_);exact Qj ⟨by rw[s],rfl⟩
 rintro vs _ ⟨rfl,rfl⟩;refine gZ ?_;refine t_if (fun _=>?_) (fun e=>absurd (by decide) e)
 repeat (refine gT (by decide) ?_)
 rw[i3]
 repeat' (first|with_reducible apply Wo|refine Kv (l:=J4) (2*(n%100)) undS i1 p ?_|refine Kv (l:=J4) (2*(n%100)+1) undS i2 q ?_|(refine U1 (k:=3) (by assumption) d (by decide) (by decide) rfl ?_;intro b c)|(refine U1 (k:=2) (by assumption) f (by decide) (by simp) rfl ?_;intro b c)|(refine U1 (k:=1) (by assumption) g (by decide) (by simp) rfl ?_;intro b c)|refine t_if (fun _=>?_) (fun e=>absurd (by decide) e)|exact Qn ⟨rfl,by assumption⟩|refine gZ ?_)
theorem c3784(h1:100<=n)(h2:n<10000)(hb:h.get r=some (true,.cells cs 291 (0,0)))(f:cs.size=24) :
  FW X0 Tryz.prog 200 #[.slice (some ⟨r,1,none⟩) (decDigits n).length 23,.int .u64 (n:Int)] h fun v h'=>v=.tuple #[]/\But r h h'/\∀ (j:Nat) w,((decDigits n).map u8V)[j]?=some w->h'.get.cell? (Addr.add ⟨r,1,none⟩ j)=some w:=by
 by_cases h3:n<1000
 ·rw[show (decDigits n).length=3 by rw[dig3d h1 h3];rfl,dig3d h1 h3];refine FW.mono (k3784' h1 h3 hb f) ?_;rintro v h' ⟨rfl,b,d,e,g,c⟩;refine⟨rfl,b,fun j w a=>?_⟩;rw[Qa];refine Zn e ?_
  match j,a with
  | 0,a=>cases a;exact c (1,_) (by simp)
  | 1,a=>cases a;exact c (2,_) (by simp)
  | 2,a=>cases a;exact c (3,_) (by simp)
  | j+3,a=>simp at a
 ·rw[show (decDigits n).length=4 by rw[dig4d (by omega) h2];rfl,dig4d (by omega) h2];refine FW.mono (k3784 (by omega) h2 hb f) ?_;rintro v h' ⟨rfl,b,d,e,g,c⟩;refine⟨rfl,b,fun j w a=>?_⟩;rw[Qa];refine Zn e ?_
  match j,a with
  | 0,a=>cases a;exact c (1,_) (by simp)
  | 1,a=>cases a;exact c (2,_) (by simp)
  | 2,a=>cases a;exact c (3,_) (by simp)
  | 3,a=>cases a;exact c (4,_) (by simp)
  | j+4,a=>simp at a
theorem c3775(k:PowT 5 h.get)(n:Nat)(c:n<10000):Gr Tryz.prog 173 #[.int .i64 (n:Int),.int .i64 10] h fun r _=>r=.string (str (decDigits n)):=by
 refine w3775 Qr ?_;refine yT ?_;refine Jk (fun vs h'=>vs=[.string (str [])]/\h=h'/\100<=n) ?_ ?_
 ·refine t_if (fun _=>?_) (fun e=>by omega);refine t_if (fun e=>?_) (fun e=>?_)
  ·refine t_pu (c3782 n (by omega)) ?_;refine Qx ?_;refine gI ?_;refine Zl ?_;refine gZ ?_;exact Qn ⟨LH.le_refl _,rfl⟩
  ·exact Qj ⟨rfl,rfl,by omega⟩
 rintro vs _ ⟨rfl,rfl,h1⟩;refine Zl ?_;refine gZ ?_;refine U5 fun r b a d hr=>?_;rw[wrapU64n (by omega)];refine Jk (fun vs h'=>vs=[.int .u64 (n:Int)]/\b=h') ?_ ?_
 ·refine t_if (fun e=>by omega) (fun _=>?_);exact Qj ⟨rfl,rfl⟩
 rintro vs _ ⟨rfl,rfl⟩;refine gZ ?_;refine t_pu (c3783 (k.le a.1) n h1 c) ?_;refine gZ ?_;have hlen:(decDigits n).length=3\/(decDigits n).length=4:=by
  by_cases h3:n<1000
  ·rw[dig3d h1 h3];exact .inl rfl
  ·rw[dig4d (by omega) c];exact .inr rfl
 have hw:wrap .i64 (1+((decDigits n).length:Int))=((1+(decDigits n).length:Nat):Int):=by
  rw[Qo (by omega) (by omega)];omega
 rw[hw];have f:1+(decDigits n).length-1=(decDigits n).length:=by omega
 have g:Addr.add ⟨r,0,none⟩ (1*1)=⟨r,1,none⟩:=by rw[Qa]
 refine t_sliceArrM (i:=1) und24 infU (by omega) (by omega) (by omega) ?_;rw[f,g];refine gZ ?_;refine Jm (c3784 h1 c hr rfl) ?_;rintro _ h2 ⟨rfl,j,hc⟩;refine gZ ?_;refine t_if (fun e=>by omega) (fun _=>?_);refine t_sliceArrM (i:=1) und24 infU (by omega) (by omega) (by omega) ?_;rw[f,g];refine gZ ?_;refine t_ofBytes undBy undS undU rfl hc ?_;refine Qx ?_;exact Qn ⟨Hx a (j.ov d),rfl⟩
theorem c3767(c:PowT 5 h.get)(n:Nat)(b:n<10000):Gr Tryz.prog 148 #[.int .i64 (n:Int)] h fun r _=>r=.string (str (decDigits n)):=by
 refine w3767 Qr ?_;refine t_gr (c3775 c n b) ?_;rintro _ h1 a rfl;refine Qx ?_;exact Qn ⟨a,rfl⟩
theorem c3741(c:PowT 5 h.get)(n:Nat)(b:n<10000):Gr Tryz.prog 86 #[.int .i64 (n:Int)] h fun r _=>r=.string (str (decDigits n)):=by
 refine w3741 Qr ?_;refine t_gr (c3767 c n b) ?_;rintro _ h1 a rfl;refine Qx ?_;exact Qn ⟨a,rfl⟩
end Go.Y.Txt
end
section
namespace Go.TM.Tp
def Sm(n:Int):Prop:=0<=n/\n<10000
theorem Sm.fits{n:Int}(h:Sm n):Fits n:=⟨h.1,by have:=h.2;omega⟩
end Go.TM.Tp
namespace Go.Y.Txt
open Go.TM.Tp
open Go.Lib (decDigits)
attribute [local irreducible] T.wp CV FWK
theorem li_is(l:List Int):joinS 44 (l.map di)=li l:=by
 unfold li listS;rw[List.map_map];rfl
end Go.Y.Txt
end
section
namespace Go.TM.Tp
theorem join_small{c:UInt8}{a:List Bs}(b:∀ f∈a,f.length<=60)(d:a.length<=4):(joinS c a).length<=2^28:=by
 have:=H5 (c:=c) b;have:a.length*(60+1)<=4*61:=Nat.mul_le_mul d (by omega);omega
end Go.TM.Tp
namespace Go.Y.Txt
open Go.TM.Tp
open Go.Lib (decDigits)
attribute [local irreducible] T.wp CV FWK
end Go.Y.Txt
end
section
namespace Go.Y
set_option maxHeartbeats 0
set_option linter.unusedVariables false
variable {X:XP} {h:LH} {A:Value->LH->Prop}
variable {a b c d e f g i j k l m:Int}{n o p q r s t u v w x y z:Nat}{B C D E F G H I J K L M:Option Addr}
theorem w3709:FX X 16 #[.agg #[a,b,c,d,e,f,.slice B n o]] h A (.cI 64 #[.agg #[a,b,c,d,e,f,.slice B n o]] fun g=>bif g != 0 then .rt (.tuple #[.string { data:=#[] },g]) else .new 80 #[.pointer none,.slice none 0 0] fun m=>.sem false (Instr.buildSlice 47 6 #[(0,.int .i64 a),(1,.int .i64 b),(2,.int .i64 c),(3,.int .i64 d),(4,.int .i64 e),(5,.int .i64 f)]) fun i=>.unS i fun j g l=>.cl 66 #[.slice j g l] fun i=>.unS i fun j g l=>.callv false (.func (Fn.func 65) #[] #[.pointer (some ⟨m,0,none⟩)]) #[.string { data:=#[116,114,101,97,116,121] },.slice j g l] fun i=>.unTup i fun s=>.unNil s (.loop [.int .i64 0] (fun k=>.pi k fun g k=>.unNil k (bif decide (g<(↑n:Int)) then .need (0<=g/\g<(↑n:Int)) (.someA B fun j=>.li ((j.add (g.toNat*5)).add 0) fun q=>.li ((j.add (g.toNat*5)).add 1) fun M=>.li ((j.add (g.toNat*5)).add 2) fun N=>.loadS ((j.add (g.toNat*5)).add 3) fun z w l=>.li ((j.add (g.toNat*5)).add 4) fun O=>.need (0<=q/\q<(↑7:Int)) (.loadStr ((Addr.add { block:=1,off:=0 } (q.toNat*4)).add 0) fun p=>.loadB ((Addr.add { block:=1,off:=0 } (q.toNat*4)).add 1) fun F=>.loadB ((Addr.add { block:=1,off:=0 } (q.toNat*4)).add 2) fun G=>.loadV ((Addr.add { block:=1,off:=0 } (q.toNat*4)).add 3) fun i=>bif isOne i then .sem false (Instr.buildSlice 47 1 #[(0,.int .i64 M)]) fun i=>.unS i fun j x u=>.blk (bif F then .sem false (Instr.buildSlice 47 1 #[(0,.int .i64 N)]) fun i=>.unS i fun r g l=>.sem false (Builtin.append_ #[47,47] 47 #[.slice j x u,.slice r g l]) fun i=>.unS i fun j g l=>.ag [.slice j g l] else .ag [.slice j x u]) (fun k=>.popS k fun j t v k=>.unNil k (.blk (bif G then .sem false (Instr.buildSlice 47 1 #[(0,.int .i64 O)]) fun i=>.unS i fun r g l=>.sem false (Builtin.append_ #[47,47] 47 #[.slice j t v,.slice r g l]) fun i=>.unS i fun j g l=>.ag [.slice j g l] else .ag [.slice j t v]) (fun k=>.popS k fun j y H k=>.unNil k (.cl 66 #[.slice j y H] fun i=>.unS i fun j Q I=>.nds [.S z w l,.pp 8 3,.val (.string p),.pp 9 0,.val (.func (Fn.func 65) #[] #[.pointer (some ⟨m,0,none⟩)])] (.cl 66 #[.slice z w l] fun i=>.unS i fun r J l=>.nds [.pp 8 3,.val (.string p),.pp 9 0,.val (.func (Fn.func 65) #[] #[.pointer (some ⟨m,0,none⟩)])] (.cl 36 #[.slice r J l,.string { data:=#[44] }] fun i=>.unStr i fun R=>.nds [.pp 8 3,.val (.string p),.pp 9 0,.val (.func (Fn.func 65) #[] #[.pointer (some ⟨m,0,none⟩)])] (.sem false (Instr.buildSlice 81 1 #[(0,.string R)]) fun i=>.unS i fun E K l=>.nds [.pp 8 3,.val (.string p),.pp 9 0,.val (.func (Fn.func 65) #[] #[.pointer (some ⟨m,0,none⟩)])] (.sem false (Builtin.append_ #[81,81] 81 #[.slice j Q I,.slice E K l]) fun i=>.unS i fun j L l=>.nds [.pp 8 3,.val (.string p),.pp 9 0,.val (.func (Fn.func 65) #[] #[.pointer (some ⟨m,0,none⟩)])] (.callv false (.func (Fn.func 65) #[] #[.pointer (some ⟨m,0,none⟩)]) #[.string p,.slice j L l] fun i=>.unTup i fun s=>.unNil s (.nds [.pp 8 3,.pp 9 0] (.ag [.int .i64 (wrap .i64 (g+1))]))))))))) (fun k=>.popS k fun j y l k=>.unNil k (.rn [g])) fun C D=>.fail)) (fun k=>.popS k fun j t l k=>.unNil k (.rn [g])) fun C D=>.fail else .fail)) else .bk [g])) (fun k=>.pi k fun g k=>.unNil k (.cI 40 #[.pointer (some ⟨m,0,none⟩)] fun g=>bif decide (g>60000) then .rt (.tuple #[.string { data:=#[] },.int .i64 2]) else .cl 41 #[.pointer (some ⟨m,0,none⟩)] fun i=>.unStr i fun p=>.rt (.tuple #[.string p,.int .i64 0]))) (fun k=>.pi k fun g k=>.unNil k (.rt (.tuple #[.string { data:=#[] },.int .i64 0]))) fun C D=>.fail)):=fk [1,8,9] [⟨0,[(36,.int .i64)],[1],[],[],[]⟩] [⟨16,[(10,.slice)],[1,8,9],[],[],[]⟩,⟨14,[(10,.slice)],[1,8,9],[],[],[]⟩] Tryz.f16
theorem w3703:FX X 6 #[.agg #[a,b,c,d,e,f,.slice B n o]] h A (.cB 14 #[.agg #[a,b,c,d,e,f,.slice B n o]] fun j=>bif j then .cB 15 #[] fun j=>.rt (.bool j) else .cT 16 #[.agg #[a,b,c,d,e,f,.slice B n o]] fun i g=>.unStr i fun l=>.unCons g fun i g=>.ui i fun k=>.unNil g (bif k != 0 then .sem false (Sem.bind (eqGuard BinOp.eql 9 (Operand.tmp 17) (Operand.const (.string { data:=#[] })) (.string l) (.string { data:=#[] })) fun b0=>binOp BinOp.eql 9 (.string l) (.string { data:=#[] })) fun i=>.unB i fun j=>bif j then .cB 15 #[] fun j=>.rt (.bool j) else .rt (.bool false) else .sem false (Builtin.len_ #[9] 3 #[.string l]) fun i=>.ui i fun k=>bif k==0 then .rt (.bool false) else .cT 18 #[.string l] fun i g=>.unAgg i fun q=>.pi q fun k J=>.pi J fun r Q=>.pi Q fun z R=>.pi R fun C S=>.pi S fun D U=>.pi U fun E V=>.popS V fun m F p W=>.unNil W (.unCons g fun i g=>.ui i fun G=>.unCons g fun i g=>.ui i fun H=>.unNil g (.blk (bif H != 0 then .rn [false] else bif G != 0 then .rn [false] else .cB 20 #[.agg #[k,r,z,C,D,E,.slice m F p],.agg #[a,b,c,d,e,f,.slice B n o]] fun j=>bif !j then .rn [false] else .ag [false]) (fun g=>.popB g fun j g=>.unNil g (.sem false (Builtin.len_ #[9] 3 #[.string l]) fun i=>.ui i fun k=>.sem false (Instr.sliceAt 9 (.string l) none (some (.int .i64 (wrap .i64 (k-1)))) none) fun a0=>.unStr a0 fun l=>.cT 18 #[.string l] fun i g=>.unAgg i fun q=>.pi q fun k Y=>.pi Y fun I Z=>.pi Z fun s K=>.pi K fun t L=>.pi L fun u M=>.pi M fun v N=>.popS N fun m w p O=>.unNil O (.unCons g fun i g=>.ui i fun x=>.unCons g fun i g=>.ui i fun y=>.unNil g (bif y==0 then bif x==0 then .cB 20 #[.agg #[k,I,s,t,u,v,.slice m w p],.agg #[a,b,c,d,e,f,.slice B n o]] fun j=>bif j then .cB 15 #[] fun j=>.rt (.bool j) else .rt (.bool false) else .rt (.bool false) else .rt (.bool false))))) (fun g=>.popB g fun j g=>.unNil g (.rt (.bool j))) fun c0 d0=>.fail)))):=fk [1,5] [] [⟨11,[(2,.bool)],[1,5],[],[],[]⟩] Tryz.f6
end Go.Y
end
section
namespace Go.Y.Txt
open Go.TM.Tp
open Go.Lib (decDigits)
attribute [local irreducible] T.wp CV FWK
variable {h:LH}{p:Option Addr}{n:Nat}
theorem c3734(C:PowT 5 h.get){c:Nat}{l:List Int}(s:Sl IntE 1 h.get p n l)(G:l.length<=2^19)(B:∀ v∈l,Sm v):Gr Tryz.prog 66 #[.slice p n c] h fun r h'=>∃ q m k,r=.slice q m k/\BsS h' q m k (l.map di)/\Growing BsEnc 9 1 h.get h'.get q m k (l.map di):=by
 refine w3734 Qr ?_;have H:=s.1;refine Kc (fun w vs h'=>h.le h'/\∃ (q:Option Addr) (m k i:Nat),vs=[.slice q m k,.int .i64 i]/\i<=n/\w=n-i/\Growing BsEnc 9 1 h.get h'.get q m k ((l.take i).map di)) (fun vs h'=>h.le h'/\∃ (q:Option Addr) (m k:Nat) (i:Int),vs=[.slice q m k,.int .i64 i]/\Growing BsEnc 9 1 h.get h'.get q m k (l.map di))
  ⟨LH.le_refl _,none,0,0,0,rfl,Nat.zero_le _,rfl,Growing.nil⟩ ?_ ?_
 ·rintro Y w vs h1 z ⟨b,q,m,k,i,rfl,F,rfl,g⟩;refine yJ (fun y=>?_) (fun y=>?_)
  ·have t:=List.getElem?_eq_getElem (show i<l.length by omega);have e:=List.getElem_mem (show i<l.length by omega);generalize l[i]=x at t e;obtain⟨a,A,j⟩:=(s.le IntE.grow b.1).2.2 i x t;unfold IntE at j;rw[Yy]at j;have o:0<=(i:Int)/\(i:Int)<(n:Int):=by omega
   have d:=B x e;obtain⟨v,rfl⟩ : ∃ v:Nat,x=v:=⟨x.toNat,by have:=d.1;omega⟩
   have D:=d.2;refine gT o (gS2 A (gL0 (by rw[Int.toNat_natCast];exact j) ?_));refine t_gr (c3741 (C.le b.1) v (by omega)) ?_;rintro _ h2 f rfl;refine Qx ?_;refine t_pushS (di (v:Int)) (by rw[List.length_map,List.length_take];omega) (g.le f.1) (LH.le_trans b f) fun E c' h' u _ g'=>?_;refine Qj (z (n-(i+1)) _ _ (by omega) ⟨u,E,m+1,c',i+1,?_,by omega,rfl,?_⟩)
   ·rw[Qo (by omega) (by omega)];rfl
   ·rw[Ww t,List.map_append];exact g'
  ·rw[List.take_of_length_le (by omega)]at g;exact gH ⟨b,q,m,k,_,rfl,g⟩
 ·rintro vs h1 ⟨b,q,m,k,i,rfl,g⟩;refine gZ ?_;exact Qn ⟨b,q,m,k,rfl,growS g (by rw[List.length_map];omega),g⟩
theorem c3733{h0:LH}{r:Nat}{l w:Bs}{k:Nat}{a:List Bs}(b:BldR h0 h r l)(s:BsS h p n k a)(c:a≠[])(hw:w.length<=2^20)(g:a.length<=2^20)(i:(joinS 59 a).length<=2^28)(hlen:l.length<=2^28) :
  FW X0 Tryz.prog 65 #[.string (str w),.slice p n k,.pointer (some ⟨r,0,none⟩)] h fun v h'=>v=.tuple #[]/\BldR h0 h' r (l++lineS w a):=by
 refine w3733 Qr ?_;refine Y1 (b:=[58]) undS (by simp;omega) (Qx ?_);refine gZ ?_;refine t_gr (c3716 s 59 g (by omega)) ?_;rintro _ h1 d rfl;refine Qx ?_;refine Y1 undS (by simp;omega) (Qx ?_);refine Y1 (b:=[59,10]) undS (by simp;omega) (Qx ?_);have e:w++[58]++joinS 59 a++[59,10]=lineS w a:=by rw[lineS_join c];simp
 rw[e];have hle:(lineS w a).length<=2^29:=by rw[<- e];simp;omega
 refine Jm (c3715 (b.grow d) (by omega)) ?_;rintro _ h2 ⟨rfl,f⟩;refine gZ ?_;exact Qn ⟨rfl,f⟩
end Go.Y.Txt
end
namespace Go.Y.Tre
section
open Go.TM.Tr
attribute [local irreducible] T.wp CV FWK
def matV(f:TC)(x:TF)(k i:Int):Value:=.agg #[.int .i64 x.items,.int .i64 x.lands,.int .i64 x.start,.int .i64 x.depend,.int .i64 x.refuse,.int .i64 x.turn,.slice f.p f.n f.c,.int .i64 k,.int .i64 i]
structure MatAt(h:Cells)(a:Addr)(f:TC)(x:TF)(k i:Int):Prop where
 f0:h.cell? ((a.add 0).add 0)=some (.int .i64 x.items)
 f1:h.cell? ((a.add 0).add 1)=some (.int .i64 x.lands)
 f2:h.cell? ((a.add 0).add 2)=some (.int .i64 x.start)
 f3:h.cell? ((a.add 0).add 3)=some (.int .i64 x.depend)
 f4:h.cell? ((a.add 0).add 4)=some (.int .i64 x.refuse)
 f5:h.cell? ((a.add 0).add 5)=some (.int .i64 x.turn)
 f6:h.cell? ((a.add 0).add 6)=some (.slice f.p f.n f.c)
 f7:h.cell? ((a.add 0).add 7)=some (.int .i64 k)
 f8:h.cell? ((a.add 0).add 8)=some (.int .i64 i)
variable {h:LH}{a:Addr}{f:TC}{x:TF}{k i:Int}{K:Nat}{X:XP}
theorem MatAt.rd{h h':Cells}(b:Rd h h')(m:MatAt h a f x k i):MatAt h' a f x k i :=
 ⟨b _ _ m.f0,b _ _ m.f1,b _ _ m.f2,b _ _ m.f3,b _ _ m.f4,b _ _ m.f5,b _ _ m.f6,b _ _ m.f7,b _ _ m.f8⟩
theorem MatAt.le{h h':Cells}{a:Addr}{f:TC}{x:TF}{k i:Int}(b:h.le h')(m:MatAt h a f x k i):MatAt h' a f x k i:=m.rd (Jv b)
theorem Gv(a:Addr):a.add 0=a:=by unfold Addr.add;simp
theorem add_zero2(a:Addr)(i:Nat):(a.add 0).add i=a.add i:=by rw[Gv]
theorem MatAt.s7{h:Cells}(m:MatAt h a f x k i):h.cell? (a.add 7)=some (.int .i64 k):=by have:=m.f7;rwa[add_zero2]at this
theorem MatAt.s8{h:Cells}(m:MatAt h a f x k i):h.cell? (a.add 8)=some (.int .i64 i):=by have:=m.f8;rwa[add_zero2]at this
def allB(K:Nat)(k i:Int)(e:Ev):Bool:=(e.kind==(K:Int))&&((!landK K||(e.land==k))&&e.items.contains i)
theorem Kp(a:K≠4)(k i:Int)(e:Ev):allB K k i e=about e K k i:=by
 unfold allB about landK;have:Nat.beq K 4=false:=by
  cases hb:Nat.beq K 4 with
  | false=>rfl
  | true=>exact absurd (Nat.eq_of_beq_eq_true hb) a
 simp[this]
def handedE{α:Type}(V:Nat->Value)(s:α->Bool):List α->Nat->List (List Value)
 | [],_=>[]
 | x::l,i=>if s x then [V i]::handedE V s l (i+1) else handedE V s l (i+1)
theorem handedE_len{α:Type}(V:Nat->Value)(s:α->Bool):∀ (l:List α) (i:Nat),(handedE V s l i).length=(l.filter s).length:=by
 intro l
 induction l with
 | nil=>intro i;rfl
 | cons x l a=>intro i;rw[handedE,List.filter_cons];split<;>simp[a]
theorem handedE_get{α:Type}(V:Nat->Value)(s:α->Bool):∀ (l:List α) (i k:Nat) xs,(handedE V s l i)[k]?=some xs->∃ x j,(l.filter s)[k]?=some x/\l[j]?=some x/\xs=[V (i+j)]:=by
 intro l
 induction l with
 | nil=>intro i k xs h;simp[handedE]at h
 | cons x l b =>
  intro i k xs h;rw[handedE]at h;rw[List.filter_cons];split at h
  ·rename_i a;rw[if_pos a];cases k with
   | zero=>simp at h;exact⟨x,0,rfl,rfl,by simp[<- h]⟩
   | succ k =>
    obtain⟨y,j,h1,h2,h3⟩:=b (i+1) k xs (by simpa using h);exact⟨y,j+1,by simpa using h1,by simpa using h2,by rw[h3,show i+1+j=i+(j+1) by omega]⟩
  ·rename_i a;rw[if_neg a];obtain⟨y,j,h1,h2,h3⟩:=b (i+1) k xs h;exact⟨y,j+1,h1,by simpa using h2,by rw[h3,show i+1+j=i+(j+1) by omega]⟩
def evV(e:Ev)(q:Option Addr)(m c:Nat):Value:=.agg #[.int .i64 e.kind,.int .i64 e.day,.int .i64 e.land,.slice q m c,.int .i64 e.since]
theorem hands2095(U:XOK X){h₀:LH}(hk:Kinds h₀.get){O P:Addr}(Q:K<7)(hm:MatAt h₀.get O f x k i)(N:h₀.get.cell? P=some (.int .i64 (K:Int)))(hx:TreatyR h₀.get f x) :
  ∃ L,L.length=(x.events.filter (allB K k i)).length/\(∀ (j:Nat) xs,L[j]?=some xs->∃ e q m c,(x.events.filter (allB K k i))[j]?=some e/\xs=[evV e q m c]/\Sl IntE 1 h₀.get q m e.items) /\
   Hands X Tryz.prog (.func (.func 189) #[] #[.pointer (some O),.pointer (some P)]) h₀ L:=by
 have I:=hx.2;let R:Nat->Value->Prop:=fun j v=>∃ e a q m c,x.events[j]?=some e/\f.p=some a/\v=evV e q m c/\h₀.get.cell? ((a.add (j*5)).add 0)=some (.int .i64 e.kind)/\h₀.get.cell? ((a.add (j*5)).add 1)=some (.int .i64 e.day)/\h₀.get.cell? ((a.add (j*5)).add 2)=some (.int .i64 e.land)/\h₀.get.cell? ((a.add (j*5)).add 3)=some (.slice q m c)/\h₀.get.cell? ((a.add (j*5)).add 4)=some (.int .i64 e.since)/\Sl IntE 1 h₀.get q m e.items;have hR:∀ j e,x.events[j]?=some e->∃ v,R j v:=by
  intro j e he;obtain⟨a,Z,B,o,t,⟨q,m,c,u,_,e5⟩,e6⟩:=I.2.2 j e he;exact⟨_,e,a,q,m,c,he,Z,rfl,B,o,t,u,e6,e5⟩
 let V:Nat->Value:=fun j=>Classical.epsilon (R j);have S:∀ j e,x.events[j]?=some e->R j (V j):=fun j e he=>Classical.epsilon_spec (hR j e he);refine⟨handedE V (allB K k i) x.events 0,handedE_len _ _ _ _,?_,?_⟩
 ·intro j xs hj;obtain⟨e,j',h1,h2,h3⟩:=handedE_get _ _ _ _ _ _ hj;rw[Nat.zero_add]at h3;obtain⟨e',a,q,m,c,w,_,g3,_,_,_,_,_,g8⟩:=S j' e h2;rw[h2]at w;cases w;exact⟨e,q,m,c,h1,by rw[h3,g3],g8⟩
 ·intro y J E _ _ l h hle hJ;generalize hL:handedE V (allB K k i) x.events 0=L at l ⊢;refine Hs U (by rfl) (?_:FW X Tryz.prog 189 #[y,.pointer (some O),.pointer (some P)] h _);refine w2095 U ?_;have hn:=I.1;have hb:=I.2.1;have y6:=Qm hle.1 hm.f6;refine gL1 y6 ?_;refine Jc (fun mm vs h'=>h₀.le h'/\∃ (j cnt:Nat),vs=[.int .i64 j]/\j<=f.n/\mm=f.n-j/\J cnt h'/\cnt<=L.length/\L.drop cnt=handedE V (allB K k i) (x.events.drop j) j) (n:=f.n) ⟨hle,0,0,rfl,Nat.zero_le _,by omega,hJ,Nat.zero_le _,by rw[<- hL];rfl⟩ ?_;rintro Y mm vs h₁ W ⟨g,j,cnt,rfl,hj,rfl,s,F,d⟩;refine yJ (fun B=>?_) (fun B=>?_)
  ·obtain⟨e,he⟩ : ∃ e,x.events[j]?=some e:=⟨x.events[j]'(by omega),List.getElem?_eq_getElem (by omega)⟩
   obtain⟨e',a,q,m,c,w,Z,D,c0,c1,c2,c3,c4,G⟩:=S j e he;rw[he]at w;cases w;have d0:=Qm g.1 c0;have d1:=Qm g.1 c1;have d2:=Qm g.1 c2;have d3:=Qm g.1 c3;have d4:=Qm g.1 c4;have w1:=Qm g.1 N;have m1:=hm.le g.1;have w7:=m1.s7;have w8:=m1.s8;have kl:=(hk.le g.1).landAt' Q;have g0:=(hk.le g.1).landAt Q;rw[J0 he,handedE]at d;refine gZ ?_;have skip:allB K k i e=false->Y [.int .i64 (wrap .i64 ((j:Int)+1))] h₁:=by
    intro H;rw[if_neg (by rw[H];simp)]at d;refine W (f.n-(j+1)) _ _ (by omega) ⟨g,j+1,cnt,?_,by omega,rfl,s,F,d⟩;rw[Qo (by omega) (by omega)];rfl
   refine Jk (fun vs h'=>vs=[.bool (!landK K||(e.land==k))]/\h₁=h') ?_ ?_
   ·refine yI (fun o=>?_) (fun o=>?_)
    ·exact Qj ⟨by simp at o;rw[o];rfl,rfl⟩
    ·refine gZ ?_;exact Qj ⟨by simp at o;rw[o];rfl,rfl⟩
   rintro vs _ ⟨rfl,rfl⟩;refine yI (fun o=>?_) (fun o=>?_)
   ·refine Qt (fun t=>?_) (fun t=>?_)
    ·refine gZ ?_;refine t_pu (c100 (G.le IntE.grow g.1) i) ?_;refine yI (fun u=>?_) (fun u=>?_)
     ·have M:allB K k i e=true:=by unfold allB;rw[o,t,u];rfl
      rw[if_pos M]at d;have r:L[cnt]?=some [V j]:=by
       have:(L.drop cnt)[0]?=some [V j]:=by rw[d];rfl
       simpa using this
      have e0:cnt<L.length:=(List.getElem?_eq_some_iff.1 r).1;have z:=l cnt h₁ [V j] g r s;rw[D]at z;refine J3 z ?_;rintro b a0 ⟨A,⟨rfl,C⟩|⟨rfl,hE⟩⟩
      ·refine yF ?_;refine Qj (W (f.n-(j+1)) _ _ (by omega) ⟨A,j+1,cnt+1,?_,by omega,rfl,C,by omega,?_⟩)
       ·rw[Qo (by omega) (by omega)];rfl
       ·rw[<- List.drop_drop,d];rfl
      ·refine yT ?_;refine gZ ?_;exact Qn ⟨A,.inr hE⟩
     ·exact Qj (skip (by unfold allB;rw[u];simp))
    ·exact Qj (skip (by unfold allB;rw[t];simp))
   ·exact Qj (skip (by unfold allB;rw[o];rfl))
  ·refine gZ ?_;refine Qn ⟨g,.inl ?_⟩;rw[List.drop_eq_nil_of_le (by omega:x.events.length<=j),handedE]at d;have:cnt=L.length:=by
    have:=List.drop_eq_nil_iff.1 d;omega
   rw[<- this];exact s
theorem c2083(f:TC)(x:TF)(k i:Int)(K:Int):Gr Tryz.prog 161 #[matV f x k i,K] h fun r h'=>∃ d e,r=.func (.func 189) #[] #[.pointer (some d),.pointer (some e)]/\MatAt h'.get d f x k i/\h'.get.cell? e=some (.int .i64 K):=by
 refine w2083 Qr ?_;refine Z5 fun r hr=>?_;refine Z5 fun r1 a=>?_;have g:h.le _:=Q4 (x:=(true,.cells #[.int .i64 x.items,.int .i64 x.lands,.int .i64 x.start,.int .i64 x.depend,.int .i64 x.refuse,.int .i64 x.turn,.slice f.p f.n f.c,.int .i64 k,.int .i64 i] 196 (0,0))) hr;have b:=Q4 (x:=(true,.cells #[.int .i64 K] 118 (0,0))) a;refine Qn ⟨LH.le_trans g b,_,_,rfl,?_,Q5 rfl⟩;refine MatAt.le b.1 ?_;constructor<;>(rw[Qa,Qa];exact Q5 rfl)
theorem Yk{Q:Leaf->LH->Prop}{kk:Value->T}(d:XOK X)(g:Kinds h.get)(l:TreatyR h.get f x)(k i:Int)(K:Nat)(b:K<7)
 (hw:∀ v h' L,h.le h'->L.length=(x.events.filter (allB K k i)).length->(∀ (j:Nat) xs,L[j]?=some xs->∃ e q m c,(x.events.filter (allB K k i))[j]?=some e/\xs=[evV e q m c]/\Sl IntE 1 h'.get q m e.items)->Hands X Tryz.prog v h' L->(kk v).wp X Tryz.prog Q h') :
  (T.call false 161 #[matV f x k i,.int .i64 (K:Int)] kk).wp X Tryz.prog Q h:=by
 refine t_gr (c2083 f x k i K) ?_;rintro _ h₁ a ⟨o,p,rfl,hm,n⟩;obtain⟨L,h1,h2,h3⟩:=hands2095 d (g.le a.1) b hm n (l.le a.1);exact hw _ h₁ L a h1 h2 h3
def Jb(a:Int):List Int->Int
 | []=>a
 | y::l=>Jb (if y<a then y else a) l
theorem least_nil:least []=10000:=rfl
theorem Dn(y:Int)(l:List Int):least (y::l)=if y<least l then y else least l:=rfl
theorem Kr:∀ (l:List Int) (a:Int),a<=10000->Jb a l=(if a<least l then a else least l)
 | [],a,h=>by
  rw[Jb,least_nil];split<;>omega
 | y::l,a,h=>by
  have hc:=Gq l;rw[Jb,Kr l _ (by split<;>omega),Dn];generalize least l=b at hc ⊢;by_cases c:y<a<;>by_cases d:y<b<;>by_cases e:a<b<;>by_cases f:a<y<;>simp[c,d,e,f]<;>omega
theorem Gc(l:List Int):Jb 10000 l=least l:=by
 rw[Kr l _ (Int.le_refl _)];have hc:=Gq l;split<;>omega
theorem fallsL_all(x:TF)(k i fr:Int):fallsL x i fr=((x.events.filter (allB 4 k i)).filter fun e=>decide (e.since<=x.start+x.depend)&&decide (fr<=e.day)).map (·.day):=by
 unfold fallsL;rw[List.filter_filter];congr 1;refine List.filter_congr fun e _=>?_;unfold Tr.early allB landK;have a:Nat.beq 4 4=true:=rfl;rw[a,Bool.not_true,Bool.not_false,Bool.true_or,Bool.true_and];show ((e.kind==4)&&decide (e.since<=x.start+x.depend)&&(e.items.contains i&&decide (fr<=e.day)))=(decide (e.since<=x.start+x.depend)&&decide (fr<=e.day)&&((e.kind==4)&&e.items.contains i));cases (e.kind==4)<;>cases decide (e.since<=x.start+x.depend)<;>cases e.items.contains i<;>cases decide (fr<=e.day)<;>rfl
theorem limitsL_all(x:TF)(k i fr:Int):limitsL x k i fr=((x.events.filter (allB 3 k i)).filter fun e=>decide (fr<=e.day)).map (·.day):=by
 unfold limitsL;rw[List.filter_filter];congr 1;refine List.filter_congr fun e _=>?_;rw[Kp (by decide)];rw[Bool.and_comm];rfl
theorem c2096(y:Kinds h.get)(z:TreatyR h.get f x)(a:IsI (x.start+x.depend))(k i fr:Int):Gr Tryz.prog 193 #[matV f x k i,fr] h fun r _=>r=.int .i64 (falls x i fr):=by
 refine w2096 Qr ?_;refine Yk Qr y z k i 4 (by decide) ?_;intro v h₁ L n g b t;rw[falls,fallsL_all x k i fr];generalize A:x.events.filter (allB 4 k i)=F at g b;refine Df (LH.le_refl h₁) t (fun j vs h'=>∃ d:Int,vs=[.int .i64 d]/\d<=10000/\least ((F.filter fun e=>decide (e.since<=x.start+x.depend)&&decide (fr<=e.day)).map (·.day))=Jb d (((F.drop j).filter fun e=>decide (e.since<=x.start+x.depend)&&decide (fr<=e.day)).map (·.day)))
  ⟨10000,rfl,Int.le_refl _,(Gc _).symm⟩ ?_ ?_
 ·rintro vs h' hle ⟨d,rfl,_,hc⟩;rw[List.drop_eq_nil_of_le (by omega)]at hc;refine gZ ?_;exact Qn ⟨LH.le_trans n hle,by rw[hc];rfl⟩
 ·rintro j xs vs h' w hle ⟨d,rfl,o,hc⟩ Y l;obtain⟨e,q,m,c,he,rfl,u⟩:=b j xs w;rw[J0 he,List.filter_cons]at hc;unfold evV;refine gZ ?_;rw[Qo a.1 a.2];refine t_if (fun p=>?_) (fun p=>?_)
  ·refine t_if (fun s=>?_) (fun s=>?_)
   ·rw[if_pos (by simp;omega),List.map_cons,Jb]at hc;exact Jq hle (l _ _ hle ⟨_,rfl,by split<;>omega,hc⟩)
   ·rw[if_neg (by simp;omega)]at hc;exact Jq hle (l _ _ hle ⟨_,rfl,o,hc⟩)
  ·rw[if_neg (by simp;omega)]at hc;exact Jq hle (l _ _ hle ⟨_,rfl,o,hc⟩)
theorem c2094(u:Kinds h.get)(w:TreatyR h.get f x)(k i fr:Int):Gr Tryz.prog 188 #[matV f x k i,fr] h fun r _=>r=.int .i64 (limits x k i fr):=by
 refine w2094 Qr ?_;refine Yk Qr u w k i 3 (by decide) ?_;intro v h₁ L g b a o;rw[limits,limitsL_all x k i fr];generalize y:x.events.filter (allB 3 k i)=F at b a;refine Df (LH.le_refl h₁) o (fun j vs h'=>∃ d:Int,vs=[.int .i64 d]/\d<=10000/\least ((F.filter fun e=>decide (fr<=e.day)).map (·.day))=Jb d (((F.drop j).filter fun e=>decide (fr<=e.day)).map (·.day)))
  ⟨10000,rfl,Int.le_refl _,(Gc _).symm⟩ ?_ ?_
 ·rintro vs h' hle ⟨d,rfl,_,hc⟩;rw[List.drop_eq_nil_of_le (by omega)]at hc;refine gZ ?_;exact Qn ⟨LH.le_trans g hle,by rw[hc];rfl⟩
 ·rintro j xs vs h' t hle ⟨d,rfl,p,hc⟩ Y l;obtain⟨e,q,m,c,he,rfl,s⟩:=a j xs t;rw[J0 he,List.filter_cons]at hc;unfold evV;refine yJ (fun n=>?_) (fun n=>?_)
  ·rw[if_pos (by simp;omega),List.map_cons,Jb]at hc;exact Jq hle (l _ _ hle ⟨_,rfl,by split<;>omega,hc⟩)
  ·rw[if_neg (by simp;omega)]at hc;exact Jq hle (l _ _ hle ⟨_,rfl,p,hc⟩)
end
section
open Go.TM.Tr
attribute [local irreducible] T.wp CV FWK
variable {h:LH}{f:TC}{x:TF}{k i a:Int}
theorem c2097(B:Kinds h.get)(C:TreatyR h.get f x){t u:Addr}{d:Int}(hm:MatAt h.get t f x k i)(D:h.get.cell? u=some (.int .i64 d))(fr:Int) :
  Gr Tryz.prog 194 #[fr,.pointer (some t),.pointer (some u)] h fun r _=>r=.bool (lifted x k i fr d):=by
 refine w2097 Qr ?_;obtain⟨f0,f1,f2,f3,f4,f5,f6,f7,f8⟩:=hm;refine gZ ?_;refine Yk Qr B C k i 2 (by decide) ?_;intro v h₁ L g p n w;have b:lifted x k i fr d=(x.events.filter (allB 2 k i)).any fun l=>decide (fr<=l.day/\l.day<=d):=by
  unfold Tr.lifted;rw[List.any_filter];refine congrArg (fun q=>x.events.any q) (funext fun e=>?_);rw[Kp (by decide)];rfl
 rw[b];generalize G:x.events.filter (allB 2 k i)=F at p n;have s:=Qm g.1 D;refine Df (LH.le_refl h₁) w (fun j vs h'=>vs=[.bool false]/\(F.any fun l=>decide (fr<=l.day/\l.day<=d))=(F.drop j).any fun l=>decide (fr<=l.day/\l.day<=d)) ⟨rfl,rfl⟩ ?_ ?_
 ·rintro vs h' hle ⟨rfl,hc⟩;rw[List.drop_eq_nil_of_le (by omega)]at hc;refine gZ ?_;exact Qn ⟨LH.le_trans g hle,by rw[hc];rfl⟩
 ·rintro j xs vs h' A hle ⟨rfl,hc⟩ Y y;obtain⟨e,q,m,c,he,rfl,z⟩:=n j xs A;rw[J0 he,List.any_cons]at hc;have E:=Qm hle.1 s;unfold evV;refine gZ ?_;refine t_pu (c2052 _ _ _) ?_;refine yI (fun o=>?_) (fun o=>?_)
  ·refine t_retnE hle ?_;have a:decide (fr<=e.day/\e.day<=d)=true:=by simpa[inB] using o
   rw[a,Bool.true_or]at hc;refine gZ ?_;exact Qn ⟨LH.le_trans g hle,by rw[hc]⟩
  ·have a:decide (fr<=e.day/\e.day<=d)=false:=by simpa[inB] using o
   rw[a,Bool.false_or]at hc;exact Jq hle (y _ _ hle ⟨rfl,hc⟩)
def askCells(f:TC)(x:TF)(k i a:Int):List Value:=[.int .i64 x.items,.int .i64 x.lands,.int .i64 x.start,.int .i64 x.depend,.int .i64 x.refuse,.int .i64 x.turn,.slice f.p f.n f.c,.int .i64 k,.int .i64 i,.int .i64 a,.int .i64 (askEnd x k i a),.bool (fallen x k i a)]
def askV(f:TC)(x:TF)(k i a:Int):Value:=.agg #[.int .i64 x.items,.int .i64 x.lands,.int .i64 x.start,.int .i64 x.depend,.int .i64 x.refuse,.int .i64 x.turn,.slice f.p f.n f.c,.int .i64 k,.int .i64 i,.int .i64 a,.int .i64 (askEnd x k i a),.bool (fallen x k i a)]
def AskE(f:TC)(x:TF)(k i:Int)(h:Cells)(a:Addr)(d:Int):Prop:=∀ (j:Nat) w,(askCells f x k i d)[j]?=some w->h.cell? (a.add j)=some w
def AskEnc(f:TC)(x:TF)(k i:Int)(d:Int)(ws:List Value):Prop:=ws=askCells f x k i d
theorem AskE.grow:Grow (AskE f x k i):=fun _ _ _ _ b h j w a=>b _ _ (h j w a)
theorem AskEnc.len:∀ d ws,AskEnc f x k i d ws->ws.length=12:=by rintro d _ rfl;rfl
theorem AskEnc.e{h':Cells}:∀ a d ws,AskEnc f x k i d ws->(∀ (j:Nat) w,ws[j]?=some w->h'.cell? (a.add j)=some w)->AskE f x k i h' a d:=by
 rintro a d _ rfl hc;exact hc
theorem refused_any(x:TF)(k i a d:Int):refused x k i a d=(x.events.filter (allB 1 k i)).any fun r=>decide (a<=r.day/\r.day<=a+x.refuse/\r.day<=d)&&!lifted x k i r.day d:=by
 unfold Tr.refused;rw[List.any_filter];refine congrArg (fun q=>x.events.any q) (funext fun e=>?_);rw[Kp (by decide)];rfl
theorem in_min(n a b d:Int):inB n a (if b<d then b else d)=decide (a<=n/\n<=b/\n<=d):=by
 unfold inB;rw[Bool.eq_iff_iff];simp only[Bool.and_eq_true,decide_eq_true_eq];split<;>omega
theorem c2085(O:Kinds h.get)(P:TreatyR h.get f x)(k i:Int)(N:IsI (a+x.refuse))(e:Int)(s:Bool)(d:Int) :
  Gr Tryz.prog 165 #[.agg #[.int .i64 x.items,.int .i64 x.lands,.int .i64 x.start,.int .i64 x.depend,.int .i64 x.refuse,.int .i64 x.turn,.slice f.p f.n f.c,k,i,a,e,.bool s],d] h fun r _=>r=.bool (refused x k i a d):=by
 refine w2085 Qr ?_;refine Z5 fun r hr=>?_;refine Z5 fun r1 H=>?_;have Q:h.le _:=Q4 (x:=(true,.cells #[.int .i64 x.items,.int .i64 x.lands,.int .i64 x.start,.int .i64 x.depend,.int .i64 x.refuse,.int .i64 x.turn,.slice f.p f.n f.c,.int .i64 k,.int .i64 i,.int .i64 a,.int .i64 e,.bool s] 201 (0,0))) hr;have z:=Q4 (x:=(true,.cells #[.int .i64 d] 3 (0,0))) H;have hm:MatAt (h.get.upd r (true,.cells #[.int .i64 x.items,.int .i64 x.lands,.int .i64 x.start,.int .i64 x.depend,.int .i64 x.refuse,.int .i64 x.turn,.slice f.p f.n f.c,.int .i64 k,.int .i64 i,.int .i64 a,.int .i64 e,.bool s] 201 (0,0))) ⟨r,0,none⟩ f x k i:=by
  constructor<;>(rw[Qa,Qa];exact Q5 rfl)
 have t:Cells.cell? (h.get.upd r (true,.cells #[.int .i64 x.items,.int .i64 x.lands,.int .i64 x.start,.int .i64 x.depend,.int .i64 x.refuse,.int .i64 x.turn,.slice f.p f.n f.c,.int .i64 k,.int .i64 i,.int .i64 a,.int .i64 e,.bool s] 201 (0,0))) (Addr.add ⟨r,0,none⟩ 9)=some (.int .i64 a):=by rw[Qa];exact Q5 rfl
 have I:=Q5 (h:=h.get.upd r (true,.cells #[.int .i64 x.items,.int .i64 x.lands,.int .i64 x.start,.int .i64 x.depend,.int .i64 x.refuse,.int .i64 x.turn,.slice f.p f.n f.c,.int .i64 k,.int .i64 i,.int .i64 a,.int .i64 e,.bool s] 201 (0,0))) (r:=r1) (i:=0) (m:=true) (cs:=#[.int .i64 d]) (el:=3) (f:=(0,0)) (v:=.int .i64 d) rfl;have hm:=hm.le z.1;have t:=Qm z.1 t;have b:=LH.le_trans Q z;generalize y:({ h with get:=(h.get.upd r (true,.cells #[.int .i64 x.items,.int .i64 x.lands,.int .i64 x.start,.int .i64 x.depend,.int .i64 x.refuse,.int .i64 x.turn,.slice f.p f.n f.c,.int .i64 k,.int .i64 i,.int .i64 a,.int .i64 e,.bool s] 201 (0,0))).upd r1 (true,.cells #[.int .i64 d] 3 (0,0)) }:LH)=h2 at b ⊢;have hm:MatAt h2.get ⟨r,0,none⟩ f x k i:=by rw[<- y];exact hm
 have t:h2.get.cell? (Addr.add ⟨r,0,none⟩ 9)=some (.int .i64 a):=by rw[<- y];exact t
 have I:h2.get.cell? ⟨r1,0,none⟩=some (.int .i64 d):=by rw[<- y];exact I
 clear y Q z;have E:=hm;obtain⟨f0,f1,f2,f3,f4,f5,f6,f7,f8⟩:=hm;refine gZ ?_;refine Yk Qr (O.le b.1) (P.le b.1) k i 1 (by decide) ?_;intro v h₁ L g D u S;rw[refused_any];generalize W:x.events.filter (allB 1 k i)=F at D u;have G:=E.le g.1;have C:=Qm g.1 t;have J:=Qm g.1 I;refine Df (LH.le_refl h₁) S (fun j vs h'=>vs=[.bool false]/\(F.any fun r=>decide (a<=r.day/\r.day<=a+x.refuse/\r.day<=d)&&!lifted x k i r.day d)=(F.drop j).any fun r=>decide (a<=r.day/\r.day<=a+x.refuse/\r.day<=d)&&!lifted x k i r.day d) ⟨rfl,rfl⟩ ?_ ?_
 ·rintro vs h' hle ⟨rfl,hc⟩;rw[List.drop_eq_nil_of_le (by omega)]at hc;refine gZ ?_;exact Qn ⟨LH.le_trans b (LH.le_trans g hle),by rw[hc];rfl⟩
 ·rintro j xs vs h' V hle ⟨rfl,hc⟩ Y M;obtain⟨ev,q,m,c,he,rfl,U⟩:=u j xs V;rw[J0 he,List.any_cons]at hc;have w:=G.le hle.1;have R:=Qm hle.1 C;have K:=Qm hle.1 J;have f44:h'.get.cell? (Addr.add (Addr.add (Addr.add ⟨r,0,none⟩ 0) 0) 4)=some (.int .i64 x.refuse):=by
   have:=w.f4;rwa[show Addr.add (Addr.add (⟨r,0,none⟩ : Addr) 0) 0=Addr.add ⟨r,0,none⟩ 0 by rw[Gv]]
  unfold evV;refine gZ ?_;rw[Qo N.1 N.2];refine t_pu (c2052 _ _ _) ?_;rw[in_min];refine yI (fun A=>?_) (fun A=>?_)
  ·rw[A,Bool.true_and]at hc;have l:=LH.le_trans g hle;refine J3 (Hs Qr (by rfl) (c2097 ((O.le b.1).le l.1) ((P.le b.1).le l.1) w K ev.day)) ?_;rintro _ h5 ⟨o,rfl⟩;refine yI (fun B=>?_) (fun B=>?_)
   ·refine t_retnE (LH.le_trans hle o) ?_;refine gZ ?_;rw[B,Bool.true_or]at hc;exact Qn ⟨LH.le_trans b (LH.le_trans l o),by rw[hc]⟩
   ·rw[B,Bool.false_or]at hc;exact Jq (LH.le_trans hle o) (M _ _ (LH.le_trans hle o) ⟨rfl,hc⟩)
  ·rw[A,Bool.false_and,Bool.false_or]at hc;exact Jq hle (M _ _ hle ⟨rfl,hc⟩)
theorem c2137(j:Kinds h.get)(l:TreatyR h.get f x)(k i:Int)(g:IsI (a+x.refuse))(he:IsI (askEnd x k i a-1))(d:Int) :
  Gr Tryz.prog 272 #[askV f x k i a,d] h fun r _=>r=.tuple #[a,.bool (decide (a<=d/\d<askEnd x k i a)&&!refused x k i a d)]:=by
 refine w2137 Qr ?_;rw[Qo he.1 he.2];have c:inB d a (askEnd x k i a-1)=decide (a<=d/\d<askEnd x k i a):=by
  unfold inB;rw[Bool.eq_iff_iff];simp only[Bool.and_eq_true,decide_eq_true_eq];omega
 refine t_pu (c2052 _ _ _) ?_;rw[c];refine yI (fun b=>?_) (fun b=>?_)
 ·refine t_gr (c2085 j l k i g _ _ d) ?_;rintro _ h1 e rfl;refine gZ ?_;exact Qn ⟨e,by rw[b,Bool.true_and]⟩
 ·refine gZ ?_;refine Wo ?_ ?_
  ·refine gZ ?_;exact Qn ⟨LH.le_refl _,by rw[b,Bool.false_and]⟩
  ·refine gZ ?_;exact Qn ⟨LH.le_refl _,by rw[b,Bool.false_and]⟩
theorem askDays_all(x:TF)(k i:Int):askDays x k i=((x.events.filter (allB 0 k i)).filter fun e=>decide (e.day<falls x i 0)).map (·.day):=by
 unfold askDays;rw[List.filter_filter];congr 1;refine List.filter_congr fun e _=>?_;rw[Kp (by decide),Bool.and_comm];rfl
theorem c2084(D:Kinds h.get)(E:TreatyR h.get f x)(l:IsI (x.start+x.depend))(hlen:x.events.length<=1000)(k i:Int) :
  Gr Tryz.prog 164 #[matV f x k i] h fun r h'=>∃ p n c,r=.slice p n c/\Sl (AskE f x k i) 12 h'.get p n (askDays x k i):=by
 refine w2084 Qr ?_;refine Yk Qr D E k i 0 (by decide) ?_;intro v h₁ L A u y J;rw[askDays_all];have G:(x.events.filter (allB 0 k i)).length<=1000:=Nat.le_trans (List.length_filter_le _ _) hlen;generalize R:x.events.filter (allB 0 k i)=F at u y G;refine Df (LH.le_refl h₁) J (fun j vs h'=>∃ (p:Option Addr) (n c:Nat),vs=[.slice p n c]/\Growing (AskEnc f x k i) 201 12 h₁.get h'.get p n c (((F.take j).filter fun e=>decide (e.day<falls x i 0)).map (·.day)))
  ⟨none,0,0,rfl,Growing.nil⟩ ?_ ?_
 ·rintro vs h' hle ⟨p,n,c,rfl,g⟩;rw[u,List.take_of_length_le (Nat.le_refl _)]at g;refine gZ ?_;refine Qn ⟨LH.le_trans A hle,p,n,c,rfl,g.sl AskEnc.len (by omega) AskEnc.e ?_⟩;rw[List.length_map];have:=List.length_filter_le (fun e:Ev=>decide (e.day<falls x i 0)) F;omega
 ·rintro j xs vs h' M hle ⟨p,n,c,rfl,g⟩ Y H;obtain⟨e,q,m,O,he,rfl,K⟩:=y j xs M;have b:F.take (j+1)=F.take j++[e]:=by rw[List.take_add_one,he];rfl
  have s:=LH.le_trans A hle;unfold evV;refine gZ ?_;refine t_gr (c2096 (D.le s.1) (E.le s.1) l k i 0) ?_;rintro _ h3 a rfl;refine yJ (fun I=>?_) (fun I=>?_)
  ·refine Jq (LH.le_trans hle a) (H _ _ (LH.le_trans hle a) ⟨p,n,c,rfl,?_⟩);rw[b,List.filter_append,List.filter_cons,if_neg (by simp;omega)];simpa using g.le a.1
  have d:=LH.le_trans s a;refine t_gr (c2096 (D.le d.1) (E.le d.1) l k i e.day) ?_;rintro _ P t rfl;refine gZ ?_;have o:=LH.le_trans d t;refine t_gr (c2094 (D.le o.1) (E.le o.1) k i e.day) ?_;rintro _ h5 B rfl;refine gZ ?_;have z:=LH.le_trans hle (LH.le_trans a (LH.le_trans t B));have S:n<=1000:=by
   rw[g.count AskEnc.len (by omega),List.length_map];have h1:=List.length_filter_le (fun e:Ev=>decide (e.day<falls x i 0)) (F.take j);have h2:(F.take j).length<=1000:=by rw[List.length_take];omega
   omega
  refine G1 e.day (askCells f x k i e.day) rfl rfl undAsks infAsk rfl (by omega) (by decide) (by kernel_rfl) rfl ?_ (by omega) (g.le (LH.le_trans a (LH.le_trans t B)).1) z rfl ?_
  ·intro w hw;simp only[askCells,List.mem_cons,List.not_mem_nil,or_false]at hw;rcases hw with rfl|rfl|rfl|rfl|rfl|rfl|rfl|rfl|rfl|rfl|rfl|rfl<;>rfl
  ·intro N c' Q C _ g6;refine gZ ?_;refine Jq C (H _ _ C ⟨N,_,c',rfl,?_⟩);rw[b,List.filter_append,List.filter_cons,if_pos (by simp;omega),List.map_append];exact g6
end
section
open Go.TM.Tr
attribute [local irreducible] T.wp CV FWK
structure Right(x:TF):Prop where
 ok:Ok x
 start:0<=x.start/\x.start<=9999
 depend:0<=x.depend/\x.depend<=9999
 refuse:0<=x.refuse/\x.refuse<=9999
 turn:0<=x.turn/\x.turn<=9999
 many:x.events.length<=10
variable {x:TF}{k i a d:Int}{l:List Int}
theorem Right.of(h:checkT x=0):Right x:=by
 have:=J9 h;exact⟨check_ok h,this.2.2.1,this.2.2.2.1,this.2.2.2.2.1,this.2.2.2.2.2.1,this.2.2.2.2.2.2⟩
theorem Right.sum(r:Right x):IsI (x.start+x.depend):=by have:=r.start;have:=r.depend;unfold IsI;omega
theorem Right.askDay(r:Right x)(h:a∈askDays x k i):0<=a/\a<=9999:=r.ok.has (Ya.1 h).1
theorem falls_low(v:Ok x)(i f:Int):0<=falls x i f/\falls x i f<=10000:=by
 refine⟨?_,Gq _⟩;rcases Zs (l:=fallsL x i f) with h|h
 ·unfold falls;omega
 ·obtain⟨e,h1,_,_,a⟩:=(Wg.1 h).1;have:=v e h1;unfold falls;omega
theorem limits_low(v:Ok x)(k i f:Int):0<=limits x k i f/\limits x k i f<=10000:=by
 refine⟨?_,Gq _⟩;rcases Zs (l:=limitsL x k i f) with h|h
 ·unfold limits;omega
 ·have:=v.has (G7.1 h).1;unfold limits;omega
theorem askEnd_low(v:Ok x)(k i a:Int):0<=askEnd x k i a/\askEnd x k i a<=10000:=by
 have h1:=falls_low v i a;have h2:=limits_low v k i a;unfold askEnd;split<;>omega
theorem Hw(x:TF)(k i:Int):(askDays x k i).length<=x.events.length:=by
 unfold askDays;rw[List.length_map];exact List.length_filter_le _ _
def bestI:Option Int->List Int->Option Int
 | o,[]=>o
 | none,a::l=>bestI (some a) l
 | some b,a::l=>bestI (some (if a<b then a else b)) l
theorem bestI_some:∀ (l:List Int) (b:Int),bestI (some b) l=some (Jb b l)
 | [],b=>rfl
 | a::l,b=>by rw[bestI,Jb,bestI_some l]
theorem bestI_least(h:∀ v∈l,v<10000):leastOr l=match bestI none l with|none=>-1|some n=>n:=by
 cases l with
 | nil=>rfl
 | cons a l =>
  rw[bestI,bestI_some];have b:=h a (by simp);simp only;rw[Kr l a (by omega),leastOr,if_neg (by simp),Dn]
def zeroAsk:List Value:=[.int .i64 0,.int .i64 0,.int .i64 0,.int .i64 0,.int .i64 0,.int .i64 0,.slice none 0 0,.int .i64 0,.int .i64 0,.int .i64 0,.int .i64 0,.bool false]
def Ka(f:TC)(x:TF)(k i:Int):Option Int->List Value
 | none=>zeroAsk
 | some a=>askCells f x k i a
theorem goodBy_step:(a::l).filter (goodBy x k i d)=if goodBy x k i d a=true then a::l.filter (goodBy x k i d) else l.filter (goodBy x k i d):=List.filter_cons
def turnO(x:TF)(k i d:Int):Option Int:=bestI none (turnedL x k i d)
theorem turnO_turned(v:Ok x)(k i d:Int):turned x k i d=match turnO x k i d with|none=>-1|some n=>n :=
 bestI_least fun n a=>(v.turnedL n a).2
theorem Dc(v:Ok x){n:Int}(h:turnO x k i d=some n):0<=n/\n=turned x k i d:=by
 have h1:=turnO_turned v k i d;rw[h]at h1;simp only at h1;refine⟨?_,h1.symm⟩;rcases Hh v k i d with⟨h2,h3⟩|⟨h2,_⟩
 ·unfold turnO at h;rw[h3]at h;cases h
 ·have:=(v.turnedL _ h2).1;omega
theorem turnO_none(v:Ok x):turnO x k i d=none↔¬ 0<=turned x k i d:=by
 have h1:=turnO_turned v k i d;cases h:turnO x k i d with
 | none =>
  rw[h]at h1;simp only at h1;constructor
  ·intro _;omega
  ·intro _;rfl
 | some n =>
  have:=Dc v h;constructor
  ·intro e;cases e
  ·intro h2;omega
theorem c2064{h:LH}(I:Kinds h.get){f:TC}(K:TreatyR h.get f x)(rt:Right x)(k i d:Int) :
    Gr Tryz.prog 115 #[matV f x k i,d] h fun r _=>r=.tuple #[.agg (Ka f x k i (turnO x k i d)).toArray,.bool (turnO x k i d).isSome]:=by
  refine w2064 Qr ?_;refine t_gr (c2084 I K rt.sum (Nat.le_trans rt.many (by omega)) k i) ?_;rintro _ h₁ s ⟨p,n,c,rfl,C⟩;refine gZ ?_;have hn:=C.1;have hb:=C.2.1;have hlen:=Hw x k i;have B:=rt.many;refine Jc (fun L vs h'=>h₁.le h'/\∃ (j:Nat) (o:Option Int),vs=.bool o.isSome::.int .i64 j::Ka f x k i o/\j<=n/\L=n-j/\turnO x k i d=bestI o (((askDays x k i).drop j).filter (goodBy x k i d)))
    ⟨LH.le_refl _,0,none,rfl,Nat.zero_le _,rfl,rfl⟩ ?_
  rintro Y L vs h2 P ⟨e,j,o,rfl,hj,rfl,hc⟩;have next:∀ h' (t:Option Int),h₁.le h'->j+1<=n->turnO x k i d=bestI t (((askDays x k i).drop (j+1)).filter (goodBy x k i d))->Y (.bool t.isSome::.int .i64 (wrap .i64 ((j:Int)+1))::Ka f x k i t) h':=by
    intro h' t g S z;refine P (n-(j+1)) _ _ (by omega) ⟨g,j+1,t,?_,by omega,rfl,z⟩;rw[Qo (by omega) (by omega)];rfl
  rcases o with _|q
  all_goals
    simp only[Option.isSome,Ka,zeroAsk,askCells]at next ⊢
    refine yJ (fun M=>?_) (fun M=>?_)
    · obtain⟨a,U,F,Q,he⟩:=(C.le AskE.grow e.1).at (i:=j) (by omega)
      have V:=he 0 _ rfl;have W:=he 1 _ rfl;have X:=he 2 _ rfl;have Z:=he 3 _ rfl;have g4:=he 4 _ rfl;have g5:=he 5 _ rfl;have g6:=he 6 _ rfl;have g7:=he 7 _ rfl;have g8:=he 8 _ rfl;have g9:=he 9 _ rfl;have N:=he 10 _ rfl;have O:=he 11 _ rfl;have G:=rt.askDay (List.mem_of_getElem? F);have H:=askEnd_low rt.ok k i a;have D:=rt.turn;have J:=rt.refuse;have m:=LH.le_trans s e;rw[J0 F,goodBy_step]at hc;have l:goodBy x k i d a=(fallen x k i a&&(decide (askEnd x k i a<=d/\d<=askEnd x k i a+x.turn)&&!refused x k i a (askEnd x k i a-1))):=rfl;have bad:goodBy x k i d a=false->∀ h',h₁.le h'->Y _ h':=fun hb h' g=>next h' _ g (by omega) (by rw[if_neg (by rw[hb];simp)]at hc;exact hc)
      refine yI (fun u=>?_) (fun u=>?_)
      · rw[Qo (by omega) (by omega)]
        refine t_pu (c2052 _ _ _) ?_;have A:inB d (askEnd x k i a) (askEnd x k i a+x.turn)=decide (askEnd x k i a<=d/\d<=askEnd x k i a+x.turn):=by
          unfold inB;rw[Bool.eq_iff_iff];simp only[Bool.and_eq_true,decide_eq_true_eq]
        rw[A];refine yI (fun v=>?_) (fun v=>?_)
        · rw[Qo (by omega) (by omega)]
          refine t_gr (c2085 (I.le m.1) (K.le m.1) k i (a:=a) (by unfold IsI;omega) _ _ _) ?_;rintro _ h3 E rfl;refine gZ ?_;have b:=LH.le_trans e E;refine Qt (fun w=>?_) (fun w=>?_)
          · have R:goodBy x k i d a=true:=by rw[l,u,v,w];rfl
            rw[if_pos R]at hc
            first
              | (refine yT ?_
                 exact Qj (next h3 (some a) b (by omega) hc))
              | (refine yF ?_
                 refine t_if (fun y=>?_) (fun y=>?_)
                 · exact Qj (next h3 (some a) b (by omega) (by rw[hc,bestI,if_pos y]))
                 · exact Qj (next h3 (some q) b (by omega) (by rw[hc,bestI,if_neg y])))
          · exact Qj (bad (by rw[l,w];simp) h3 b)
        · exact Qj (bad (by rw[l,v];simp) h2 e)
      · exact Qj (bad (by rw[l,u];simp) h2 e)
    · refine gZ ?_
      rw[List.drop_eq_nil_of_le (by omega)]at hc;refine Qn ⟨LH.le_trans s e,?_⟩;rw[hc];rfl
end
section
open Go.TM.Tr
variable {v:Value}{d k i:Int}{H:Cells}{X:XP}{h:LH}{f:TC}{x:TF}{l:List Ev}{p:Option Addr}
theorem via_ask_eq{A : Next -> Cells -> Prop}{E : Halt -> Cells -> Prop} : Qe Tryz.prog (do let d <- Deferred.ofValue (.func (.func 272) #[] #[]) #[v, .int .i64 d]; invoke d.target d.args) A E H = Qe Tryz.prog (do let d <- Deferred.ofValue (.func (.method "touchmark/treaty.on") #[.iface 201 v] #[]) #[.int .i64 d]; invoke d.target d.args) A E H := by
 kernel_rfl
theorem via_ask{Q : Value -> LH -> Prop}(c : CV X Tryz.prog (.func (.func 272) #[] #[]) #[v, .int .i64 d] h Q) : CV X Tryz.prog (.func (.method "touchmark/treaty.on") #[.iface 201 v] #[]) #[.int .i64 d] h Q := by
 unfold CV at c ⊢;intro main R hR fr cs hs hk;exact via_ask_eq.mp (c main R hR fr cs hs hk)
theorem via_turn_eq{A : Next -> Cells -> Prop}{E : Halt -> Cells -> Prop} : Qe Tryz.prog (do let d <- Deferred.ofValue (.func (.func 287) #[] #[]) #[v, .int .i64 d]; invoke d.target d.args) A E H = Qe Tryz.prog (do let d <- Deferred.ofValue (.func (.method "touchmark/treaty.on") #[.iface 286 v] #[]) #[.int .i64 d]; invoke d.target d.args) A E H := by
 kernel_rfl
theorem via_turn{Q : Value -> LH -> Prop}(c : CV X Tryz.prog (.func (.func 287) #[] #[]) #[v, .int .i64 d] h Q) : CV X Tryz.prog (.func (.method "touchmark/treaty.on") #[.iface 286 v] #[]) #[.int .i64 d] h Q := by
 unfold CV at c ⊢;intro main R hR fr cs hs hk;exact via_turn_eq.mp (c main R hR fr cs hs hk)
attribute [local irreducible] T.wp CV FWK
inductive Title where
 | ask (a:Int)
 | turn (a b:Int)
def turnV(f:TC)(x:TF)(k i a b:Int):Value:=.agg #[.int .i64 x.items,.int .i64 x.lands,.int .i64 x.start,.int .i64 x.depend,.int .i64 x.refuse,.int .i64 x.turn,.slice f.p f.n f.c,.int .i64 k,.int .i64 i,.int .i64 a,.int .i64 (askEnd x k i a),.bool (fallen x k i a),.int .i64 b,.int .i64 (limits x k i b)]
def titleV(f:TC)(x:TF)(k i:Int):Title->Value
 | .ask a=>.iface 201 (askV f x k i a)
 | .turn a b=>.iface 286 (turnV f x k i a b)
def Zp:Title->Int
 | .ask a=>a
 | .turn a _=>a
def titleOn(x:TF)(k i d:Int):Title->Bool
 | .ask a=>decide (a<=d/\d<askEnd x k i a)&&!refused x k i a d
 | .turn _ b=>decide (b<=d/\d<limits x k i b)
def turnsL(x:TF)(k i:Int)(l:List Ev):List Title:=(l.filter fun e=>decide (0<=turned x k i e.day)).map fun e=>.turn (turned x k i e.day) e.day
def titlesL(x:TF)(k i:Int):List Title:=(askDays x k i).map .ask++turnsL x k i (x.events.filter (allB 5 k i))
theorem titles_held(x:TF)(k i d:Int):((titlesL x k i).filter (titleOn x k i d)).map Zp=held x k i d:=by
 unfold titlesL turnsL held askHeld turnHeld;rw[List.filter_append,List.map_append];congr 1
 ·rw[List.filter_map,List.map_map];have:Zp∘Title.ask=id:=rfl;rw[this,List.map_id];rfl
 ·rw[List.filter_map,List.map_map,List.filter_filter,List.filter_filter];congr 1;refine List.filter_congr fun e _=>?_;rw[Kp (by decide)];show (decide (e.day<=d/\d<limits x k i e.day)&&decide (0<=turned x k i e.day)&&about e 5 k i)=_;cases about e 5 k i<;>cases decide (0<=turned x k i e.day)<;>cases decide (e.day<=d/\d<limits x k i e.day)<;>rfl
def TitleE(f:TC)(x:TF)(k i:Int)(h:Cells)(a:Addr)(t:Title):Prop:=h.cell? (a.add 0)=some (titleV f x k i t)
def TitleEnc(f:TC)(x:TF)(k i:Int)(t:Title)(ws:List Value):Prop:=ws=[titleV f x k i t]
theorem TitleE.grow:Grow (TitleE f x k i):=fun _ _ _ _ a h=>a _ _ h
theorem TitleEnc.len:∀ d ws,TitleEnc f x k i d ws->ws.length=1:=by rintro d _ rfl;rfl
theorem TitleEnc.e{h':Cells}:∀ a d ws,TitleEnc f x k i d ws->(∀ (j:Nat) w,ws[j]?=some w->h'.cell? (a.add j)=some w)->TitleE f x k i h' a d:=by
 rintro a d _ rfl hc;exact hc 0 _ rfl
theorem titleV_one(f:TC)(x:TF)(k i:Int)(t:Title):isOne (titleV f x k i t)=true:=by cases t<;>rfl
theorem c2138(f:TC)(x:TF)(v:Ok x)(k i a b d:Int):Pu Tryz.prog 287 #[turnV f x k i a b,d] h (.tuple #[a,.bool (decide (b<=d/\d<limits x k i b))]):=by
 refine w2138 Qr ?_;have e:=limits_low v k i b;rw[Qo (by omega) (by omega)];have c:inB d b (limits x k i b-1)=decide (b<=d/\d<limits x k i b):=by
  unfold inB;rw[Bool.eq_iff_iff];simp only[Bool.and_eq_true,decide_eq_true_eq];omega
 refine t_pu (c2052 _ _ _) ?_;rw[c];refine gZ ?_;exact Qn ⟨rfl,rfl⟩
theorem titles_ask{t:Title}(h:t∈titlesL x k i):(∃ a,t=.ask a/\a∈askDays x k i)\/∃ e∈x.events,t=.turn (turned x k i e.day) e.day/\0<=turned x k i e.day:=by
 unfold titlesL turnsL at h;rcases List.mem_append.1 h with h|h
 ·obtain⟨a,b,rfl⟩:=List.mem_map.1 h;exact .inl ⟨a,rfl,b⟩
 ·obtain⟨e,he,rfl⟩:=List.mem_map.1 h;have h1:=List.mem_filter.1 he;exact .inr ⟨e,(List.mem_filter.1 h1.1).1,rfl,by simpa using h1.2⟩
theorem titles_len(x:TF)(k i:Int):(titlesL x k i).length<=2*x.events.length:=by
 unfold titlesL turnsL;rw[List.length_append,List.length_map,List.length_map];have h1:=Hw x k i;have h2:=List.length_filter_le (fun e:Ev=>decide (0<=turned x k i e.day)) (x.events.filter (allB 5 k i));have h3:=List.length_filter_le (allB 5 k i) x.events;omega
theorem cv_title(hk:Kinds h.get)(hx:TreatyR h.get f x)(rt:Right x)(k i d:Int){t:Title}(ht:t∈titlesL x k i) :
  CV X0 Tryz.prog (.func (.method "touchmark/treaty.on") #[titleV f x k i t] #[]) #[.int .i64 d] h fun r h' => h.le h' /\ r = .tuple #[.int .i64 (Zp t), .bool (titleOn x k i d t)] := by
 rcases titles_ask ht with⟨a,rfl,ha⟩|⟨e,_,rfl,_⟩
 ·refine via_ask (Hs Qr (hargs:=#[askV f x k i a,.int .i64 d]) (by rfl) ?_);have h1:=rt.askDay ha;have h2:=rt.refuse;have h3:=askEnd_low rt.ok k i a;exact c2137 hk hx k i (by unfold IsI;omega) (by unfold IsI;omega) d
 ·refine via_turn (Hs Qr (hargs:=#[turnV f x k i (turned x k i e.day) e.day,.int .i64 d]) (by rfl) ?_);exact pu_gr (c2138 f x rt.ok k i _ _ d)
theorem turns_step{e:Ev}(h:0<=turned x k i e.day):turnsL x k i (l++[e])=turnsL x k i l++[.turn (turned x k i e.day) e.day]:=by
 unfold turnsL;rw[List.filter_append,List.map_append,List.filter_cons,if_pos (by simpa using h)];rfl
theorem turns_skip{e:Ev}(h:¬ 0<=turned x k i e.day):turnsL x k i (l++[e])=turnsL x k i l:=by
 unfold turnsL;rw[List.filter_append,List.map_append,List.filter_cons,if_neg (by simpa using h)];simp
def butOf(h:Cells):Option Addr->Cells
 | none=>h
 | some a=>fun r=>if r=a.block then none else h r
def onlyOf(h:Cells):Option Addr->Cells
 | none=>fun _=>none
 | some a=>fun r=>if r=a.block then h r else none
theorem but_only(h:Cells)(p:Option Addr):h=(butOf h p).add (onlyOf h p)/\Disj (butOf h p) (onlyOf h p):=by
 cases p with
 | none=>exact⟨by funext r;unfold butOf onlyOf Cells.add;simp only;cases h r<;>rfl,fun r=>.inr rfl⟩
 | some a =>
  refine⟨?_,fun r=>?_⟩
  ·funext r;unfold butOf onlyOf Cells.add;by_cases e:r=a.block
   ·simp[e]
   ·simp[e];cases h r<;>rfl
  ·unfold butOf onlyOf;by_cases e:r=a.block
   ·simp[e]
   ·simp[e]
theorem but_le{h₁ h:Cells}(c:h₁.le h)(d:NewIn h₁ p):h₁.le (butOf h p):=by
 intro r x hr;cases p with
 | none=>exact c r x hr
 | some a =>
  unfold butOf;have b:r≠a.block:=by
   rintro rfl;have:=d a rfl;rw[this]at hr;cases hr
  simp[b];exact c r x hr
theorem Growing.over{α:Type}{Enc:α->List Value->Prop}{el:TypeId}{k:Nat}{h₀ h hb:Cells}{n c:Nat}{l:List α}(g:Growing Enc el k h₀ h p n c l)(d:Disj hb (onlyOf h p)):Growing Enc el k hb (hb.add (onlyOf h p)) p n c l:=by
 obtain⟨vs,⟨h1,h2⟩,h3⟩:=g.row;rcases h2 with h2|⟨r,cs,rfl,hr,f⟩
 ·exact⟨⟨vs,⟨h1,.inl h2⟩,h3⟩,fun a b=>by rw[h2.1]at b;cases b⟩
 ·have e:onlyOf h (some ⟨r,0,none⟩) r=some (true,.cells cs el (0,0)):=by unfold onlyOf;simp[hr]
  refine⟨⟨vs,⟨h1,.inr ⟨r,cs,rfl,Q1 d e,f⟩⟩,h3⟩,fun a b=>?_⟩;cases b;rcases d r with h5|h5
  ·exact h5
  ·rw[e]at h5;cases h5
theorem t_allF{Q:Leaf->LH->Prop}{hb:LH}{kq:Cells}{kk:Value->T}(g:XOK X)(o:h=hb.add kq)(d:Disj hb.get kq)(p:Kinds hb.get)(r:TreatyR hb.get f x)(k i:Int)(K:Nat)(n:K<7)
 (hw:∀ v a L,hb.le a->Disj a.get kq->L.length=(x.events.filter (allB K k i)).length->(∀ (j:Nat) xs,L[j]?=some xs->∃ e q m c,(x.events.filter (allB K k i))[j]?=some e/\xs=[evV e q m c]/\Sl IntE 1 a.get q m e.items)->Hands X Tryz.prog v a L->(kk v).wp X Tryz.prog Q (a.add kq)) :
  (T.call false 161 #[matV f x k i,.int .i64 (K:Int)] kk).wp X Tryz.prog Q h:=by
 subst o;refine Jm (FW.frame g (Yj (c2083 (h:=hb) f x k i K)) d) ?_;rintro _ _ ⟨h',l,rfl,b,t,u,rfl,hm,s⟩;obtain⟨L,h1,h2,h3⟩:=hands2095 g (p.le b.1) n hm s (r.le b.1);exact hw _ h' L b l h1 h2 h3
theorem c2082(M:Kinds h.get)(N:TreatyR h.get f x)(rt:Right x)(k i:Int) :
  Gr Tryz.prog 160 #[matV f x k i] h fun r h'=>∃ p n c,r=.slice p n c/\Sl (TitleE f x k i) 1 h'.get p n (titlesL x k i):=by
 refine w2082 Qr ?_;refine t_gr (c2084 M N rt.sum (Nat.le_trans rt.many (by omega)) k i) ?_;rintro _ h₁ A ⟨p,n,c,rfl,X⟩;refine gZ ?_;have hn:=X.1;have hb:=X.2.1;have hlen:=Hw x k i;have U:=rt.many;have Z:=titles_len x k i;refine Jc (fun mm vs h'=>h₁.le h'/\∃ (j:Nat) (q:Option Addr) (m s:Nat),vs=[.int .i64 j,.slice q m s]/\j<=n/\mm=n-j/\Growing (TitleEnc f x k i) 256 1 h₁.get h'.get q m s (((askDays x k i).take j).map .ask))
  ⟨LH.le_refl _,0,none,0,0,rfl,Nat.zero_le _,rfl,Growing.nil⟩ ?_
 rintro Y mm vs h2 hY ⟨l,j,q,m,s,rfl,hj,rfl,g⟩;refine yJ (fun e1=>?_) (fun e1=>?_)
 ·obtain⟨a,ad,ha,k0,he⟩:=(X.le AskE.grow l.1).at (i:=j) (by omega);have g0:=he 0 _ rfl;have g1:=he 1 _ rfl;have g2:=he 2 _ rfl;have g3:=he 3 _ rfl;have g4:=he 4 _ rfl;have g5:=he 5 _ rfl;have g6:=he 6 _ rfl;have g7:=he 7 _ rfl;have g8:=he 8 _ rfl;have g9:=he 9 _ rfl;have e0:=he 10 _ rfl;have j0:=he 11 _ rfl;have hm:m<=100:=by
   rw[g.count TitleEnc.len (by omega),List.length_map,List.length_take];omega
  refine gZ ?_;refine G1 (Title.ask a) [titleV f x k i (.ask a)] rfl rfl Ue infTitle rfl (by omega) (by decide) (by kernel_rfl) rfl (by simp[titleV_one]) (by omega) g l rfl ?_;intro p' c' h3 B _ O;refine gZ ?_;refine Qj (hY (n-(j+1)) _ _ (by omega) ⟨B,j+1,p',m+1,c',?_,by omega,rfl,?_⟩)
  ·rw[Qo (by omega) (by omega)];rfl
  ·rw[List.take_add_one,ha,List.map_append];exact O
 ·refine gZ ?_;have S:j=(askDays x k i).length:=by omega
  subst S;rw[List.take_of_length_le (Nat.le_refl _)]at g;have H:=but_only h2.get q;have b:h₁.get.le (butOf h2.get q):=but_le l.1 g.new;refine t_allF (hb:={ h2 with get:=butOf h2.get q }) (kq:=onlyOf h2.get q) Qr (by unfold LH.add;simp only;rw[<- H.1]) H.2 ((M.le A.1).le b) ((N.le A.1).le b) k i 5 (by decide) ?_;intro v h3 L d d3 C D hH;have B:h₁.le h3:=⟨Cells.le_trans b d.1,d.2.1.trans l.2.1,d.2.2.1.trans l.2.2.1,d.2.2.2.trans l.2.2.2⟩
  have y:=LH.le_trans A B;have P:=List.length_filter_le (allB 5 k i) x.events;have w:titlesL x k i=(askDays x k i).map .ask++turnsL x k i (x.events.filter (allB 5 k i)):=rfl;rw[w];generalize hF:x.events.filter (allB 5 k i)=F at C D P;have a0:h3.le (h3.add (onlyOf h2.get q)):=⟨Zg _ _,rfl,rfl,rfl⟩
  refine Df a0 hH (fun j vs h'=>∃ (q:Option Addr) (m s:Nat),vs=[.slice q m s]/\Growing (TitleEnc f x k i) 256 1 h3.get h'.get q m s ((askDays x k i).map .ask++turnsL x k i (F.take j)))
   ⟨q,m,s,rfl,by simpa[turnsL,LH.add] using Growing.over g d3⟩ ?_ ?_
  ·rintro vs h' hle ⟨q,m,s,rfl,g⟩;rw[C,List.take_of_length_le (Nat.le_refl _)]at g;refine gZ ?_;refine Qn ⟨LH.le_trans y hle,q,m,s,rfl,g.sl TitleEnc.len (by omega) TitleEnc.e ?_⟩;rw[w,hF]at Z;omega
  ·rintro j xs vs h' R hle ⟨q,m,s,rfl,g⟩ Y2 E;obtain⟨e,qe,me,ce,he,rfl,l0⟩:=D j xs R;have t:F.take (j+1)=F.take j++[e]:=by rw[List.take_add_one,he];rfl
   have u:=LH.le_trans y hle;unfold evV;refine gZ ?_;refine t_gr (c2064 (M.le u.1) (N.le u.1) rt k i e.day) ?_;rintro _ h4 o rfl;have z:=LH.le_trans u o;cases ho:turnO x k i e.day with
   | none =>
    have V:=(turnO_none rt.ok).1 ho;simp only[Option.isSome,Ka,zeroAsk];refine yF ?_;refine gZ ?_;refine Jq (LH.le_trans hle o) (E _ _ (LH.le_trans hle o) ⟨q,m,s,rfl,?_⟩);rw[t,turns_skip V];exact g.le o.1
   | some a =>
    obtain⟨Q,G⟩:=Dc rt.ok ho;simp only[Option.isSome,Ka,askCells];refine yT ?_;refine gZ ?_;refine t_gr (c2094 (M.le z.1) (N.le z.1) k i e.day) ?_;rintro _ h5 I rfl;refine gZ ?_;have hm:m<=100:=by
     rw[g.count TitleEnc.len (by omega),List.length_append,List.length_map];unfold turnsL;rw[List.length_map];have h1:=List.length_filter_le (fun e:Ev=>decide (0<=turned x k i e.day)) (F.take j);have h2:(F.take j).length<=F.length:=by rw[List.length_take];omega
     omega
    refine Zu [titleV f x k i (.turn a e.day)] Ue infTitle (by decide) (by decide) (by kernel_rfl) ?_;intro r h6 J _ W;refine gZ ?_;refine D1 (h₀:=h3) (Enc:=TitleEnc f x k i) (Title.turn a e.day) [titleV f x k i (.turn a e.day)] rfl rfl Ue infTitle rfl (by omega) (by omega) (g.le (LH.le_trans o (LH.le_trans I J)).1) (LH.le_trans hle (LH.le_trans o (LH.le_trans I J))) rfl rfl W (by simp[titleV_one]) ?_;intro p' c' h7 K m0 g7;refine gZ ?_;refine Jq K (E _ _ K ⟨p',_,c',rfl,?_⟩);rw[t,turns_step (by rw[<- G];exact Q),<- List.append_assoc,<- G];exact g7
end
section
open Go.TM.Tr
attribute [local irreducible] T.wp CV FWK
variable {x:TF}{h:LH}{f:TC}
theorem dated_all(x:TF)(k i d a:Int)(b:a<=10000):dated x k i d a=Jb a (((x.events.filter (allB 6 k i)).filter fun e=>decide (e.day<=d)&&decide (e.since<=a)).map (·.since)):=by
 unfold dated oldL;rw[Kr _ _ b,List.filter_filter,Dn];have:(x.events.filter fun e=>about e 6 k i&&(decide (e.day<=d)&&decide (e.since<=a)))=x.events.filter fun e=>(decide (e.day<=d)&&decide (e.since<=a))&&allB 6 k i e:=by
  refine List.filter_congr fun e _=>?_;rw[Kp (by decide),Bool.and_comm];rfl
 rw[this]
theorem dateOn_least(v:Ok x)(k i d:Int):dateOn x k i d=if least ((held x k i d).map (dated x k i d))=10000 then -1 else least ((held x k i d).map (dated x k i d)):=by
 unfold dateOn;rcases W4 (H6 v (k:=k) (i:=i) (d:=d)) with⟨h1,h2⟩|⟨h1,h2⟩
 ·rw[h1,h2];rfl
 ·rw[h2];have:=H6 v (k:=k) (i:=i) (d:=d) _ h1;rw[h2]at this;rw[if_neg (by omega)]
theorem title_low(rt:Right x){k i:Int}{t:Title}(h:t∈titlesL x k i):Zp t<=10000:=by
 rcases titles_ask h with⟨a,rfl,b⟩|⟨e,_,rfl,_⟩
 ·have:=rt.askDay b;show a<=10000;omega
 ·show turned x k i e.day<=10000;rcases Hh rt.ok k i e.day with⟨h1,_⟩|⟨h1,_⟩
  ·omega
  ·have:=rt.ok.turnedL _ h1;omega
theorem c2060(R:Kinds h.get)(V:TreatyR h.get f x)(rt:Right x)(k i d:Int) :
  Gr Tryz.prog 112 #[matV f x k i,d] h fun r _=>r=.int .i64 (dateOn x k i d):=by
 refine w2060 _ _ _ _ _ _ _ _ _ _ _ _ Qr ?_;unfold n2060;refine t_gr (c2082 R V rt k i) ?_;rintro _ h₁ W ⟨p,n,c,rfl,U⟩;refine gZ ?_;have hn:=U.1;have hb:=U.2.1;have g0:=titles_len x k i;have S:=rt.many;refine Jc (fun mm vs h'=>h₁.le h'/\∃ (j:Nat) (b:Int),vs=[.int .i64 b,.int .i64 j,.int .i64 x.items,.int .i64 x.lands,.int .i64 x.start,.int .i64 x.depend,.int .i64 x.refuse,.int .i64 x.turn,.slice f.p f.n f.c,.int .i64 k,.int .i64 i,.int .i64 d]/\j<=n/\mm=n-j/\b<=10000 /\
   least ((held x k i d).map (dated x k i d))=Jb b (((((titlesL x k i).drop j).filter (titleOn x k i d)).map Zp).map (dated x k i d)))
  ⟨LH.le_refl _,0,10000,rfl,Nat.zero_le _,rfl,Int.le_refl _,by rw[List.drop_zero,titles_held,Gc]⟩ ?_
 rintro Y mm vs h2 hY ⟨A,j,b,rfl,hj,rfl,hb1,hc⟩;have l:=LH.le_trans W A;have next:∀ h' (B:Int),h₁.le h'->j+1<=n->B<=10000->least ((held x k i d).map (dated x k i d))=Jb B (((((titlesL x k i).drop (j+1)).filter (titleOn x k i d)).map Zp).map (dated x k i d)) ->
   Y [.int .i64 B,.int .i64 (wrap .i64 ((j:Int)+1)),.int .i64 x.items,.int .i64 x.lands,.int .i64 x.start,.int .i64 x.depend,.int .i64 x.refuse,.int .i64 x.turn,.slice f.p f.n f.c,.int .i64 k,.int .i64 i,.int .i64 d] h':=by
  intro h' B E e0 M N;refine hY (n-(j+1)) _ _ (by omega) ⟨E,j+1,B,?_,by omega,rfl,M,N⟩;rw[Qo (by omega) (by omega)];rfl
 refine yJ (fun e1=>?_) (fun e1=>?_)
 ·obtain⟨t,ad,Z,K,he⟩:=(U.le TitleE.grow A.1).at (i:=j) (by omega);unfold TitleE at he;rw[Gv]at he;have G:=List.mem_of_getElem? Z;rw[J0 Z,List.filter_cons]at hc;subst K;refine gT (by omega) (gS2 rfl (Dy he ?_));refine J3 (cv_title (R.le l.1) (V.le l.1) rt k i d G) ?_;rintro _ h3 ⟨I,rfl⟩;have u:=LH.le_trans l I;have w:=LH.le_trans A I;refine yI (fun o=>?_) (fun o=>?_)
  ·have o:titleOn x k i d t=false:=by simpa using o
   rw[o,if_neg (by simp)]at hc;exact Qj (next h3 b w (by omega) hb1 hc)
  ·have o:titleOn x k i d t=true:=by simpa using o
   rw[o,if_pos rfl,List.map_cons,List.map_cons,Jb]at hc;have s:=title_low rt G;refine Yk Qr (R.le u.1) (V.le u.1) k i 6 (by decide) ?_;intro v h4 L X J C hH;have D:=dated_all x k i d (Zp t) s;generalize hF:x.events.filter (allB 6 k i)=F at J C D;have H:=LH.le_trans w X;refine Df (LH.le_refl h4) hH (fun j vs h'=>∃ a:Int,vs=[.int .i64 a]/\a<=10000/\dated x k i d (Zp t)=Jb a (((F.drop j).filter fun e=>decide (e.day<=d)&&decide (e.since<=Zp t)).map (·.since)))
    ⟨_,rfl,s,D⟩ ?_ ?_
   ·rintro vs h' hle ⟨a,rfl,z,g⟩;rw[List.drop_eq_nil_of_le (by omega)]at g;simp only[List.filter_nil,List.map_nil,Jb]at g;rw[g]at hc;refine gZ ?_;exact Qj (next h' _ (LH.le_trans H hle) (by omega) (by split<;>omega) hc)
   ·rintro j2 xs vs h' Q hle ⟨a,rfl,z,g⟩ Y2 y;obtain⟨e,q,m,cc,P,rfl,a0⟩:=C j2 xs Q;rw[J0 P,List.filter_cons]at g;unfold evV;refine yJ (fun e3=>?_) (fun e3=>?_)
    ·refine t_if (fun e4=>?_) (fun e4=>?_)
     ·rw[if_pos (by simp;omega),List.map_cons,Jb]at g;exact Jq hle (y _ _ hle ⟨_,rfl,by split<;>omega,g⟩)
     ·rw[if_neg (by simp;omega)]at g;exact Jq hle (y _ _ hle ⟨_,rfl,z,g⟩)
    ·rw[if_neg (by simp;omega)]at g;exact Jq hle (y _ _ hle ⟨_,rfl,z,g⟩)
 ·refine gZ ?_;rw[List.drop_eq_nil_of_le (by omega)]at hc;simp only[List.filter_nil,List.map_nil,Jb]at hc;have O:=dateOn_least rt.ok k i d;rw[hc]at O;refine Qt (fun o=>?_) (fun o=>?_)
  ·exact Qn ⟨l,by rw[O,if_pos (by simpa using o)]⟩
  ·exact Qn ⟨l,by rw[O,if_neg (by simpa using o)]⟩
def datesT(x:TF)(k d:Int):List Int:=(List.range x.items.toNat).map fun i:Nat=>dateOn x k (i:Int) d
def DatesR(h:Cells)(x:TF)(k d:Int)(r:Value):Prop :=
 (Qw x k d≠0/\r=.tuple #[.slice none 0 0,.int .i64 (Qw x k d)]) \/
 (Qw x k d=0/\∃ p n c,r=.tuple #[.slice p n c,.int .i64 0]/\Sl IntE 1 h p n (datesT x k d)/\n<=c)
theorem c2026(t:Kinds h.get)(u:TreatyR h.get f x)(k d:Int):Gr Tryz.prog 58 #[treatyV f x,k,d] h fun r h'=>DatesR h'.get x k d r:=by
 refine w2026 Qr ?_;refine t_pu (c2063 t u k d) ?_;refine yI (fun e=>?_) (fun e=>?_)
 ·exact Qn ⟨LH.le_refl _,.inl ⟨by simpa using e,rfl⟩⟩
 have s:Qw x k d=0:=by simpa using e
 have b:=(Gu (Hv s).1).1;have rt:=Right.of b;have A:=(J9 b).1;refine Jc (fun v vs h'=>h.le h'/\∃ (j:Nat) (p:Option Addr) (n c:Nat),vs=[.slice p n c,.int .i64 j]/\(j:Int)<=x.items/\v=x.items.toNat-j/\Growing IntEnc 3 1 h.get h'.get p n c ((List.range j).map fun i:Nat=>dateOn x k (i:Int) d))
  ⟨LH.le_refl _,0,none,0,0,rfl,by omega,rfl,Growing.nil⟩ ?_
 rintro Y v vs h₁ z ⟨a,j,p,n,c,rfl,D,rfl,g⟩;refine yJ (fun w=>?_) (fun w=>?_)
 ·refine t_gr (c2060 (t.le a.1) (u.le a.1) rt k j d) ?_;rintro _ h2 l rfl;refine gZ ?_;have B:n=j:=by rw[g.count IntEnc.len (by omega)];simp
  refine G1 (dateOn x k j d) [.int .i64 (dateOn x k j d)] rfl rfl und50 inf3 rfl (by omega) (by decide) (by kernel_rfl) rfl (by simp;rfl) (by omega) (g.le l.1) (LH.le_trans a l) rfl ?_;intro C c' h3 q _ y;refine gZ ?_;refine Qj (z (x.items.toNat-(j+1)) _ _ (by omega) ⟨q,j+1,C,n+1,c',?_,by omega,rfl,?_⟩)
  ·rw[Qo (by omega) (by omega)];rfl
  ·rw[List.range_succ,List.map_append];exact y
 ·refine gZ ?_;have m:x.items.toNat=j:=by omega
  refine Qn ⟨a,.inr ⟨s,p,n,c,rfl,?_,?_⟩⟩
  ·unfold datesT;rw[m];exact g.sl IntEnc.len (by omega) IntEnc.e (by simp;omega)
  ·obtain⟨vs,o,_⟩:=g.row;exact o.le_cap
end
section
open Go.TM.Tr
attribute [local irreducible] T.wp CV FWK
def protT(x:TF)(k d:Int):List Bool:=(datesT x k d).map fun d=>decide (d>=0)
def ProtR(h:Cells)(x:TF)(k d:Int)(r:Value):Prop :=
 ∃ p n c,r=.tuple #[.slice p n c,.int .i64 (Qw x k d)]/\Sl BoolE 1 h p n (if Qw x k d=0 then protT x k d else [])/\n<=c
variable {h:LH}{f:TC}{x:TF}
theorem dates_len(x:TF)(k d:Int):(datesT x k d).length=x.items.toNat:=by unfold datesT;simp
theorem c2018(hk:Kinds h.get)(hx:TreatyR h.get f x)(k d:Int):Gr Tryz.prog 57 #[treatyV f x,.int .i64 k,.int .i64 d] h fun r h'=>ProtR h'.get x k d r:=by
 refine w2018 Qr ?_;refine t_gr (c2026 hk hx k d) ?_;intro r h₁ D hr;obtain⟨p,n,c,g,l,rfl,S,Q,R,a0⟩ : ∃ p n c g l,r=.tuple #[.slice p n c,.int .i64 g]/\Sl IntE 1 h₁.get p n l/\g=Qw x k d/\(if Qw x k d=0 then protT x k d else [])=l.map (fun d=>decide (d>=0))/\l.length<=5:=by
  rcases hr with⟨h1,rfl⟩|⟨h1,p,n,c,rfl,h2,h3⟩
  ·exact⟨none,0,0,_,[],rfl,Sl.nil,rfl,by rw[if_neg h1];rfl,by simp⟩
  ·refine⟨p,n,c,0,_,rfl,h2,h1.symm,by rw[if_pos h1];rfl,?_⟩;have:=(J9 (Gu (Hv h1).1).1).1;rw[dates_len];omega
 refine gZ ?_;have E:=S.1;refine Z5 fun r hr=>?_;have A:∀ cs,h₁.le { h₁ with get:=h₁.get.upd r (true,.cells cs 193 (0,0)) }:=fun cs=>Q4 hr;refine Jc (fun V vs h'=>∃ (j:Nat) (cs:Array Value),vs=[.int .i64 j]/\j<=n/\V=n-j/\h'={ h₁ with get:=h₁.get.upd r (true,.cells cs 193 (0,0)) }/\cs.size=5/\(∀ (i:Nat) y,i<j->l[i]?=some y->cs[i]?=some (.bool (decide (y>=0))))/\∀ i:Nat,j<=i->i<5->cs[i]?=some (.bool false))
  ⟨0,#[.bool false,.bool false,.bool false,.bool false,.bool false],rfl,Nat.zero_le _,rfl,rfl,rfl,fun i y u=>absurd u (Nat.not_lt_zero _),fun i _ u=>by match i,u with|0,_|1,_|2,_|3,_|4,_=>rfl⟩ ?_
 rintro Y V vs _ hY ⟨j,cs,rfl,hj,rfl,rfl,O,q,t⟩;refine yJ (fun Z=>?_) (fun Z=>?_)
 ·obtain⟨y,a,hy,ha,e2⟩:=(S.le IntE.grow (A cs).1).at (i:=j) (by omega);unfold IntE at e2;refine gZ ?_;refine Dw (o:=j) (by rw[Qa,Qa];simp) rfl (by omega) ?_;refine Qj (hY (n-(j+1)) _ _ (by omega) ⟨j+1,_,?_,by omega,rfl,rfl,by simp[O],fun i z u w=>?_,fun i u h5=>?_⟩)
  ·rw[Qo (by omega) (by omega)];rfl
  ·by_cases e:i=j
   ·subst e;rw[hy]at w;cases w;rw[Array.getElem?_setIfInBounds_self_of_lt (by omega)]
   ·rw[Array.getElem?_setIfInBounds_ne (Ne.symm e)];exact q i z (by omega) w
  ·rw[Array.getElem?_setIfInBounds_ne (by omega)];exact t i (by omega) h5
 ·refine gZ ?_;have M:j=n:=by omega
  subst M;obtain⟨bs,B,s⟩ : ∃ bs:List Bool,bs.length=5/\∀ (i:Nat) b,bs[i]?=some b->cs[i]?=some (.bool b):=by
   refine⟨(List.range 5).map fun i:Nat=>match (l[i]? : Option Int) with|some y=>decide (y>=0)|none=>false,by simp,fun i b hb=>?_⟩;rw[List.getElem?_map]at hb;by_cases h5:i<5
   ·rw[List.getElem?_range h5]at hb;simp only[Option.map_some,Option.some.injEq]at hb;cases m:l[i]? with
    | none =>
     rw[m]at hb;subst hb;exact t i (by rw[E];exact List.getElem?_eq_none_iff.1 m) h5
    | some y =>
     rw[m]at hb;subst hb;exact q i y (by rw[E];exact(List.getElem?_eq_some_iff.1 m).1) m
   ·rw[List.getElem?_eq_none (by simp;omega)]at hb;cases hb
  match bs,B with
  | [b0,b1,F,G,H],_ =>
   have c0:Cells.cell? (h₁.get.upd r (true,.cells cs 193 (0,0))) (Addr.add ⟨r,0,none⟩ 0)=some (.bool b0):=by rw[Qa];exact Q5 (s 0 _ rfl)
   have c1:Cells.cell? (h₁.get.upd r (true,.cells cs 193 (0,0))) (Addr.add ⟨r,0,none⟩ 1)=some (.bool b1):=by rw[Qa];exact Q5 (s 1 _ rfl)
   have c2:Cells.cell? (h₁.get.upd r (true,.cells cs 193 (0,0))) (Addr.add ⟨r,0,none⟩ 2)=some (.bool F):=by rw[Qa];exact Q5 (s 2 _ rfl)
   have c3:Cells.cell? (h₁.get.upd r (true,.cells cs 193 (0,0))) (Addr.add ⟨r,0,none⟩ 3)=some (.bool G):=by rw[Qa];exact Q5 (s 3 _ rfl)
   have c4:Cells.cell? (h₁.get.upd r (true,.cells cs 193 (0,0))) (Addr.add ⟨r,0,none⟩ 4)=some (.bool H):=by rw[Qa];exact Q5 (s 4 _ rfl)
   refine gL2 c0 (gL2 c1 (gL2 c2 (gL2 c3 (gL2 c4 ?_))));refine t_eqA5 undItems bo4 inf4 gItems ?_;refine yI (fun e=>?_) (fun e=>?_)
   ·have e:[b0,b1,F,G,H]=[false,false,false,false,false]:=by simpa only [decide_eq_true_eq] using e
    refine t_makeSlice undBs inf4 rfl (by decide) (by omega) fun r2 X N U C=>?_;refine gZ ?_;refine Qn ⟨LH.le_trans (LH.le_trans D (A cs)) (Q4 N),_,_,_,by rw[Q],?_,Nat.le_refl _⟩;rw[R];refine⟨by rw[List.length_map];exact E,by rw[List.length_map];omega,fun i b hb=>⟨_,rfl,?_⟩⟩;unfold BoolE;rw[Qa,Qa];rw[List.getElem?_map]at hb;cases m:l[i]? with
    | none=>rw[m]at hb;cases hb
    | some y =>
     rw[m]at hb;simp only[Option.map_some,Option.some.injEq]at hb;have u:=(List.getElem?_eq_some_iff.1 m).1;have h1:=q i y (by omega) m;have v:=C i (by omega);have L:b=false:=by
      have h2:=s i
      match i,u with
      | 0,_=>have:=h2 b0 rfl;cases e;rw[this]at h1;simp only[Option.some.injEq,Value.bool.injEq]at h1;rw[<- hb,<- h1]
      | 1,_=>have:=h2 b1 rfl;cases e;rw[this]at h1;simp only[Option.some.injEq,Value.bool.injEq]at h1;rw[<- hb,<- h1]
      | 2,_=>have:=h2 F rfl;cases e;rw[this]at h1;simp only[Option.some.injEq,Value.bool.injEq]at h1;rw[<- hb,<- h1]
      | 3,_=>have:=h2 G rfl;cases e;rw[this]at h1;simp only[Option.some.injEq,Value.bool.injEq]at h1;rw[<- hb,<- h1]
      | 4,_=>have:=h2 H rfl;cases e;rw[this]at h1;simp only[Option.some.injEq,Value.bool.injEq]at h1;rw[<- hb,<- h1]
      | i+5,u=>omega
     rw[L];have w:0+i*1+0=i:=by omega
     rw[w];exact Q5 v
   ·refine t_sliceArr undItems inf4 (by omega) fun W I J=>?_;refine gZ ?_;refine Qn ⟨LH.le_trans D (A cs),_,_,_,by rw[Q],?_,Nat.le_refl _⟩;rw[R];have K:W=⟨r,0,none⟩:=by
     by_cases P:j=0
     ·exact I P
     ·rw[J P,Qa]
    subst K;refine⟨by rw[List.length_map];exact E,by rw[List.length_map];omega,fun i b hb=>⟨_,rfl,?_⟩⟩;unfold BoolE;rw[Qa,Qa];rw[List.getElem?_map]at hb;cases m:l[i]? with
    | none=>rw[m]at hb;cases hb
    | some y =>
     rw[m]at hb;simp only[Option.map_some,Option.some.injEq]at hb;have u:=(List.getElem?_eq_some_iff.1 m).1;have h1:=q i y (by omega) m;have w:0+i*1+0=i:=by omega
     rw[w,<- hb];exact Q5 h1
def turnsT(x:TF)(k d:Int):List Int:=((List.range x.items.toNat).filter fun i:Nat=>decide (0<=turned x k (i:Int) d)).map fun i:Nat=>(i:Int)
def TurnsR(h:Cells)(x:TF)(k d:Int)(r:Value):Prop :=
 (Qw x k d≠0/\r=.tuple #[.slice none 0 0,.int .i64 (Qw x k d)]) \/
 (Qw x k d=0/\∃ p n c,r=.tuple #[.slice p n c,.int .i64 0]/\Sl IntE 1 h p n (turnsT x k d)/\n<=c)
theorem c2029(z:Kinds h.get)(B:TreatyR h.get f x)(k d:Int):Gr Tryz.prog 60 #[treatyV f x,k,d] h fun r h'=>TurnsR h'.get x k d r:=by
 refine w2029 Qr ?_;refine t_pu (c2063 z B k d) ?_;refine yI (fun e=>?_) (fun e=>?_)
 ·exact Qn ⟨LH.le_refl _,.inl ⟨by simpa using e,rfl⟩⟩
 have w:Qw x k d=0:=by simpa using e
 have m:=(Gu (Hv w).1).1;have rt:=Right.of m;have F:=(J9 m).1;refine Jc (fun C vs h'=>h.le h'/\∃ (j:Nat) (p:Option Addr) (n c:Nat),vs=[.slice p n c,.int .i64 j]/\(j:Int)<=x.items/\C=x.items.toNat-j/\Growing IntEnc 3 1 h.get h'.get p n c (((List.range j).filter fun i:Nat=>decide (0<=turned x k (i:Int) d)).map fun i:Nat=>(i:Int)))
  ⟨LH.le_refl _,0,none,0,0,rfl,by omega,rfl,Growing.nil⟩ ?_
 rintro Y C vs h₁ y ⟨b,j,p,n,c,rfl,I,rfl,g⟩;have G:n<=j:=by
  rw[g.count IntEnc.len (by omega),List.length_map];have:=List.length_filter_le (fun i:Nat=>decide (0<=turned x k (i:Int) d)) (List.range j);rw[List.length_range]at this;exact this
 refine yJ (fun D=>?_) (fun D=>?_)
 ·refine t_gr (c2064 (z.le b.1) (B.le b.1) rt k j d) ?_;rintro _ h2 l rfl;cases A:turnO x k (j:Int) d with
  | none =>
   have u:=(turnO_none rt.ok).1 A;simp only[Option.isSome,Ka,zeroAsk];refine yF ?_;refine Qj (y (x.items.toNat-(j+1)) _ _ (by omega) ⟨LH.le_trans b l,j+1,p,n,c,?_,by omega,rfl,?_⟩)
   ·rw[Qo (by omega) (by omega)];rfl
   ·rw[List.range_succ,List.filter_append,List.filter_cons,if_neg (by simpa using u)];simpa using g.le l.1
  | some a =>
   obtain⟨q,s⟩:=Dc rt.ok A;simp only[Option.isSome,Ka,askCells];refine yT ?_;refine G1 (j:Int) [.int .i64 (j:Int)] rfl rfl und50 inf3 rfl (by omega) (by decide) (by kernel_rfl) rfl (by simp;rfl) (by omega) (g.le l.1) (LH.le_trans b l) rfl ?_;intro H c' h3 v _ E;refine gZ ?_;refine Qj (y (x.items.toNat-(j+1)) _ _ (by omega) ⟨v,j+1,H,n+1,c',?_,by omega,rfl,?_⟩)
   ·rw[Qo (by omega) (by omega)];rfl
   ·rw[List.range_succ,List.filter_append,List.filter_cons,if_pos (by rw[<- s];simpa using q),List.map_append];exact E
 ·refine gZ ?_;have t:x.items.toNat=j:=by omega
  refine Qn ⟨b,.inr ⟨w,p,n,c,rfl,?_,?_⟩⟩
  ·unfold turnsT;rw[t];refine g.sl IntEnc.len (by omega) IntEnc.e ?_;rw[<- g.count IntEnc.len (by omega)];omega
  ·obtain⟨vs,o,_⟩:=g.row;exact o.le_cap
end
section
open Go.TM.Tr
attribute [local irreducible] T.wp CV FWK
def KindsOk(x:TF):Prop:=∀ e∈x.events,0<=e.kind/\e.kind<=6
variable {x:TF}{h:LH}{f:TC}
theorem KindsOk.of(h:checkT x=0):KindsOk x:=fun e he=>(D9.1 (W7 h e he)).kind
theorem KindsOk.nat(h:KindsOk x){e:Ev}(he:e∈x.events):∃ n:Nat,e.kind=n/\n<7:=by
 have:=h e he;exact⟨e.kind.toNat,by omega,by omega⟩
theorem gives_int{n:Nat}(a:n<7){e:Ev}(he:e.kind=n):givesK n=givesB e:=by
 unfold givesB;rw[he]
 match n,a with
 | 0,_|1,_|2,_|3,_|4,_|5,_|6,_=>rfl
theorem cv_gives(n:Nat):CV X0 Tryz.prog (.func (.func (if givesK n then 294 else 295)) #[] #[]) #[] h fun r h'=>r=.bool (givesK n)/\h=h':=by
 cases a:givesK n with
 | true=>exact Hs Qr (by rfl) (FW.mono c2140 fun _ _ h=>⟨h.1,h.2.symm⟩)
 | false=>exact Hs Qr (by rfl) (FW.mono c2141 fun _ _ h=>⟨h.1,h.2.symm⟩)
theorem Hp{e:Ev}:∀ (l:List Ev) (n:Int),givingGo (l++[e]) n=givingGo l n++if givesB e then [n+(l.length:Int)] else []
 | [],n=>by simp[givingGo]
 | c::l,n=>by
  rw[List.cons_append,givingGo,givingGo,Hp l (n+1)];have:n+1+(l.length:Int)=n+((c::l).length:Int):=by simp;omega
  rw[this];split<;>simp
theorem Ud{L:List Int}{e:Ev}:∀ (l:List Ev) (n:Int),withGo L (l++[e]) n=withGo L l n++if (!givesB e||L.contains (n+(l.length:Int))) then [e] else []
 | [],n=>by simp[withGo]
 | c::l,n=>by
  rw[List.cons_append,withGo,withGo,Ud l (n+1)];have:n+1+(l.length:Int)=n+((c::l).length:Int):=by simp;omega
  rw[this];split<;>simp
theorem Dp:∀ (l:List Ev) (n:Int),(givingGo l n).length<=l.length
 | [],_=>Nat.le_refl _
 | c::l,n=>by
  have:=Dp l (n+1);rw[givingGo];split<;>simp<;>omega
theorem Uz(L:List Int):∀ (l:List Ev) (n:Int),(withGo L l n).length<=l.length
 | [],_=>Nat.le_refl _
 | c::l,n=>by
  have:=Uz L l (n+1);rw[withGo];split<;>simp<;>omega
theorem Right.with(r:Right x)(L:List Int):Right (withE x L) :=
 ⟨Yq r.ok L,r.start,r.depend,r.refuse,r.turn,Nat.le_trans (Uz L x.events 0) r.many⟩
theorem c2067(E:Kinds h.get)(G:TreatyR h.get f x)(t:KindsOk x)(u:x.events.length<=10) :
  Gr Tryz.prog 117 #[treatyV f x] h fun r h'=>∃ p n c,r=.slice p n c/\Sl IntE 1 h'.get p n (giving x)/\n<=c:=by
 refine w2067 Qr ?_;have z:=G.2;have O:=z.1;refine Jc (fun A vs h'=>h.le h'/\∃ (j:Nat) (p:Option Addr) (n c:Nat),vs=[.slice p n c,.int .i64 j]/\j<=f.n/\A=f.n-j/\Growing IntEnc 3 1 h.get h'.get p n c (givingGo (x.events.take j) 0))
  ⟨LH.le_refl _,0,none,0,0,rfl,Nat.zero_le _,rfl,Growing.nil⟩ ?_
 rintro Y A vs h₁ y ⟨d,j,p,n,c,rfl,N,rfl,g⟩;have F:n<=10:=by
  rw[g.count IntEnc.len (by omega)];have:=Dp (x.events.take j) 0;rw[List.length_take]at this;omega
 refine yJ (fun B=>?_) (fun B=>?_)
 ·obtain⟨e,a,he,M,C,K,L,⟨q,m,J,w,_,g5⟩,g4⟩:=(z.le EventE.grow d.1).at (i:=j) (by omega);obtain⟨H,l,k⟩:=t.nat (List.mem_of_getElem? he);have b:x.events.take (j+1)=x.events.take j++[e]:=by rw[List.take_add_one,he];rfl
  have hlen:(x.events.take j).length=j:=by rw[List.length_take];omega
  have D:=(E.le d.1).givesAt k;rw[l]at C;refine gZ ?_;refine Dy D ?_;refine J3 (cv_gives H) ?_;rintro _ _ ⟨rfl,rfl⟩;rw[gives_int k l];refine yI (fun s=>?_) (fun s=>?_)
  ·refine G1 (j:Int) [.int .i64 (j:Int)] rfl rfl und50 inf3 rfl (by omega) (by decide) (by kernel_rfl) rfl (by simp;rfl) (by omega) g d rfl ?_;intro I c' h3 v _ w;refine gZ ?_;refine Qj (y (f.n-(j+1)) _ _ (by omega) ⟨v,j+1,I,n+1,c',?_,by omega,rfl,?_⟩)
   ·rw[Qo (by omega) (by omega)];rfl
   ·rw[b,Hp,if_pos s,hlen,Int.zero_add];exact w
  ·refine Qj (y (f.n-(j+1)) _ _ (by omega) ⟨d,j+1,p,n,c,?_,by omega,rfl,?_⟩)
   ·rw[Qo (by omega) (by omega)];rfl
   ·rw[b,Hp,if_neg (by rw[s];simp),List.append_nil];exact g
 ·refine gZ ?_;rw[List.take_of_length_le (by omega)]at g;refine Qn ⟨d,p,n,c,rfl,g.sl IntEnc.len (by omega) IntEnc.e ?_,?_⟩
  ·show (givingGo x.events 0).length<_;rw[<- g.count IntEnc.len (by omega)];omega
  ·obtain⟨vs,o,_⟩:=g.row;exact o.le_cap
theorem c2069(V:Kinds h.get)(hx:TreatyR h.get f x)(rt:Right x)(H:KindsOk x)(k i d:Int){R:Option Addr}{P ec:Nat}{L:List Int}(hL:Sl IntE 1 h.get R P L) :
  Gr Tryz.prog 119 #[treatyV f x,k,.int .i64 i,d,.slice R P ec] h fun r _=>r=.bool (holdsB x k i d L):=by
 refine w2069 Qr ?_;have W:=hx.2;have hn:=W.1;have I:=rt.many;refine Jc (fun X vs h'=>h.le h'/\∃ (j:Nat) (p:Option Addr) (n c:Nat),vs=[.int .i64 j,.int .i64 x.items,.int .i64 x.lands,.int .i64 x.start,.int .i64 x.depend,.int .i64 x.refuse,.int .i64 x.turn,.slice p n c]/\j<=f.n/\X=f.n-j/\Growing (EventEnc h.get) 120 5 h.get h'.get p n c (withGo L (x.events.take j) 0))
  ⟨LH.le_refl _,0,none,0,0,rfl,Nat.zero_le _,rfl,Growing.nil⟩ ?_
 rintro Y X vs h₁ hY ⟨b,j,p,n,c,rfl,hj,rfl,g⟩;have a0:n<=10:=by
  rw[g.count EventEnc.len (by omega)];have:=Uz L (x.events.take j) 0;rw[List.length_take]at this;omega
 refine yJ (fun Z=>?_) (fun Z=>?_)
 ·obtain⟨e,a,he,ha,G,S,U,⟨q,m,B,C,g6,g5⟩,g4⟩:=W.at (i:=j) (by omega);have A:EventEnc h.get e [.int .i64 e.kind,.int .i64 e.day,.int .i64 e.land,.slice q m B,.int .i64 e.since]:=⟨q,m,B,rfl,g6,g5⟩
  obtain⟨M,z,y⟩:=H.nat (List.mem_of_getElem? he);have t:x.events.take (j+1)=x.events.take j++[e]:=by rw[List.take_add_one,he];rfl
  have hlen:(x.events.take j).length=j:=by rw[List.length_take];omega
  have hg:=(V.le b.1).givesAt y;rw[z]at G A;have G:=Qm b.1 G;have S:=Qm b.1 S;have U:=Qm b.1 U;have C:=Qm b.1 C;have g4:=Qm b.1 g4;refine gZ ?_;refine Dy hg ?_;refine J3 (cv_gives M) ?_;rintro _ _ ⟨rfl,rfl⟩;rw[gives_int y z];have keep:(!givesB e||L.contains (j:Int))=true->∀ {K:Value->T} {Q:Leaf->LH->Prop},(∀ s c' h',h.le h'->Growing (EventEnc h.get) 120 5 h.get h'.get s (n+1) c' (withGo L (x.events.take (j+1)) 0)->(K (.slice s (n+1) c')).wp X0 Tryz.prog Q h') ->
    (T.sem false (Instr.buildSlice 36 1 #[(0,.agg #[.int .i64 (M:Int),.int .i64 e.day,.int .i64 e.land,.slice q m B,.int .i64 e.since])]) fun v=>T.unS v fun a m mc=>T.sem false (Builtin.append_ #[36,36] 36 #[.slice p n c,.slice a m mc]) K).wp X0 Tryz.prog Q h₁:=by
   intro u K Q hK;refine G1 e [.int .i64 (M:Int),.int .i64 e.day,.int .i64 e.land,.slice q m B,.int .i64 e.since] rfl rfl undEvs infEv rfl (by omega) (by decide) (by kernel_rfl) rfl ?_ (by omega) g b A ?_
   ·intro w hw;simp only[List.mem_cons,List.not_mem_nil,or_false]at hw;rcases hw with rfl|rfl|rfl|rfl|rfl<;>rfl
   ·intro s c' h3 O _ C;refine hK s c' h3 O ?_;rw[t,Ud,hlen,Int.zero_add,if_pos u];exact C
  have next:∀ h' s D c',h.le h'->Growing (EventEnc h.get) 120 5 h.get h'.get s D c' (withGo L (x.events.take (j+1)) 0)->Y [.int .i64 (wrap .i64 ((j:Int)+1)),.int .i64 x.items,.int .i64 x.lands,.int .i64 x.start,.int .i64 x.depend,.int .i64 x.refuse,.int .i64 x.turn,.slice s D c'] h':=by
   intro h' s D c' l g';refine hY (f.n-(j+1)) _ _ (by omega) ⟨l,j+1,s,D,c',?_,by omega,rfl,g'⟩;rw[Qo (by omega) (by omega)];rfl
  refine yI (fun E=>?_) (fun E=>?_)
  ·refine keep (by rw[E,Bool.true_or]) fun s c' h' l g'=>?_;refine gZ ?_;exact Qj (next h' s _ c' l g')
  ·refine t_pu (c100 (hL.le IntE.grow b.1) (j:Int)) ?_;refine yI (fun F=>?_) (fun F=>?_)
   ·refine keep (by rw[F,Bool.or_true]) fun s c' h' l g'=>?_;refine gZ ?_;exact Qj (next h' s _ c' l g')
   ·refine Qj (next h₁ p n c b ?_);rw[t,Ud,hlen,Int.zero_add,if_neg (by rw[E,F];simp),List.append_nil];exact g
 ·refine gZ ?_;rw[List.take_of_length_le (by omega)]at g;have J:TreatyR h₁.get ⟨p,n,c⟩ (withE x L):=by
   refine⟨?_,g.sl EventEnc.len (by omega) (EventEnc.e (Jv b.1)) ?_⟩
   ·obtain⟨vs,o,_⟩:=g.row;exact o.le_cap
   ·show (withGo L x.events 0).length<_;rw[<- g.count EventEnc.len (by omega)];omega
  refine t_gr (c2060 (V.le b.1) J (rt.with L) k i d) ?_;rintro _ h2 N rfl;refine gZ ?_;exact Qn ⟨LH.le_trans b N,rfl⟩
end
end Go.Y.Tre
section
namespace Go.TM
variable {P:Program} {X:XP} {Q:Leaf->LH->Prop}
variable {i j:Nat}{m:List Int}
theorem t_indexStr{h:LH}{K:Value->T}{t:TypeId}{s:ByteArray}(hu:P.underlying t=some .string)(d:s.size=256)(c:i<256)(a:∀ b:Nat,(K (.int .u8 (b:Int))).wp X P Q h):(T.sem false (Instr.index t (.string s) (.int .u8 (i:Int))) K).wp X P Q h:=by
 refine Jh (A:=fun w h'=>h'=h.get/\∃ b:Nat,w=.int .u8 (b:Int)) ?_ (by rintro w h' ⟨rfl,b,rfl⟩;exact a b);unfold Instr.index;simp only[asIntOf,lwp_bind,Qg,Qd hu];have h1:s[(i:Int).toNat]?=some (s[i]'(by omega)):=by
  rw[Int.toNat_natCast];exact getElem?_pos s i (by omega)
 rw[if_pos (by omega),h1];exact⟨rfl,_,rfl⟩
def Reads(cs:Array Value)(l:List Int):Prop:=∀ (i:Nat) y,l[i]?=some y->cs[i]?=some (.int .i64 y)
theorem swap_perm:∀ (m:List Int) (j:Nat) (x y:Int),m[j]?=some y->m[j+1]?=some x->((m.set (j+1) y).set j x).Perm m
 | [],j,x,y,h,_=>by simp at h
 | [a],j,x,y,_,h=>by simp at h
 | a::b::r,0,x,y,h1,h2=>by
  simp at h1 h2;subst h1;subst h2;simp only[List.set_cons_succ,List.set_cons_zero];exact List.Perm.swap _ _ _
 | a::b::r,j+1,x,y,h1,h2=>by
  simp only[List.set_cons_succ];exact(swap_perm (b::r) j x y (by simpa using h1) (by simpa using h2)).cons a
structure Ins(m:List Int)(i j:Nat):Prop where
 rest:∀ a b u v,a<b->b<=i->a≠j->b≠j->m[a]?=some u->m[b]?=some v->u<=v
 small:∀ b u v,j<b->b<=i->m[j]?=some u->m[b]?=some v->u<=v
theorem Ins.swap{x y:Int}(h:Ins m i (j+1))(p:j+1<=i)(k:m[j]?=some y)(g:m[j+1]?=some x)(o:x<y):Ins ((m.set (j+1) y).set j x) i j:=by
 have len:j+1<m.length:=(List.getElem?_eq_some_iff.1 g).1;have get:∀ a,((m.set (j+1) y).set j x)[a]?=if a=j then some x else if a=j+1 then some y else m[a]?:=by
  intro a;rw[List.getElem?_set,List.getElem?_set];by_cases e:a=j
  ·subst e;simp;omega
  ·by_cases c:a=j+1
   ·subst c;simp;omega
   ·rw[if_neg (Ne.symm e),if_neg (Ne.symm c),if_neg e,if_neg c]
 refine⟨fun a b u v f d l hb hu hv=>?_,fun b u v n d hu hv=>?_⟩
 ·rw[get,if_neg l]at hu;rw[get,if_neg hb]at hv;by_cases e:a=j+1
  ·rw[if_pos e]at hu;cases hu;rw[if_neg (by omega)]at hv;exact h.rest j b y v (by omega) d (by omega) (by omega) k hv
  ·rw[if_neg e]at hu;by_cases c:b=j+1
   ·rw[if_pos c]at hv;cases hv;exact h.rest a j u y (by omega) (by omega) (by omega) (by omega) hu k
   ·rw[if_neg c]at hv;exact h.rest a b u v f d e c hu hv
 ·rw[get,if_pos rfl]at hu;cases hu;rw[get,if_neg (by omega)]at hv;by_cases c:b=j+1
  ·rw[if_pos c]at hv;cases hv;omega
  ·rw[if_neg c]at hv;exact h.small b x v (by omega) d g hv
theorem Ins.done(h:Ins m i j)(k:j=0\/∃ x y,m[j-1]?=some y/\m[j]?=some x/\y<=x):∀ a b u v,a<b->b<=i->m[a]?=some u->m[b]?=some v->u<=v:=by
 intro a b u v c d hu hv;by_cases f:a=j
 ·subst f;exact h.small b u v c d hu hv
 ·by_cases g:b=j
  ·subst g;rcases k with h0|⟨x,y,h1,h2,h3⟩
   ·omega
   ·rw[hv]at h2;cases h2;by_cases e:a=b-1
    ·subst e;rw[hu]at h1;cases h1;exact h3
    ·exact Int.le_trans (h.rest a (b-1) u y (by omega) (by omega) f (by omega) hu h1) h3
  ·exact h.rest a b u v c d f g hu hv
theorem sorted_of{n:Nat}(e:m.length<=n)(h:∀ a b u v,a<b->b<n->m[a]?=some u->m[b]?=some v->u<=v):m.Pairwise (·<=·):=by
 rw[List.pairwise_iff_getElem];intro a b d hb c;exact h a b _ _ c (by omega) (List.getElem?_eq_getElem d) (List.getElem?_eq_getElem hb)
end Go.TM
namespace Go.Y.Tre
open Go.TM.Tr
attribute [local irreducible] T.wp CV FWK
variable {h:LH}{r c x:Nat}{el:TypeId}{cs:Array Value}{l:List Int}
theorem c2111(x y:Int):Pu Tryz.prog 237 #[x,y] h (.bool (decide (x<y))):=by
 refine w2111 Qr ?_;refine t_pu (c109 _) ?_;refine yF ?_;exact Qn ⟨rfl,rfl⟩
theorem c2105:∀ {cs:Array Value} {l:List Int},Reads cs l->l.length<=12 ->
  FW X0 Tryz.prog 231 #[.slice (some ⟨r,0,none⟩) l.length c,.int .i64 0,.int .i64 (l.length:Int)] { h with get:=h.get.upd r (true,.cells cs el (0,0)) } fun v h'=>v=.tuple #[] /\
   ∃ f V,f.size=cs.size/\Reads f V/\V.Perm l/\V.Pairwise (·<=·)/\h'={ h with get:=h.get.upd r (true,.cells f el (0,0)) }:=by
 intro cs l hr hl;have g:∀ {cs:Array Value} {m:List Int} {j:Nat} {y:Int},Reads cs m->m[j]?=some y->Cells.cell? (h.get.upd r (true,.cells cs el (0,0))) (Addr.add ⟨r,0,none⟩ ((j:Int).toNat*1))=some (.int .i64 y):=by
  intro cs m j y hm A;rw[Qa];have e:0+(j:Int).toNat*1=j:=by simp
  rw[e];exact Q5 (hm j y A)
 refine w2105 Qr ?_;have U:wrap .i64 ((0:Int)+1)=((1:Nat):Int):=by rw[Qo (by omega) (by omega)];rfl
 rw[U];refine Jc (fun J vs h'=>∃ (i:Nat) (f:Array Value) (m:List Int),vs=[.int .i64 i]/\J=l.length+1-i/\1<=i/\i<=l.length+1/\h'={ h with get:=h.get.upd r (true,.cells f el (0,0)) }/\f.size=cs.size/\Reads f m/\m.Perm l/\∀ a b u v,a<b->b<i->m[a]?=some u->m[b]?=some v->u<=v)
  ⟨1,cs,l,rfl,rfl,Nat.le_refl _,by omega,rfl,rfl,hr,List.Perm.refl _,fun a b u v t hb=>by omega⟩ ?_
 rintro Y J vs _ hY ⟨i,H,Z,rfl,rfl,e0,g0,rfl,C,I,w,B⟩;refine yJ (fun e1=>?_) (fun e1=>?_)
 ·have P:=w.length_eq;refine Jc (fun J vs h'=>∃ (j:Nat) (f:Array Value) (m:List Int),vs=[.int .i64 j]/\j=J/\j<=i/\h'={ h with get:=h.get.upd r (true,.cells f el (0,0)) }/\f.size=cs.size/\Reads f m/\m.Perm l/\Ins m i j)
   ⟨i,H,Z,rfl,rfl,Nat.le_refl _,rfl,C,I,w,fun a b u v t a0 ha hb hu hv=>B a b u v t (by omega) hu hv,fun b u v h1 h2=>by omega⟩ ?_
  rintro Y2 J vs _ N ⟨j,s,q,rfl,rfl,hj,rfl,D,k,G,p⟩;have Q:=G.length_eq;have fin:(∀ a b u v,a<b->b<=i->q[a]?=some u->q[b]?=some v->u<=v)->Y [.int .i64 (wrap .i64 ((i:Int)+1))] { h with get:=h.get.upd r (true,.cells s el (0,0)) }:=by
   intro S;refine hY (l.length+1-(i+1)) _ _ (by omega) ⟨i+1,s,q,?_,rfl,by omega,by omega,rfl,D,k,G,fun a b u v t hb=>S a b u v t (by omega)⟩;rw[Qo (by omega) (by omega)];rfl
  refine gZ ?_;refine Jk (fun vs h'=>vs=[]/\h'={ h with get:=h.get.upd r (true,.cells s el (0,0)) }/\∃ (d:Nat) (x y:Int),j=d+1/\q[d]?=some y/\q[d+1]?=some x/\x<y) ?_ ?_
  ·refine t_if (fun e2=>?_) (fun e2=>?_)
   ·obtain⟨d,rfl⟩ : ∃ d,j=d+1:=⟨j-1,by omega⟩
    obtain⟨y,A⟩ : ∃ y,q[d]?=some y:=⟨q[d]'(by omega),List.getElem?_eq_getElem (by omega)⟩
    obtain⟨x,E⟩ : ∃ x,q[d+1]?=some x:=⟨q[d+1]'(by omega),List.getElem?_eq_getElem (by omega)⟩
    have hw:wrap .i64 (((d+1:Nat):Int)-1)=(d:Int):=by rw[Qo (by omega) (by omega)];omega
    rw[hw];have W:=g k E;have X:=g k A;refine gT (by omega) (gS2 rfl (gL0 W (gT (by omega) (gS2 rfl (gL0 X ?_)))));refine t_pu (c2111 _ _) ?_;refine yI (fun K=>?_) (fun K=>?_)
    ·exact Qj ⟨rfl,rfl,d,x,y,rfl,A,E,by simpa using K⟩
    ·refine gR ?_;refine yT ?_;refine gZ ?_;have K:¬ x<y:=by simpa using K
     exact Qj (fin (p.done (.inr ⟨x,y,by simpa using A,E,by omega⟩)))
   ·refine yT ?_;refine gZ ?_;exact Qj (fin (p.done (.inl (by omega))))
  ·rintro vs _ ⟨rfl,rfl,d,x,y,rfl,A,E,R⟩;have hw:wrap .i64 (((d+1:Nat):Int)-1)=(d:Int):=by rw[Qo (by omega) (by omega)];omega
   have W:=g k E;have X:=g k A;have O:d+1<s.size:=(Array.getElem?_eq_some_iff.1 (k _ _ E)).1;rw[hw];refine gZ ?_;refine Dw (o:=d+1) (by rw[Qa,Qa];simp) rfl O ?_;refine gZ ?_;refine Dw (o:=d) (by rw[Qa,Qa];simp) rfl (by simp;omega) ?_;refine Qj (N d _ _ (by omega) ⟨d,_,(q.set (d+1) y).set d x,rfl,rfl,by omega,rfl,by simp[D],?_,(swap_perm q d x y A E).trans G,p.swap (by omega) A E R⟩);intro a z F;rw[List.getElem?_set,List.getElem?_set]at F;by_cases L:a=d
   ·subst L;rw[Array.getElem?_setIfInBounds_self_of_lt (by simp;omega)];simp at F;rw[F.2]
   ·rw[Array.getElem?_setIfInBounds_ne (Ne.symm L)];rw[if_neg (Ne.symm L)]at F;by_cases M:a=d+1
    ·subst M;rw[Array.getElem?_setIfInBounds_self_of_lt (by omega)];simp at F;rw[F.2]
    ·rw[Array.getElem?_setIfInBounds_ne (Ne.symm M)];rw[if_neg (Ne.symm M)]at F;exact k a z F
 ·refine gZ ?_;refine Qn ⟨rfl,H,Z,C,I,w,sorted_of (n:=i) (by rw[w.length_eq];omega) B,rfl⟩
theorem c2101(hr:Reads cs l)(g:l.length<=12)(b:Int) :
  FW X0 Tryz.prog 217 #[.slice (some ⟨r,0,none⟩) l.length c,.int .i64 0,.int .i64 (l.length:Int),b] { h with get:=h.get.upd r (true,.cells cs el (0,0)) } fun v h'=>v=.tuple #[] /\
   ∃ a d,a.size=cs.size/\Reads a d/\d.Perm l/\d.Pairwise (·<=·)/\h'={ h with get:=h.get.upd r (true,.cells a el (0,0)) }:=by
 refine w2101 Qr ?_;refine Jc (fun f vs h'=>f=0/\vs=[.int .i64 0,.int .i64 (l.length:Int),.int .i64 b,.bool true,.bool true]/\h'={ h with get:=h.get.upd r (true,.cells cs el (0,0)) }) ⟨rfl,rfl,rfl⟩ ?_;rintro Y f vs _ j ⟨rfl,rfl,rfl⟩;refine gZ ?_;have hw:wrap .i64 ((l.length:Int)-0)=(l.length:Int):=by rw[Qo (by omega) (by omega)];omega
 rw[hw];refine t_if (fun e=>?_) (fun e=>absurd (by omega) e);refine Jm (c2105 hr g) ?_;rintro _ h2 ⟨rfl,i⟩;refine gZ ?_;exact Qn ⟨rfl,i⟩
theorem c2115(c:x<256):FW X0 Tryz.prog 220 #[.int .u64 (x:Int)] h fun v h'=>h'=h/\∃ z,v=.int .i64 z:=by
 refine w2115 _ Qr ?_;unfold n2115;refine Jk (fun vs h'=>vs=[.int .u64 (x:Int),.int .i64 0]/\h=h') ?_ ?_
 ·refine t_if (fun e=>by omega) (fun e=>?_);exact Qj ⟨rfl,rfl⟩
 rintro vs _ ⟨rfl,rfl⟩;refine gZ ?_;refine Jk (fun vs h'=>vs=[.int .u64 (x:Int),.int .i64 0]/\h=h') ?_ ?_
 ·refine t_if (fun e=>by omega) (fun e=>?_);exact Qj ⟨rfl,rfl⟩
 rintro vs _ ⟨rfl,rfl⟩;refine gZ ?_;refine t_if (fun e=>by omega) (fun e=>?_);have hw:IntKind.wrap .u8 (x:Int)=(x:Int):=by
  have a:(2^IntKind.u8.bits:Int)=256:=rfl;simp only[IntKind.wrap,a,show IntKind.u8.signed=false from rfl,Bool.false_and,Bool.false_eq_true,if_false];omega
 rw[hw];refine t_indexStr (by kernel_rfl) (by kernel_rfl) c fun b=>?_;refine gZ ?_;exact Qn ⟨rfl,_,rfl⟩
theorem c2102(a:x<256):FW X0 Tryz.prog 218 #[.int .u64 (x:Int)] h fun v h'=>h'=h/\∃ z,v=.int .i64 z:=by
 refine w2102 Qr ?_;refine Jm (c2115 a) ?_;rintro _ _ ⟨rfl,z,rfl⟩;refine gZ ?_;exact Qn ⟨rfl,_,rfl⟩
theorem c2092(hr:Reads cs l)(e:l.length<=12) :
  FW X0 Tryz.prog 191 #[.slice (some ⟨r,0,none⟩) l.length c] { h with get:=h.get.upd r (true,.cells cs el (0,0)) } fun v h'=>v=.tuple #[] /\
   ∃ a b,a.size=cs.size/\Reads a b/\b.Perm l/\b.Pairwise (·<=·)/\h'={ h with get:=h.get.upd r (true,.cells a el (0,0)) }:=by
 refine w2092 Qr ?_;have hw:IntKind.wrap .u64 (l.length:Int)=(l.length:Int):=by
  have d:(2^IntKind.u64.bits:Int)=18446744073709551616:=rfl;simp only[IntKind.wrap,d,show IntKind.u64.signed=false from rfl,Bool.false_and,Bool.false_eq_true,if_false];omega
 rw[hw];refine Jm (c2102 (by omega)) ?_;rintro _ _ ⟨rfl,z,rfl⟩;refine gZ ?_;refine Jm (c2101 hr e z) ?_;rintro _ h2 ⟨rfl,f⟩;refine gZ ?_;exact Qn ⟨rfl,f⟩
end Go.Y.Tre
end

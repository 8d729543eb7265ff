/- Contracts and laws for the proof, joined by a program. No condition. -/
import Derived.Test.YtpkjbclajflhbaaGreatDoorM5
set_option linter.all false
noncomputable section
open Go Go.Conc Go.TM Go.Proofs
set_option maxRecDepth 100000
open Go.IntKind (wrap)
namespace Go.Y
section
set_option maxHeartbeats 0
set_option linter.unusedVariables false
variable {X:XP} {h:LH} {A:Value->LH->Prop}
variable {a b c d e f g i j k l m:Int}{n o p q r s t u v w x y z:Nat}{B C D E F G H I J K L M:Option Addr}
theorem w16  : FX X 8 #[] h A (.cl 21 #[] fun e=>.unAgg e fun n=>.pi n fun j b=>.pi b fun s b=>.pi b fun t b=>.pi b fun u b=>.popS b fun l v m b=>.popS b fun o w q b=>.popS b fun p x r b=>.unNil b (.cT 22 #[.agg #[j,s,t,u,.slice l v m,.slice o w q,.slice p x r],.int .i64 20] fun e b=>.unAgg e fun n=>.pi n fun D k0=>.pi k0 fun E l0=>.unNil l0 (.unCons b fun e b=>.ui e fun j0=>.unNil b (.cT 22 #[.agg #[j,s,t,u,.slice l v m,.slice o w q,.slice p x r],.int .i64 25] fun e b=>.unAgg e fun n=>.pi n fun B m0=>.pi m0 fun C o0=>.unNil o0 (.unCons b fun e b=>.ui e fun U=>.unNil b (.cT 23 #[.agg #[j,s,t,u,.slice l v m,.slice o w q,.slice p x r],.int .i64 0,.int .i64 1,.int .i64 16] fun e b=>.ui e fun a=>.unCons b fun e b=>.ui e fun V=>.unNil b (.cT 23 #[.agg #[j,s,t,u,.slice l v m,.slice o w q,.slice p x r],.int .i64 0,.int .i64 1,.int .i64 18] fun e b=>.ui e fun c=>.unCons b fun e b=>.ui e fun W=>.unNil b (.cT 23 #[.agg #[j,s,t,u,.slice l v m,.slice o w q,.slice p x r],.int .i64 0,.int .i64 1,.int .i64 19] fun e b=>.ui e fun f=>.unCons b fun e b=>.ui e fun Y=>.unNil b (.cT 24 #[.agg #[j,s,t,u,.slice l v m,.slice o w q,.slice p x r],.int .i64 0,.int .i64 1] fun e b=>.ui e fun g=>.unCons b fun e b=>.ui e fun Z=>.unNil b (.cT 24 #[.agg #[j,s,t,u,.slice l v m,.slice o w q,.slice p x r],.int .i64 1,.int .i64 2] fun e b=>.ui e fun i=>.unCons b fun e b=>.ui e fun a0=>.unNil b (.cT 25 #[.agg #[j,s,t,u,.slice l v m,.slice o w q,.slice p x r],.int .i64 0,.int .i64 25] fun e b=>.unS e fun J b0 Q=>.unCons b fun e b=>.ui e fun c0=>.unNil b (.cT 26 #[.agg #[j,s,t,u,.slice l v m,.slice o w q,.slice p x r],.int .i64 0,.int .i64 20] fun e b=>.unS e fun K d0 R=>.unCons b fun e b=>.ui e fun e0=>.unNil b (.cT 27 #[.agg #[j,s,t,u,.slice l v m,.slice o w q,.slice p x r],.int .i64 0,.int .i64 25] fun e b=>.unS e fun F H G=>.unCons b fun e b=>.ui e fun f0=>.unNil b (.sem false (Instr.buildSlice 47 2 #[(0,.int .i64 0),(1,.int .i64 2)]) fun e=>.unS e fun L g0 S=>.cT 28 #[.agg #[j,s,t,u,.slice l v m,.slice o w q,.slice p x r],.int .i64 0,.int .i64 25,.slice L g0 S] fun e b=>.unB e fun k=>.unCons b fun e b=>.ui e fun j=>.unNil b (.blk (bif j0 != 0 then .rn [false] else bif U != 0 then .rn [false] else bif V != 0 then .rn [false] else bif W != 0 then .rn [false] else bif Y != 0 then .rn [false] else bif Z != 0 then .rn [false] else bif a0 != 0 then .rn [false] else bif c0 != 0 then .rn [false] else bif e0 != 0 then .rn [false] else bif f0 != 0 then .rn [false] else bif j != 0 then .rn [false] else .ag [false]) (fun b=>.popB b fun M b=>.unNil b (.blk (.cl 29 #[.int .i64 16,.int .i64 20] fun e=>.unAgg e fun n=>.pi n fun j b=>.pi b fun y b=>.unNil b (.nd (.agg #[D,E]) (.sem false (Sem.bind (eqGuard BinOp.neq 46 (Operand.tmp 123) (Operand.tmp 124) (.agg #[D,E]) (.agg #[j,y])) fun I=>binOp BinOp.neq 46 (.agg #[D,E]) (.agg #[j,y])) fun e=>.unB e fun N=>bif N then .nds [.U,true,true,true,true,true,true,true,true,true,true,true,true,true,true,true,.U,true,.U,true,true,true,true,true,true,true,true,.U,true,true] (.nds [true,true,true,true,true,true,.U,true,true,true,true,true,true,true] (.rn [false])) else .cl 29 #[.int .i64 18,.int .i64 25] fun e=>.unAgg e fun n=>.pi n fun j b=>.pi b fun z b=>.unNil b (.nd (.agg #[B,C]) (.sem false (Sem.bind (eqGuard BinOp.neq 46 (Operand.tmp 127) (Operand.tmp 128) (.agg #[B,C]) (.agg #[j,z])) fun I=>binOp BinOp.neq 46 (.agg #[B,C]) (.agg #[j,z])) fun e=>.unB e fun d=>bif d then .nds [d,true,d,true,true,d,true,true,true,d,true,true,true,true,d,.U,true,.U,true,true,true,true,true,true,d,true,.U,true,true,true] (.nds [true,true,true,d,true,.U,true,true,true,true,true,true,d] (.rn [false])) else bif a != 1 then .nds [.B (a != 1),.B (a != 1),a] (.nf d false (.nds [d,true,.B (a != 1),.B (a != 1),a] (.nf d false (.nds [d,true,true,.B (a != 1),.B (a != 1),a] (.nf d false (.nds [d,true,true,true,.B (a != 1),.B (a != 1),a] (.nf d false (.nds [d,.U,true,.U,true,true,true,true,true,.B (a != 1),.B (a != 1),a] (.nf d false (.nds [d,true,.U,true,true,true,true,true,.B (a != 1),.B (a != 1),a] (.nf d false (.nds [d,true,.U,true,true,true,true,true,.B (a != 1),.B (a != 1),a] (.nf d false (.nd d (.rn [false]))))))))))))))) else bif c != 0 then .nds [.B (c != 0),.B (c != 0),c] (.nf (a != 1) false (.nds [.B (a != 1),.B (a != 1),a] (.nf d false (.nds [d,true,.B (c != 0),.B (c != 0),c] (.nf (a != 1) false (.nds [.B (a != 1),.B (a != 1),a] (.nf d false (.nds [d,true,true,.B (c != 0),.B (c != 0),c] (.nf (a != 1) false (.nds [.B (a != 1),.B (a != 1),a] (.nf d false (.nds [d,.U,true,.U,true,true,true,true,.B (c != 0),.B (c != 0),c] (.nf (a != 1) false (.nds [.B (a != 1),.B (a != 1),a] (.nf d false (.nds [d,true,.U,true,true,true,true,.B (c != 0),.B (c != 0),c] (.nf (a != 1) false (.nds [.B (a != 1),.B (a != 1),a] (.nf d false (.nds [d,true,.U,true,true,true,true,.B (c != 0),.B (c != 0),c] (.nf (a != 1) false (.nds [.B (a != 1),.B (a != 1),a] (.nf d false (.nd d (.rn [false]))))))))))))))))))))))))) else bif f != 2 then .nds [.B (f != 2),.B (f != 2),f] (.nf (c != 0) false (.nds [.B (c != 0),.B (c != 0),c] (.nf (a != 1) false (.nds [.B (a != 1),.B (a != 1),a] (.nf d false (.nds [d,true,.B (f != 2),.B (f != 2),f] (.nf (c != 0) false (.nds [.B (c != 0),.B (c != 0),c] (.nf (a != 1) false (.nds [.B (a != 1),.B (a != 1),a] (.nf d false (.nds [d,.U,true,.U,true,true,true,.B (f != 2),.B (f != 2),f] (.nf (c != 0) false (.nds [.B (c != 0),.B (c != 0),c] (.nf (a != 1) false (.nds [.B (a != 1),.B (a != 1),a] (.nf d false (.nds [d,true,.U,true,true,true,.B (f != 2),.B (f != 2),f] (.nf (c != 0) false (.nds [.B (c != 0),.B (c != 0),c] (.nf (a != 1) false (.nds [.B (a != 1),.B (a != 1),a] (.nf d false (.nds [d,true,.U,true,true,true,.B (f != 2),.B (f != 2),f] (.nf (c != 0) false (.nds [.B (c != 0),.B (c != 0),c] (.nf (a != 1) false (.nds [.B (a != 1),.B (a != 1),a] (.nf d false (.nd d (.rn [false]))))))))))))))))))))))))))))))) else bif g != 17 then .nds [.B (g != 17),.B (g != 17),g] (.nf (f != 2) false (.nds [.B (f != 2),.B (f != 2),f] (.nf (c != 0) false (.nds [.B (c != 0),.B (c != 0),c] (.nf (a != 1) false (.nds [.B (a != 1),.B (a != 1),a] (.nf d false (.nds [d,.U,true,.U,true,true,.B (g != 17),.B (g != 17),g] (.nf (f != 2) false (.nds [.B (f != 2),.B (f != 2),f] (.nf (c != 0) false (.nds [.B (c != 0),.B (c != 0),c] (.nf (a != 1) false (.nds [.B (a != 1),.B (a != 1),a] (.nf d false (.nds [d,true,.U,true,true,.B (g != 17),.B (g != 17),g] (.nf (f != 2) false (.nds [.B (f != 2),.B (f != 2),f] (.nf (c != 0) false (.nds [.B (c != 0),.B (c != 0),c] (.nf (a != 1) false (.nds [.B (a != 1),.B (a != 1),a] (.nf d false (.nds [d,true,.U,true,true,.B (g != 17),.B (g != 17),g] (.nf (f != 2) false (.nds [.B (f != 2),.B (f != 2),f] (.nf (c != 0) false (.nds [.B (c != 0),.B (c != 0),c] (.nf (a != 1) false (.nds [.B (a != 1),.B (a != 1),a] (.nf d false (.nd d (.rn [false]))))))))))))))))))))))))))))))))) else bif i != 15 then .nds [.U,true,.U] (.nf (i != 15) true (.nds [.B (i != 15),.B (i != 15),i] (.nf (g != 17) false (.nds [.B (g != 17),.B (g != 17),g] (.nf (f != 2) false (.nds [.B (f != 2),.B (f != 2),f] (.nf (c != 0) false (.nds [.B (c != 0),.B (c != 0),c] (.nf (a != 1) false (.nds [.B (a != 1),.B (a != 1),a] (.nf d false (.nds [d,true,.U] (.nf (i != 15) true (.nds [.B (i != 15),.B (i != 15),i] (.nf (g != 17) false (.nds [.B (g != 17),.B (g != 17),g] (.nf (f != 2) false (.nds [.B (f != 2),.B (f != 2),f] (.nf (c != 0) false (.nds [.B (c != 0),.B (c != 0),c] (.nf (a != 1) false (.nds [.B (a != 1),.B (a != 1),a] (.nf d false (.nds [d,true,.U] (.nf (i != 15) true (.nds [.B (i != 15),.B (i != 15),i] (.nf (g != 17) false (.nds [.B (g != 17),.B (g != 17),g] (.nf (f != 2) false (.nds [.B (f != 2),.B (f != 2),f] (.nf (c != 0) false (.nds [.B (c != 0),.B (c != 0),c] (.nf (a != 1) false (.nds [.B (a != 1),.B (a != 1),a] (.nf d false (.nd d (.rn [false]))))))))))))))))))))))))))))))))))))) else bif k then .nds [.U,k,k] (.nf (i != 15) false (.nds [.B (i != 15),.B (i != 15),i] (.nf (g != 17) false (.nds [.B (g != 17),.B (g != 17),g] (.nf (f != 2) false (.nds [.B (f != 2),.B (f != 2),f] (.nf (c != 0) false (.nds [.B (c != 0),.B (c != 0),c] (.nf (a != 1) false (.nds [.B (a != 1),.B (a != 1),a] (.nf d false (.nds [d,k,k] (.nf (i != 15) false (.nds [.B (i != 15),.B (i != 15),i] (.nf (g != 17) false (.nds [.B (g != 17),.B (g != 17),g] (.nf (f != 2) false (.nds [.B (f != 2),.B (f != 2),f] (.nf (c != 0) false (.nds [.B (c != 0),.B (c != 0),c] (.nf (a != 1) false (.nds [.B (a != 1),.B (a != 1),a] (.nf d false (.nds [d,k,k] (.nf (i != 15) false (.nds [.B (i != 15),.B (i != 15),i] (.nf (g != 17) false (.nds [.B (g != 17),.B (g != 17),g] (.nf (f != 2) false (.nds [.B (f != 2),.B (f != 2),f] (.nf (c != 0) false (.nds [.B (c != 0),.B (c != 0),c] (.nf (a != 1) false (.nds [.B (a != 1),.B (a != 1),a] (.nf d false (.nd d (.rn [false]))))))))))))))))))))))))))))))))))))) else .sem false (Instr.buildSlice 47 1 #[(0,.int .i64 1)]) fun e=>.unS e fun l j m=>.nds [.S F H G,k,k] (.nf (i != 15) false (.nds [.B (i != 15),.B (i != 15),i] (.nf (g != 17) false (.nds [.B (g != 17),.B (g != 17),g] (.nf (f != 2) false (.nds [.B (f != 2),.B (f != 2),f] (.nf (c != 0) false (.nds [.B (c != 0),.B (c != 0),c] (.nf (a != 1) false (.nds [.B (a != 1),.B (a != 1),a] (.nf d false (.nd d (.cB 30 #[.slice F H G,.slice l j m] fun O=>.nds [k,k] (.nf (i != 15) false (.nds [.B (i != 15),.B (i != 15),i] (.nf (g != 17) false (.nds [.B (g != 17),.B (g != 17),g] (.nf (f != 2) false (.nds [.B (f != 2),.B (f != 2),f] (.nf (c != 0) false (.nds [.B (c != 0),.B (c != 0),c] (.nf (a != 1) false (.nds [.B (a != 1),.B (a != 1),a] (.nf d false (.nd d (bif !O then .rn [false] else .ag [M]))))))))))))))))))))))))))))))) (fun b=>.popB b fun k b=>.unNil b (.sem false (Instr.buildSlice 60 3 #[(0,.int .i64 1),(1,.int .i64 2),(2,.int .i64 0)]) fun e=>.unS e fun l j m=>.cB 31 #[.slice J b0 Q,.slice l j m] fun k=>bif k then .cl 29 #[.int .i64 16,.int .i64 20] fun e=>.unAgg e fun n=>.pi n fun j b=>.pi b fun y b=>.unNil b (.cl 29 #[.int .i64 16,.int .i64 20] fun e=>.unAgg e fun n=>.pi n fun z b=>.pi b fun i0 b=>.unNil b (.sem false (Instr.buildSlice 63 2 #[(0,.agg #[.int .i64 1,.int .i64 0,j,y]),(1,.agg #[.int .i64 2,.int .i64 0,z,i0])]) fun e=>.unS e fun l j m=>.cB 32 #[.slice K d0 R,.slice l j m] fun k=>.rt (.bool k))) else .rt (.bool false))) (fun b=>.popB b fun k b=>.unNil b (.rt (.bool k))) fun p0 q0=>.fail)) (fun b=>.popB b fun k b=>.unNil b (.rt (.bool k))) fun p0 q0=>.fail))))))))))))))):=fk [1,2,4] [] [⟨17,[(0,.bool)],[1,2,4],[],[],[]⟩,⟨15,[(0,.bool)],[1,2,4],[],[],[]⟩] Tryz.f8
end
section
attribute [local irreducible] T.wp CV FWK
def exU:UseFile:=⟨3,2,10,5,[⟨21,23⟩],[⟨⟨12,14⟩,0,[0,1]⟩,⟨⟨19,19⟩,0,[0]⟩,⟨⟨17,26⟩,0,[2]⟩,⟨⟨18,18⟩,1,[0,1]⟩],[⟨20,0,[0,1,2]⟩,⟨25,0,[0,2]⟩]⟩
variable {h:LH}{p q:Option Addr}{n c m d:Nat}{a b:List Int}
theorem c42(a b:Int):Pu Tryz.prog 29 #[a,b] h (.agg #[a,b]):=by
 refine w42 Qk ?_;exact Qa ⟨rfl,rfl⟩
theorem c35(g:Sl IntE 1 h.get p n a)(hb:Sl IntE 1 h.get q m b):Pu Tryz.prog 30 #[.slice p n c,.slice q m d] h (.bool (decide (a=b))):=by
 refine w35 Qk ?_;have F:=g.1;have hm:=hb.1;have A:=g.2.1;have z:=hb.2.1;refine Ql (fun e=>?_) (fun e=>?_)
 ·have:a≠b:=by rintro rfl;simp at e;omega
  exact Qa ⟨by simp[this],rfl⟩
 have B:n=m:=by simp at e;omega
 refine Qz (fun l o h'=>h=h'/\∃ i:Nat,o=[.bool false,.int .i64 i]/\i<=n/\l=n-i/\a.take i=b.take i) ⟨rfl,0,rfl,Nat.zero_le _,rfl,rfl⟩ ?_;rintro Y l o _ u ⟨rfl,i,rfl,E,rfl,hc⟩;refine yJ (fun e=>?_) (fun e=>?_)
 ·obtain⟨x,C,k,v,s⟩:=g.at (i:=i) (by omega);obtain⟨y,D,j,w,t⟩:=hb.at (i:=i) (by omega);unfold IntE at s t;refine yI (fun f=>?_) (fun f=>?_)
  ·refine gZ ?_;have:a≠b:=by rintro rfl;rw[k]at j;cases j;simp at f
   exact Qa ⟨by simp[this],rfl⟩
  ·have r:x=y:=by simpa using f
   refine Qi (u (n-(i+1)) _ _ (by omega) ⟨rfl,i+1,?_,by omega,rfl,?_⟩)
   ·rw[Qh (by omega) (by omega)];rfl
   ·rw[List.take_add_one,List.take_add_one,hc,k,j,r]
 ·refine gZ ?_;rw[List.take_of_length_le (by omega),List.take_of_length_le (by omega)]at hc;exact Qa ⟨by simp[hc],rfl⟩
theorem c25(g:Sl IntE 1 h.get p n a)(hb:Sl IntE 1 h.get q m b):Pu Tryz.prog 31 #[.slice p n c,.slice q m d] h (.bool (decide (a=b))):=by
 refine w25 Qk ?_;have F:=g.1;have hm:=hb.1;have A:=g.2.1;have z:=hb.2.1;refine Ql (fun e=>?_) (fun e=>?_)
 ·have:a≠b:=by rintro rfl;simp at e;omega
  exact Qa ⟨by simp[this],rfl⟩
 have B:n=m:=by simp at e;omega
 refine Qz (fun l o h'=>h=h'/\∃ i:Nat,o=[.bool false,.int .i64 i]/\i<=n/\l=n-i/\a.take i=b.take i) ⟨rfl,0,rfl,Nat.zero_le _,rfl,rfl⟩ ?_;rintro Y l o _ u ⟨rfl,i,rfl,E,rfl,hc⟩;refine yJ (fun e=>?_) (fun e=>?_)
 ·obtain⟨x,C,k,v,s⟩:=g.at (i:=i) (by omega);obtain⟨y,D,j,w,t⟩:=hb.at (i:=i) (by omega);unfold IntE at s t;refine yI (fun f=>?_) (fun f=>?_)
  ·refine gZ ?_;have:a≠b:=by rintro rfl;rw[k]at j;cases j;simp at f
   exact Qa ⟨by simp[this],rfl⟩
  ·have r:x=y:=by simpa using f
   refine Qi (u (n-(i+1)) _ _ (by omega) ⟨rfl,i+1,?_,by omega,rfl,?_⟩)
   ·rw[Qh (by omega) (by omega)];rfl
   ·rw[List.take_add_one,List.take_add_one,hc,k,j,r]
 ·refine gZ ?_;rw[List.take_of_length_le (by omega),List.take_of_length_le (by omega)]at hc;exact Qa ⟨by simp[hc],rfl⟩
end
section
attribute [local irreducible] T.wp CV FWK
variable {h:Cells}{el:TypeId}{r:Nat}{m:Bool}{cs:Array Value}
theorem Jg{X:XP}{Q:Leaf->LH->Prop}{h:LH}{k:Value->T}{t:TypeId}{n s b:Nat}{parts:Array (Nat×Value)}{z:Value}{cells:Array Value}(hu:Tryz.prog.underlying t=some (.slice el))(d:(Tryz.prog.info? el).map (fun i=>(i.size,i.bytes,i.zero))=some (s,b,some z))(f:n*s<=2^24)(a:n*s≠0)
 (c:Instr.fill (fun i=>some (i*s,s)) ((Array.range (n*s)).map (z.cells[·%z.cells.size]!)) parts.toList=some cells)
 (e:∀ r h',h.le h'->h.get r=none->h'.get r=some (true,.cells cells el (0,0))->(k (.slice (some ⟨r,0,none⟩) n n)).wp X Tryz.prog Q h'):(T.sem false (Instr.buildSlice t n parts) k).wp X Tryz.prog Q h :=
 Zu hu d f a c fun r hr=>e r _ (Qr hr) hr (Qm _ _ _)
theorem K4{l:List Int}(a:cs=(l.map (Value.int .i64)).toArray)(hr:h r=some (m,.cells cs el (0,0)))(hb:l.length<4611686018427387904):Sl IntE 1 h (some ⟨r,0,none⟩) l.length l:=by
 refine⟨rfl,hb,fun i x b=>⟨_,rfl,?_⟩⟩;unfold IntE;rw[Qo,Qo];subst a;simp[Cells.cell?,hr,b]
theorem cell_row{i:Nat}{v:Value}(hr:h r=some (m,.cells cs el (0,0)))(hv:cs[i]?=some v):h.cell? ⟨r,i,none⟩=some v:=by
 simp[Cells.cell?,hr,hv]
theorem exRep{f g k n o p q s t:Nat}(e:h f=some (true,.cells #[.int .i64 21,.int .i64 23] 46 (0,0)))(u:h g=some (true,.cells #[.int .i64 0,.int .i64 1] 3 (0,0)))(w:h k=some (true,.cells #[.int .i64 0] 3 (0,0)))(y:h n=some (true,.cells #[.int .i64 2] 3 (0,0)))(z:h o=some (true,.cells #[.int .i64 0,.int .i64 1] 3 (0,0)))
 (c:h p=some (true,.cells #[.int .i64 12,.int .i64 14,.int .i64 0,.slice (some ⟨g,0,none⟩) 2 2,.int .i64 19,.int .i64 19,.int .i64 0,.slice (some ⟨k,0,none⟩) 1 1,.int .i64 17,.int .i64 26,.int .i64 0,.slice (some ⟨n,0,none⟩) 1 1,.int .i64 18,.int .i64 18,.int .i64 1,.slice (some ⟨o,0,none⟩) 2 2] 49 (0,0)))
 (A:h q=some (true,.cells #[.int .i64 0,.int .i64 1,.int .i64 2] 3 (0,0)))(B:h s=some (true,.cells #[.int .i64 0,.int .i64 2] 3 (0,0)))(d:h t=some (true,.cells #[.int .i64 20,.int .i64 0,.slice (some ⟨q,0,none⟩) 3 3,.int .i64 25,.int .i64 0,.slice (some ⟨s,0,none⟩) 2 2] 51 (0,0))) :
  FileR h ⟨some ⟨f,0,none⟩,1,1,some ⟨p,0,none⟩,4,4,some ⟨t,0,none⟩,2,2⟩ exU:=by
 have b:∀ {r i j:Nat} {m:Bool} {cs:Array Value} {el:TypeId} {v:Value},h r=some (m,.cells cs el (0,0))->cs[i+j]?=some v->h.cell? (Addr.add (Addr.add ⟨r,0,none⟩ i) j)=some v:=by
  intro r i j m cs el v hr hv;rw[Qo,Qo,Nat.zero_add];exact cell_row hr hv
 refine⟨⟨rfl,by show (1:Nat)<_;omega,?_⟩,⟨rfl,by show (4:Nat)<_;omega,?_⟩,⟨rfl,by show (2:Nat)<_;omega,?_⟩⟩
 ·intro i x a
  match i,a with
  | 0,a=>cases a;exact⟨_,rfl,b e rfl,b e rfl⟩
  | i+1,a=>simp[exU]at a
 ·intro i x a
  match i,a with
  | 0,a=>cases a;exact⟨_,rfl,b c rfl,b c rfl,b c rfl,_,_,_,b c rfl,K4 (l:=[0,1]) rfl u (by show (2:Nat)<_;omega)⟩
  | 1,a=>cases a;exact⟨_,rfl,b c rfl,b c rfl,b c rfl,_,_,_,b c rfl,K4 (l:=[0]) rfl w (by show (1:Nat)<_;omega)⟩
  | 2,a=>cases a;exact⟨_,rfl,b c rfl,b c rfl,b c rfl,_,_,_,b c rfl,K4 (l:=[2]) rfl y (by show (1:Nat)<_;omega)⟩
  | 3,a=>cases a;exact⟨_,rfl,b c rfl,b c rfl,b c rfl,_,_,_,b c rfl,K4 (l:=[0,1]) rfl z (by show (2:Nat)<_;omega)⟩
  | i+4,a=>simp[exU]at a
 ·intro i x a
  match i,a with
  | 0,a=>cases a;exact⟨_,rfl,b d rfl,b d rfl,_,_,_,b d rfl,K4 (l:=[0,1,2]) rfl A (by show (3:Nat)<_;omega)⟩
  | 1,a=>cases a;exact⟨_,rfl,b d rfl,b d rfl,_,_,_,b d rfl,K4 (l:=[0,2]) rfl B (by show (2:Nat)<_;omega)⟩
  | i+2,a=>simp[exU]at a
theorem c52{h:LH}:Gr Tryz.prog 21 #[] h fun r h'=>∃ f,r=fileV f exU/\FileR h'.get f exU:=by
 refine w52 Qk ?_;refine t_pu (c42 _ _) ?_;refine gZ ?_;refine Jg Kp K1 (by decide) (by decide) (cells:=#[.int .i64 21,.int .i64 23]) (by kernel_rfl) fun D M t _ k=>?_;refine gZ ?_;refine t_pu (c42 _ _) ?_;refine gZ ?_;refine Jg Wh inf3 (by decide) (by decide) (cells:=#[.int .i64 0,.int .i64 1]) (by kernel_rfl) fun E N u _ l=>?_;refine gZ ?_;refine t_pu (c42 _ _) ?_;refine gZ ?_;refine Jg Wh inf3 (by decide) (by decide) (cells:=#[.int .i64 0]) (by kernel_rfl) fun F O v _ m=>?_;refine gZ ?_;refine t_pu (c42 _ _) ?_;refine gZ ?_;refine Jg Wh inf3 (by decide) (by decide) (cells:=#[.int .i64 2]) (by kernel_rfl) fun G P w _ n=>?_;refine gZ ?_;refine t_pu (c42 _ _) ?_;refine gZ ?_;refine Jg Wh inf3 (by decide) (by decide) (cells:=#[.int .i64 0,.int .i64 1]) (by kernel_rfl) fun H Q x _ o=>?_;refine gZ ?_;refine Jg Z4 K0 (by decide) (by decide) (cells:=#[.int .i64 12,.int .i64 14,.int .i64 0,.slice (some ⟨E,0,none⟩) 2 2,.int .i64 19,.int .i64 19,.int .i64 0,.slice (some ⟨F,0,none⟩) 1 1,.int .i64 17,.int .i64 26,.int .i64 0,.slice (some ⟨G,0,none⟩) 1 1,.int .i64 18,.int .i64 18,.int .i64 1,.slice (some ⟨H,0,none⟩) 2 2]) (by kernel_rfl) fun I R y _ p=>?_;refine gZ ?_;refine Jg Wh inf3 (by decide) (by decide) (cells:=#[.int .i64 0,.int .i64 1,.int .i64 2]) (by kernel_rfl) fun J S z _ q=>?_;refine gZ ?_;refine Jg Wh inf3 (by decide) (by decide) (cells:=#[.int .i64 0,.int .i64 2]) (by kernel_rfl) fun K U A _ s=>?_;refine gZ ?_;refine Jg und24 Dp (by decide) (by decide) (cells:=#[.int .i64 20,.int .i64 0,.slice (some ⟨J,0,none⟩) 3 3,.int .i64 25,.int .i64 0,.slice (some ⟨K,0,none⟩) 2 2]) (by kernel_rfl) fun L V B _ C=>?_;refine gZ ?_;have j:=B;have i:=LH.le_trans A j;have g:=LH.le_trans z i;have e:=LH.le_trans y g;have d:=LH.le_trans x e;have c:=LH.le_trans w d;have b:=LH.le_trans v c;have a:=LH.le_trans u b;have k:=a.1 _ _ k;have l:=b.1 _ _ l;have m:=c.1 _ _ m;have n:=d.1 _ _ n;have o:=e.1 _ _ o;have p:=g.1 _ _ p;have q:=i.1 _ _ q;have s:=j.1 _ _ s;refine Qa ⟨LH.le_trans t a,⟨some ⟨D,0,none⟩,1,1,some ⟨I,0,none⟩,4,4,some ⟨L,0,none⟩,2,2⟩,rfl,?_⟩;exact exRep k l m n o p q s C
end
end Go.Y
section
namespace Go.TM
variable {P:Program} {E:Halt->Cells->Prop} {h:Cells}
variable {t:TypeId}{a b c d a' b' c' d':Int}
theorem lwp_equalIn2{Q:Bool->Cells->Prop}{k:Nat}(p:twoInts P t=true)(l:Q (decide (a=c/\b=d)) h):Qd P (Op.equalIn (k+1+1) t (.agg #[a,b]) (.agg #[c,d])) Q E h:=by
 obtain⟨f,g,hu,q,r,i1,i2,m,n,o⟩:=Zt p;rw[Op.equalIn];rw[lwp_bind,Qc hu];simp only[lwp_bind,Jm,o,Bool.false_eq_true,if_false,List.forIn_toArray,List.forIn_cons,List.forIn_nil,q,r,ne_eq,not_false_eq_true,if_true];refine Jt i1 (v:=.int .i64 a) (by rw[m];rfl) ?_;refine Jt i1 (v:=.int .i64 c) (by rw[m];rfl) ?_;refine Ki i1 ?_;by_cases e:a=c
 ·subst e;simp only[beq_self_eq_true,Bool.not_true,Bool.false_eq_true,if_false,Qg,lwp_bind];refine Jt i2 (v:=.int .i64 b) (by rw[n];rfl) ?_;refine Jt i2 (v:=.int .i64 d) (by rw[n];rfl) ?_;refine Ki i2 ?_;by_cases i:b=d
  ·subst i;simpa[Qg] using l
  ·have j:(b==d)=false:=by simpa using i
   simpa[Qg,i,j] using l
 ·have j:(a==c)=false:=by simpa using e
  simpa[Qg,e,j] using l
def Hf(P:Program)(t:TypeId):Bool:=match P.underlying t with
 | some (.struct fs)=>(match fs.toList with
  | [a, b, w] => a.name != "_" && b.name != "_" && w.name != "_" && Wz P a.type && Wz P b.type && twoInts P w.type && Nat.beq a.offset 0 && Nat.beq b.offset 1 && Nat.beq w.offset 2 && (match P.info? w.type with | some i => Nat.beq i.size 2 | none => false)
  | _=>false)&&!P.stoodInHeld t
 | _=>false
theorem twoInts_agg(a:twoInts P t=true):isAggT P t=true:=by
 obtain⟨f,g,hu,_⟩:=Zt a;unfold isAggT;rw[hu]
theorem lwp_part2{Q:Value->Cells->Prop}{cs:Array Value}{o:Nat}{i:TypeInfo}(d:twoInts P t=true)(a:P.info? t=some i)(c:i.size=2)(b:Q (.agg (cs.extract o (o+2))) h):Qd P (part t cs o) Q E h:=by
 unfold part;rw[lwp_bind,Wn (twoInts_agg d)];simp only[if_true,lwp_bind,Qy a,c,Qg];exact b
theorem lwp_equal4{Q:Bool->Cells->Prop}(i:Hf P t=true)(l:Q (decide (a=a'/\b=b'/\c=c'/\d=d')) h):Qd P (Op.equal t (.agg #[a,b,c,d]) (.agg #[a',b',c',d'])) Q E h:=by
 unfold Hf at i;split at i
 next fs hu =>
  simp only[Bool.and_eq_true,Bool.not_eq_true']at i;obtain⟨j,u⟩:=i;split at j
  next x y w q =>
   simp only[Bool.and_eq_true,bne_iff_ne]at j;obtain⟨⟨⟨⟨⟨⟨⟨⟨⟨z,A⟩,B⟩,i1⟩,i2⟩,i3⟩,m⟩,n⟩,s⟩,e⟩:=j;have g:fs=#[x,y,w]:=by rw[<- q]
   subst g;have m:=Q6 m;have n:=Q6 n;have s:=Q6 s;cases k:P.info? w.type with
   | none=>rw[k]at e;cases e
   | some inf =>
    rw[k]at e;have e:=Q6 e;unfold Op.equal;have r:Op.maxDepth=9997+1+1+1:=rfl;rw[r,Op.equalIn];rw[lwp_bind,Qc hu];simp only[lwp_bind,Jm,u,Bool.false_eq_true,if_false,List.forIn_toArray,List.forIn_cons,List.forIn_nil,z,A,B,ne_eq,not_false_eq_true,if_true];refine Jt i1 (v:=.int .i64 a) (by rw[m];rfl) ?_;refine Jt i1 (v:=.int .i64 a') (by rw[m];rfl) ?_;refine Ki i1 ?_;by_cases o:a=a'
    ·subst o;simp only[beq_self_eq_true,Bool.not_true,Bool.false_eq_true,if_false,Qg,lwp_bind];refine Jt i2 (v:=.int .i64 b) (by rw[n];rfl) ?_;refine Jt i2 (v:=.int .i64 b') (by rw[n];rfl) ?_;refine Ki i2 ?_;by_cases p:b=b'
     ·subst p;simp only[beq_self_eq_true,Bool.not_true,Bool.false_eq_true,if_false,Qg,lwp_bind];refine lwp_part2 i3 k e ?_;refine lwp_part2 i3 k e ?_;rw[s];refine lwp_equalIn2 (a:=c) (b:=d) (c:=c') (d:=d') i3 ?_;by_cases f:c=c'/\d=d'
      ·simpa[Qg,f] using l
      ·simpa[Qg,f] using l
     ·have f:(b==b')=false:=by simpa using p
      simpa[Qg,p,f] using l
    ·have f:(a==a')=false:=by simpa using o
     simpa[Qg,o,f] using l
  next=>cases j
 next=>cases i
variable {X:XP} {Q:Leaf->LH->Prop}
theorem t_ne4{h:LH}{K:Value->T}{x y:Operand}(g:Hf P t=true)(e:P.eqGuardType P.depth t=false)(f:(K (.bool (!decide (a=a'/\b=b'/\c=c'/\d=d')))).wp X P Q h) :
  (T.sem false (Sem.bind (eqGuard .neq t x y (.agg #[a,b,c,d]) (.agg #[a',b',c',d'])) fun _=>binOp .neq t (.agg #[a,b,c,d]) (.agg #[a',b',c',d'])) K).wp X P Q h:=by
 refine Q9 (A:=fun w h'=>w=.bool (!decide (a=a'/\b=b'/\c=c'/\d=d'))/\h'=h.get) (Qu _ _ ?_) (by rintro w h' ⟨rfl,rfl⟩;exact f);unfold eqGuard;simp only[Bool.not_true,Bool.false_eq_true,if_false,lwp_bind,Jm,e,Bool.not_false,if_true,Qg];unfold binOp;rw[lwp_bind];exact lwp_equal4 g ⟨rfl,rfl⟩
end Go.TM
end
namespace Go.Y
section
attribute [local irreducible] T.wp CV FWK
theorem two79:Hf Tryz.prog 75=true:=by kernel_rfl
theorem g79:Tryz.prog.eqGuardType Tryz.prog.depth 75=false:=by kernel_rfl
theorem c30{h:LH}{p q:Option Addr}{n c m d:Nat}{a b:List Lack}(g:Sl LackE 4 h.get p n a)(hb:Sl LackE 4 h.get q m b):Pu Tryz.prog 32 #[.slice p n c,.slice q m d] h (.bool (decide (a=b))):=by
 refine w30 Qk ?_;have H:=g.1;have hm:=hb.1;have w:=g.2.1;have v:=hb.2.1;refine Ql (fun e=>?_) (fun e=>?_)
 ·have:a≠b:=by rintro rfl;simp at e;omega
  exact Qa ⟨by simp[this],rfl⟩
 have z:n=m:=by simp at e;omega
 refine Qz (fun l o h'=>h=h'/\∃ i:Nat,o=[.bool false,.int .i64 i]/\i<=n/\l=n-i/\a.take i=b.take i) ⟨rfl,0,rfl,Nat.zero_le _,rfl,rfl⟩ ?_;rintro Y l o _ s ⟨rfl,i,rfl,G,rfl,hc⟩;refine yJ (fun e=>?_) (fun e=>?_)
 ·obtain⟨x,A,k,t,C,D,E,F⟩:=g.at (i:=i) (by omega);obtain⟨y,B,j,u,f1,f2,f3,f4⟩:=hb.at (i:=i) (by omega);refine gZ ?_;refine t_ne4 two79 g79 ?_;refine yI (fun f=>?_) (fun f=>?_)
  ·refine gZ ?_;have:a≠b:=by rintro rfl;rw[k]at j;cases j;simp at f
   exact Qa ⟨by simp[this],rfl⟩
  ·have r:x=y:=by
    obtain⟨I,J,K,L⟩:=x;obtain⟨M,N,O,P⟩:=y;simp at f;obtain⟨rfl,rfl,rfl,rfl⟩:=f;rfl
   refine Qi (s (n-(i+1)) _ _ (by omega) ⟨rfl,i+1,?_,by omega,rfl,?_⟩)
   ·rw[Qh (by omega) (by omega)];rfl
   ·rw[List.take_add_one,List.take_add_one,hc,k,j,r]
 ·refine gZ ?_;rw[List.take_of_length_le (by omega),List.take_of_length_le (by omega)]at hc;exact Qa ⟨by simp[hc],rfl⟩
theorem c15{h:LH}{f:FileC}{u:UseFile}(hu:FileR h.get f u):FW X0 Tryz.prog 7 #[fileV f u] h fun r h'=>h=h'/\∃ b:Bool,r=.bool b/\(b=false->u.excuses.length<=20/\u.papers.length<=20/\u.requests.length<=20):=by
 refine w15 Qk ?_;have G:=hu.excuses.1;have D:=hu.papers.1;have r0:=hu.requests.1;have E:=hu.papers.2.1;have F:=hu.requests.2.1;refine Q1 (fun a h'=>a=[.bool false]/\h=h'/\u.excuses.length<=20/\u.papers.length<=20/\u.requests.length<=20) ?_ ?_
 ·refine t_if (fun g=>?_) (fun g=>?_)
  ·refine gZ ?_;exact Qa ⟨rfl,true,rfl,fun e=>by cases e⟩
  refine t_if (fun j=>?_) (fun j=>?_)
  ·refine gZ ?_;exact Qa ⟨rfl,true,rfl,fun e=>by cases e⟩
  refine t_if (fun o=>?_) (fun o=>?_)
  ·refine gZ ?_;exact Qa ⟨rfl,true,rfl,fun e=>by cases e⟩
  exact Qi ⟨rfl,rfl,by omega,by omega,by omega⟩
 rintro a _ ⟨rfl,rfl,v,w,y⟩;refine gZ ?_;refine Qz (fun d a h'=>h=h'/\∃ i:Nat,a=[.bool false,.int .i64 i]/\i<=f.n5/\d=f.n5-i) ⟨rfl,0,rfl,Nat.zero_le _,rfl⟩ ?_;rintro Y d a _ z ⟨rfl,i,rfl,A,rfl⟩;refine yJ (fun e=>?_) (fun e=>?_)
 ·obtain⟨x,p,B,n,g,j,o,q,m,c,s,t⟩:=hu.papers.at (i:=i) (by omega);refine yJ (fun k=>?_) (fun k=>?_)
  ·refine gZ ?_;exact Qa ⟨rfl,true,rfl,fun e=>by cases e⟩
  ·refine Qi (z (f.n5-(i+1)) _ _ (by omega) ⟨rfl,i+1,?_,by omega,rfl⟩);rw[Qh (by omega) (by omega)];rfl
 ·refine gZ ?_;refine Qz (fun d a h'=>h=h'/\∃ i:Nat,a=[.bool false,.int .i64 i]/\i<=f.n6/\d=f.n6-i) ⟨rfl,0,rfl,Nat.zero_le _,rfl⟩ ?_;rintro C d a _ l ⟨rfl,i,rfl,A,rfl⟩;refine yJ (fun e=>?_) (fun e=>?_)
  ·obtain⟨x,p,B,n,g,j,q,m,c,s,t⟩:=hu.requests.at (i:=i) (by omega);refine yJ (fun k=>?_) (fun k=>?_)
   ·refine gZ ?_;exact Qa ⟨rfl,true,rfl,fun e=>by cases e⟩
   ·refine Qi (l (f.n6-(i+1)) _ _ (by omega) ⟨rfl,i+1,?_,by omega,rfl⟩);rw[Qh (by omega) (by omega)];rfl
  ·refine gZ ?_;exact Qa ⟨rfl,false,rfl,fun _=>⟨v,w,y⟩⟩
end
section
theorem Hn:Grow LackE:=fun _ _ _ _ a h=>⟨a _ _ h.1,a _ _ h.2.1,a _ _ h.2.2.1,a _ _ h.2.2.2⟩
theorem ev1:window exU 20=⟨16,20⟩:=by decide +kernel
theorem ev2:window exU 25=⟨18,25⟩:=by decide +kernel
theorem ev3:safe exU 0 1 16=1:=by decide +kernel
theorem ev4:safe exU 0 1 18=0:=by decide +kernel
theorem ev5:safe exU 0 1 19=2:=by decide +kernel
theorem ev6:weak exU 0 1=17:=by decide +kernel
theorem ev7:weak exU 1 2=15:=by decide +kernel
theorem ev8:leftAll exU 0 25=[1,2,0]:=by decide +kernel
theorem ev9:lacks exU 0 20=[⟨1,0,⟨16,20⟩⟩,⟨2,0,⟨16,20⟩⟩]:=by decide +kernel
theorem ev10:enoughB exU 0 25 [0,2] (leftAll exU 0 25)=false:=by decide +kernel
theorem ev11:∀ i,i<16->okF exU 0 25 i=true->(∀ j,j<16->okF exU 0 25 j=true->fewerF (subsetL 4 i) (subsetL 4 j)<=0)->subsetL 4 i=[1]:=by decide +kernel
theorem ev12:okF exU 0 25 2=true:=by decide +kernel
theorem exWindow20:windowR exU 20=.tuple #[.agg #[.int .i64 16,.int .i64 20],.int .i64 0]:=by rw[windowR,if_neg (by decide +kernel),ev1]
theorem exWindow25:windowR exU 25=.tuple #[.agg #[.int .i64 18,.int .i64 25],.int .i64 0]:=by rw[windowR,if_neg (by decide +kernel),ev2]
theorem exSafe16:safeR exU 0 1 16=.tuple #[.int .i64 1,.int .i64 0]:=by rw[safeR,if_neg (by decide +kernel),ev3]
theorem exSafe18:safeR exU 0 1 18=.tuple #[.int .i64 0,.int .i64 0]:=by rw[safeR,if_neg (by decide +kernel),ev4]
theorem exSafe19:safeR exU 0 1 19=.tuple #[.int .i64 2,.int .i64 0]:=by rw[safeR,if_neg (by decide +kernel),ev5]
theorem exWeak1:weakR exU 0 1=.tuple #[.int .i64 17,.int .i64 0]:=by rw[weakR,if_neg (by decide +kernel),ev6]
theorem exWeak2:weakR exU 1 2=.tuple #[.int .i64 15,.int .i64 0]:=by rw[weakR,if_neg (by decide +kernel),ev7]
theorem exEnough:enoughR exU 0 25 [0,2]=.tuple #[.bool false,.int .i64 0]:=by rw[enoughR,if_neg (by decide +kernel),ev10]
theorem exOpen25:openF exU [landQ exU 0,dayQ 25]=0:=by decide +kernel
theorem exOpen20:openF exU [landQ exU 0,dayQ 20]=0:=by decide +kernel
attribute [local irreducible] T.wp CV FWK
theorem c16{h:LH}(Z:h.chans=[])(e0:h.pend=[])(c:Parts h.get):FW XT Tryz.prog 8 #[] h fun r h'=>r=.bool true/\Rd h.get h'.get/\h'.chans=[]/\h'.pend=[]/\h'.todo=h.todo:=by
 refine w16 XT_ok ?_;refine t_gr c52 ?_;rintro _ h1 M ⟨f,rfl,hu⟩;have c:=c.le M.1;refine gZ ?_;refine t_gr (c17 c hu 20) ?_;rintro _ h2 B rfl;rw[exWindow20];refine gZ ?_;have c:=c.le B.1;have hu:=hu.le B.1;refine t_gr (c17 c hu 25) ?_;rintro _ h3 C rfl;rw[exWindow25];refine gZ ?_;have c:=c.le C.1;have hu:=hu.le C.1;refine t_gr (c19 c hu 0 1 16) ?_;rintro _ h4 D rfl;rw[exSafe16];refine gZ ?_;have c:=c.le D.1;have hu:=hu.le D.1;refine t_gr (c19 c hu 0 1 18) ?_;rintro _ h5 E rfl;rw[exSafe18];refine gZ ?_;have c:=c.le E.1;have hu:=hu.le E.1;refine t_gr (c19 c hu 0 1 19) ?_;rintro _ h6 F rfl;rw[exSafe19];refine gZ ?_;have c:=c.le F.1;have hu:=hu.le F.1;refine t_gr (c21 c hu 0 1) ?_;rintro _ h7 G rfl;rw[exWeak1];refine gZ ?_;have c:=c.le G.1;have hu:=hu.le G.1;refine t_gr (c21 c hu 1 2) ?_;rintro _ h8 H rfl;rw[exWeak2];refine gZ ?_;have c:=c.le H.1;have hu:=hu.le H.1;refine t_gr (c23 c hu 0 25) ?_;rintro _ h9 I (⟨n,_⟩|⟨_,lp,ln,lc,rfl,q⟩)
 ·exact absurd exOpen25 n
 rw[ev8]at q;refine gZ ?_;have c:=c.le I.1;have hu:=hu.le I.1;refine t_gr (c28 c hu 0 20) ?_;rintro _ j0 k (⟨n,_⟩|⟨_,kp,kn,kc,rfl,u⟩)
 ·exact absurd exOpen20 n
 rw[ev9]at u;refine gZ ?_;have c:=c.le k.1;have hu:=hu.le k.1;have q:=q.le IntE.grow k.1;have le:=LH.le_trans (LH.le_trans (LH.le_trans (LH.le_trans (LH.le_trans (LH.le_trans (LH.le_trans (LH.le_trans (LH.le_trans M B) C) D) E) F) G) H) I) k;refine Jn (c33 (by rw[le.2.1,Z]) (by rw[le.2.2.1,e0]) c hu 0 25) ?_;rintro _ X ⟨g,J,P,Q,⟨n,_⟩|⟨_,pp,pn,pc,rfl,hb,_⟩⟩
 ·exact absurd exOpen25 n
 have z:Sl IntE 1 X.get pp pn [1]:=by
  rcases hb with⟨_,_,b0⟩|⟨i,a,rfl,hi,c0,hs,L⟩
  ·have:=b0 2 (by decide) (by simp);rw[ev12]at this;cases this
  ·have e:=ev11 i hi c0 fun j hj a0=>L j hj (by simp) a0;rw[<- e];exact hs
 refine gZ ?_;have c:=c.rd g;have hu:=hu.rd g;have q:=q.rd IntE.grow g;have u:=u.rd Hn g;refine Jg Wh inf3 (by decide) (by decide) (cells:=#[.int .i64 0,.int .i64 2]) (by kernel_rfl) fun o0 k0 o _ S=>?_;refine gZ ?_;have c:=c.le o.1;have hu:=hu.le o.1;refine t_gr (c31 c hu 0 25 (pl:=[0,2]) (K4 (l:=[0,2]) rfl S (by show (2:Nat)<_;omega))) ?_;rintro _ K N rfl;rw[exEnough];refine gZ ?_;have d:=LH.le_trans o N;have q:=q.le IntE.grow d.1;have u:=u.le Hn d.1;have z:=z.le IntE.grow d.1;refine Q1 (fun R h'=>R=[.bool false]/\K=h') ?_ ?_
 ·iterate 11 refine Ql (fun e=>absurd e (by decide)) (fun _=>?_)
  exact Qi ⟨rfl,rfl⟩
 rintro R _ ⟨rfl,rfl⟩;refine gZ ?_;refine Q1 (fun R h'=>R=[.bool false]/\K.le h') ?_ ?_
 ·refine t_pu (c42 _ _) ?_;refine gZ ?_;refine Yx Y4 g30 ?_;refine gZ ?_;refine Ql (fun e=>absurd e (by decide)) (fun _=>?_);refine t_pu (c42 _ _) ?_;refine gZ ?_;refine Yx Y4 g30 ?_;refine gZ ?_;refine Ql (fun e=>absurd e (by decide)) (fun _=>?_);refine gZ ?_;refine Ql (fun e=>absurd e (by decide)) (fun _=>?_);refine gZ ?_;refine Ql (fun e=>absurd e (by decide)) (fun _=>?_);refine gZ ?_;refine Ql (fun e=>absurd e (by decide)) (fun _=>?_);refine gZ ?_;refine Ql (fun e=>absurd e (by decide)) (fun _=>?_);refine gZ ?_;refine Ql (fun e=>absurd e (by decide)) (fun _=>?_);refine gZ ?_;refine Ql (fun e=>absurd e (by decide)) (fun _=>?_);refine gZ ?_;refine Jg Wh inf3 (by decide) (by decide) (cells:=#[.int .i64 1]) (by kernel_rfl) fun p0 l0 w _ U=>?_;refine gZ ?_;refine t_pu (c35 (z.le IntE.grow w.1) (K4 (l:=[1]) rfl U (by show (1:Nat)<_;omega))) ?_;refine gZ ?_;refine Ql (fun e=>absurd e (by decide)) (fun _=>?_);exact Qi ⟨rfl,w⟩
 rintro R m0 ⟨rfl,p⟩;have q:=q.le IntE.grow p.1;have u:=u.le Hn p.1;refine gZ ?_;refine Jg Yv Y7 (by decide) (by decide) (cells:=#[.int .i64 1,.int .i64 2,.int .i64 0]) (by kernel_rfl) fun q0 n0 y _ V=>?_;refine gZ ?_;refine t_pu (c25 (q.le IntE.grow y.1) (K4 (l:=[1,2,0]) rfl V (by show (3:Nat)<_;omega))) ?_;refine gZ ?_;refine Ql (fun _=>?_) (fun e=>absurd e (by decide));refine gZ ?_;refine t_pu (c42 _ _) ?_;refine gZ ?_;refine t_pu (c42 _ _) ?_;refine gZ ?_;refine Jg Yu Y6 (by decide) (by decide) (cells:=#[.int .i64 1,.int .i64 0,.int .i64 16,.int .i64 20,.int .i64 2,.int .i64 0,.int .i64 16,.int .i64 20]) (by kernel_rfl) fun g0 Y O _ W=>?_;refine gZ ?_;have m:=LH.le_trans y O;refine t_pu (c30 (u.le Hn m.1) (b:=[⟨1,0,⟨16,20⟩⟩,⟨2,0,⟨16,20⟩⟩]) ?_) ?_
 ·refine⟨rfl,by show (2:Nat)<_;omega,?_⟩;have t:∀ {i j:Nat} {v:Value},(#[.int .i64 1,.int .i64 0,.int .i64 16,.int .i64 20,.int .i64 2,.int .i64 0,.int .i64 16,.int .i64 20]:Array Value)[i+j]?=some v->Y.get.cell? (Addr.add (Addr.add ⟨g0,0,none⟩ i) j)=some v:=by
   intro i j v hv;rw[Qo,Qo,Nat.zero_add];exact cell_row W hv
  intro i x A
  match i,A with
  | 0,A=>cases A;exact⟨_,rfl,t rfl,t rfl,t rfl,t rfl⟩
  | 1,A=>cases A;exact⟨_,rfl,t rfl,t rfl,t rfl,t rfl⟩
  | i+2,A=>simp at A
 refine gZ ?_;have s:=LH.le_trans (LH.le_trans d p) m;refine Qa ⟨by simp,(Rd.of_le le.1).trans (g.trans (Rd.of_le s.1)),by rw[s.2.1,J],by rw[s.2.2.1,P],by rw[s.2.2.2,Q,le.2.2.2]⟩
end
section
attribute [local irreducible] T.wp CV FWK
def Fin(h:LH):Value->LH->Prop:=fun r h'=>r=.bool true/\h'.chans=[]/\h'.pend=[]/\h'.todo=h.todo
theorem fin_shown{h h':LH}(a:h.chans=[])(b:h.pend=[])(i:Parts h.get)(hle:h.le h'):FW XT Tryz.prog 8 #[] h' (Fin h):=by
 refine FW.mono (c16 (by rw[hle.2.1,a]) (by rw[hle.2.2.1,b]) (i.le hle.1)) ?_;rintro v c ⟨d,_,e,f,g⟩;exact⟨d,e,f,by rw[g,hle.2.2.2]⟩
theorem Ya{h h':LH}{k:Bool->T}{Q:Leaf->LH->Prop}(b:h.chans=[])(c:h.pend=[])(f:Parts h.get)(hle:h.le h')(e:∀ a,a.chans=[]/\a.pend=[]/\a.todo=h.todo->(k true).wp XT Tryz.prog Q a) :
  (T.call false 8 #[] fun v=>T.unB v k).wp XT Tryz.prog Q h':=by
 refine Jn (fin_shown b c f hle) ?_;rintro _ a ⟨rfl,d⟩;exact gC (e a d)
end
section
attribute [local irreducible] T.wp CV FWK
def PaperB(h0:Cells)(h:Cells)(a:Addr)(x:Paper):Prop:=∃ q m c,(∀ (j:Nat) w,[Value.int .i64 x.days.first,.int .i64 x.days.last,.int .i64 x.land,.slice q m c][j]?=some w->h.cell? (a.add j)=some w)/\Sl IntE 1 h0 q m x.items
variable {h0 h h':Cells}
theorem D4:ToldE (PaperB h0) (PaperEnc h0) 4 h:=by
 rintro a x ⟨q,m,c,b,d⟩;exact⟨_,⟨q,m,c,rfl,d⟩,rfl,b,fun w hw=>by simp at hw;rcases hw with rfl|rfl|rfl|rfl<;>rfl⟩
theorem Ui(hr:Rd h0 h){p:Option Addr}{n:Nat}{l:List Paper}(s:Sl PaperE 4 h0 p n l):Sl (PaperB h0) 4 h p n l:=by
 refine⟨s.1,s.2.1,fun i x r=>?_⟩;obtain⟨a,o,d,e,f,q,m,c,g,k⟩:=s.2.2 i x r;refine⟨a,o,q,m,c,fun j w b=>?_,k⟩
 match j,b with
 | 0,b=>cases b;exact hr _ _ d
 | 1,b=>cases b;exact hr _ _ e
 | 2,b=>cases b;exact hr _ _ f
 | 3,b=>cases b;exact hr _ _ g
 | j+4,b=>simp at b
def SpanEnc(x:Span)(ws:List Value):Prop:=ws=[.int .i64 x.first,.int .i64 x.last]
theorem SpanEnc.len:∀ x ws,SpanEnc x ws->ws.length=2:=by rintro x _ rfl;rfl
theorem SpanEnc.e:∀ a x ws,SpanEnc x ws->(∀ (j:Nat) w,ws[j]?=some w->h'.cell? (a.add j)=some w)->SpanE h' a x:=by
 rintro a x _ rfl hc;exact⟨hc 0 _ rfl,hc 1 _ rfl⟩
theorem spanTold:ToldE SpanE SpanEnc 2 h:=by
 rintro a x ⟨c,d⟩;refine⟨_,rfl,rfl,fun j w b=>?_,fun w hw=>by simp at hw;rcases hw with rfl|rfl<;>rfl⟩
 match j,b with
 | 0,b=>cases b;exact c
 | 1,b=>cases b;exact d
 | j+2,b=>simp at b
theorem row_stands{r:Nat}{cs:Array Value}{el:TypeId}{ws:List Value}(hr:h r=some (true,.cells cs el (0,0)))(hc:∀ (j:Nat) w,ws[j]?=some w->cs[j]?=some w)(b:h' r=h r)(j:Nat)(w:Value)(a:ws[j]?=some w):h'.cell? ((⟨r,0,none⟩ : Addr).add j)=some w:=by
 rw[Qo,Nat.zero_add];unfold Cells.cell?;rw[b,hr];exact hc j w a
section
variable {X:XP} {Q:Leaf->LH->Prop}
theorem Km{α:Type}{Enc:α->List Value->Prop}{h d:LH}{K:Value->T}{k el:TypeId}{s e:Nat}{z:Value}{p:Option Addr}{n c:Nat}{l:List α}{x:α}{ws:List Value}{r:Nat}{cs:Array Value}(hu:Tryz.prog.underlying k=some (.slice el))(o:(Tryz.prog.info? el).map (fun i=>(i.size,i.bytes,i.zero))=some (s,e,some z))(m:z.cells.size=s)(hb:e<=1024)(y:n+1<=2^30)
 (g:Growing Enc el s h.get d.get p n c l)(hle:h.le d)(he:Enc x ws)(u:ws.length=s)(one:∀ v∈ws,isOne v=true)(hr:d.get r=some (true,.cells cs el (0,0)))(hc:∀ (j:Nat) w,ws[j]?=some w->cs[j]?=some w)
 (t:∀ f c' h',h.le h'->Growing Enc el s h.get h'.get f (n+1) c' (l++[x])->(K (.slice f (n+1) c')).wp X Tryz.prog Q h'):(T.sem false (Builtin.append_ #[k,k] k #[.slice p n c,.slice (some ⟨r,0,none⟩) 1 1]) K).wp X Tryz.prog Q d :=
 D3 (h₀:=h) (x:=x) (ws:=ws) rfl rfl hu hu o m hb y g hle he u (fun j v q=>row_stands hr hc rfl j v q) one fun f c' h' a _ b=>t f c' h' a b
end
end
section
attribute [local irreducible] T.wp CV FWK
def ReqB(h0:Cells)(h:Cells)(a:Addr)(x:Request):Prop:=∃ q m c,(∀ (j:Nat) w,[Value.int .i64 x.day,.int .i64 x.land,.slice q m c][j]?=some w->h.cell? (a.add j)=some w)/\Sl IntE 1 h0 q m x.items
variable {h0 h:Cells}
theorem reqTold:ToldE (ReqB h0) (ReqEnc h0) 3 h:=by
 rintro a x ⟨q,m,c,b,d⟩;exact⟨_,⟨q,m,c,rfl,d⟩,rfl,b,fun w hw=>by simp at hw;rcases hw with rfl|rfl|rfl<;>rfl⟩
theorem reqB_of(hr:Rd h0 h){p:Option Addr}{n:Nat}{l:List Request}(s:Sl RequestE 3 h0 p n l):Sl (ReqB h0) 3 h p n l:=by
 refine⟨s.1,s.2.1,fun i x o=>?_⟩;obtain⟨a,k,d,e,q,m,c,f,g⟩:=s.2.2 i x o;refine⟨a,k,q,m,c,fun j w b=>?_,g⟩
 match j,b with
 | 0,b=>cases b;exact hr _ _ d
 | 1,b=>cases b;exact hr _ _ e
 | 2,b=>cases b;exact hr _ _ f
 | j+3,b=>simp at b
end
end Go.Y
section
namespace Go.TM.Tp
def spanO(o:Option (Nat×Nat)):Span:=match o with
 | some p=>⟨p.1,p.2⟩
 | none=>⟨0,0⟩
def numO(o:Option Nat):Int:=match o with
 | some n=>n
 | none=>0
def listO(o:Option (List Nat)):List Int:=match o with
 | some l=>ints l
 | none=>[]
def useO(o:Option (List Nat)):Option LU:=match o with
 | some [a,b,c,d]=>some (.use a b c d)
 | _=>none
variable {u:UseFile}{h:LH}{f:FileC}{b:Bool}
theorem Hq(f:List Bs):itemU wUse f=useO (numsL f):=by
 unfold itemU;rw[if_pos rfl];cases numsL f with
 | none=>rfl
 | some m =>
  match m with
  | []=>rfl
  | [_]=>rfl
  | [_,_]=>rfl
  | [_,_,_]=>rfl
  | [_,_,_,_]=>rfl
  | _::_::_::_::_::_=>rfl
theorem Gv(x:Bs):itemU wExcuse [x]=(rangeL x).map fun p=>.excuse p.1 p.2:=by
 unfold itemU;rw[if_neg (by decide),if_pos rfl]
theorem W5{f:List Bs}(h:f.length≠1):itemU wExcuse f=none:=by
 unfold itemU;rw[if_neg (by decide),if_pos rfl]
 match f,h with
 | [],_=>rfl
 | [x],h=>exact absurd rfl h
 | x::y::f,_=>rfl
theorem G8(x y z:Bs):itemU wPaper [x,y,z]=(rangeL x).bind fun p=>(numL y).bind fun l=>(listL z).map fun m=>.paper p.1 p.2 l m:=by
 unfold itemU;rw[if_neg (by decide),if_neg (by decide),if_pos rfl]
theorem W4(x y z:Bs):itemU wRequest [x,y,z]=(numL x).bind fun d=>(numL y).bind fun l=>(listL z).map fun m=>.request d l m:=by
 unfold itemU;rw[if_neg (by decide),if_neg (by decide),if_neg (by decide),if_pos rfl]
theorem Gu{f:List Bs}(h:f.length≠3):itemU wPaper f=none:=by
 unfold itemU;rw[if_neg (by decide),if_neg (by decide),if_pos rfl]
 match f,h with
 | [],_=>rfl
 | [x],_=>rfl
 | [x,y],_=>rfl
 | [x,y,z],h=>exact absurd rfl h
 | x::y::z::w::f,_=>rfl
theorem Wo{f:List Bs}(h:f.length≠3):itemU wRequest f=none:=by
 unfold itemU;rw[if_neg (by decide),if_neg (by decide),if_neg (by decide),if_pos rfl]
 match f,h with
 | [],_=>rfl
 | [x],_=>rfl
 | [x,y],_=>rfl
 | [x,y,z],h=>exact absurd rfl h
 | x::y::z::w::f,_=>rfl
def LineA(u:UseFile)(o:Option LU)(r:Value)(h:LH):Prop:=match o with
 | some x=>∃ f,r=.tuple #[fileV f (x.put u),.bool true]/\FileR h.get f (x.put u)
 | none=>∃ f v,r=.tuple #[fileV f v,.bool false]
def putX(u:UseFile)(x:Span):UseFile:={ u with excuses:=u.excuses++[x] }
def putP(u:UseFile)(x:Paper):UseFile:={ u with papers:=u.papers++[x] }
def putR(u:UseFile)(x:Request):UseFile:={ u with requests:=u.requests++[x] }
theorem lineX{x:Bs}(a:FileR h.get f (putX u (spanO (rangeL x)))):LineA u (itemU wExcuse [x]) (.tuple #[fileV f (putX u (spanO (rangeL x))),.bool (rangeL x).isSome]) h:=by
 rw[Gv];cases e:rangeL x with
 | none=>exact⟨_,_,rfl⟩
 | some p=>rw[e]at a;exact⟨f,rfl,a⟩
theorem lineP{x y z:Bs}(a:FileR h.get f (putP u ⟨spanO (rangeL x),numO (numL y),listO (listL z)⟩))(hb:b=((numL y).isSome&&(listL z).isSome&&(rangeL x).isSome)):LineA u (itemU wPaper [x,y,z]) (.tuple #[fileV f (putP u ⟨spanO (rangeL x),numO (numL y),listO (listL z)⟩),.bool b]) h:=by
 rw[G8,hb];cases e:rangeL x with
 | none=>rw[show ((numL y).isSome&&(listL z).isSome&&(none:Option (Nat×Nat)).isSome)=false by simp];exact⟨_,_,rfl⟩
 | some p =>
  cases c:numL y with
  | none=>exact⟨_,_,rfl⟩
  | some l =>
   cases d:listL z with
   | none=>exact⟨_,_,rfl⟩
   | some m=>rw[e,c,d]at a;exact⟨f,rfl,a⟩
theorem lineR{x y z:Bs}(a:FileR h.get f (putR u ⟨numO (numL x),numO (numL y),listO (listL z)⟩))(hb:b=((numL y).isSome&&(listL z).isSome&&(numL x).isSome)):LineA u (itemU wRequest [x,y,z]) (.tuple #[fileV f (putR u ⟨numO (numL x),numO (numL y),listO (listL z)⟩),.bool b]) h:=by
 rw[W4,hb];cases e:numL x with
 | none=>rw[show ((numL y).isSome&&(listL z).isSome&&(none:Option Nat).isSome)=false by simp];exact⟨_,_,rfl⟩
 | some p =>
  cases c:numL y with
  | none=>exact⟨_,_,rfl⟩
  | some l =>
   cases d:listL z with
   | none=>exact⟨_,_,rfl⟩
   | some m=>rw[e,c,d]at a;exact⟨f,rfl,a⟩
end Go.TM.Tp
namespace Go.Y.Txt
open Go.TM.Tp
open Go.Lib (decDigits)
attribute [local irreducible] T.wp CV FWK
variable {h h':LH}{f:FileC}{u:UseFile}{p:Option Addr}{n c:Nat}
theorem rangeV_is(o:Option (Nat×Nat)):rangeV o=.tuple #[.agg #[.int .i64 (spanO o).first,.int .i64 (spanO o).last],.bool o.isSome]:=by cases o<;>rfl
theorem Yf(o:Option Nat):optV o=.tuple #[.int .i64 (numO o),.bool o.isSome]:=by cases o<;>rfl
theorem ListA.is{o:Option (List Nat)}{r:Value}(a:ListA o r h):∃ p n c,r=.tuple #[.slice p n c,.bool o.isSome]/\InS h p n c (listO o):=by
 cases o<;>exact a
theorem xEnd{y:Span}(hu:FileR h.get f u)(a:u.excuses.length<=2^20)(hle:h.le h')(g:Growing SpanEnc 46 2 h.get h'.get p n c (u.excuses++[y])):FileR h'.get { f with p4:=p,n4:=n,c4:=c } (putX u y) :=
 ⟨g.sl SpanEnc.len (by omega) SpanEnc.e (show (u.excuses++[y]).length<4611686018427387904 by rw[List.length_append,List.length_singleton];omega),(hu.le hle.1).papers,(hu.le hle.1).requests⟩
theorem pEnd{y:Paper}(hu:FileR h.get f u)(a:u.papers.length<=2^20)(hle:h.le h')(g:Growing (PaperEnc h.get) 49 4 h.get h'.get p n c (u.papers++[y])):FileR h'.get { f with p5:=p,n5:=n,c5:=c } (putP u y) :=
 ⟨(hu.le hle.1).excuses,g.sl PaperEnc.len (by omega) (PaperEnc.e (Rd.of_le hle.1)) (show (u.papers++[y]).length<4611686018427387904 by rw[List.length_append,List.length_singleton];omega),(hu.le hle.1).requests⟩
theorem rEnd{y:Request}(hu:FileR h.get f u)(a:u.requests.length<=2^20)(hle:h.le h')(g:Growing (ReqEnc h.get) 51 3 h.get h'.get p n c (u.requests++[y])):FileR h'.get { f with p6:=p,n6:=n,c6:=c } (putR u y) :=
 ⟨(hu.le hle.1).excuses,(hu.le hle.1).papers,g.sl ReqEnc.len (by omega) (ReqEnc.e (Rd.of_le hle.1)) (show (u.requests++[y]).length<4611686018427387904 by rw[List.length_append,List.length_singleton];omega)⟩
def Few(u:UseFile):Prop:=u.excuses.length<=2^20/\u.papers.length<=2^20/\u.requests.length<=2^20
theorem c3732_use(hu:FileR h.get f u){fs:List Bs}(s:BsS h p n c fs)(F:fs.length<=2^20)(hb:∀ x∈fs,x.length<=2^19):Gr Tryz.prog 54 #[fileV f u,.string (str wUse),.slice p n c] h fun r h'=>LineA u (itemU wUse fs) r h':=by
 refine w3732 _ _ _ _ _ _ _ _ _ _ _ _ _ _ _ _ _ Qk ?_;unfold n3732;rw[Hq];refine Zp (b:=wUse) undS ?_;refine gZ ?_;refine Ql (fun _=>?_) (fun e=>by simp at e);refine t_gr (c3756 s F (fun x G=>by have:=hb x G;omega)) ?_;intro r A g hr;have bad:∀ b:Bool,LineA u none (.tuple #[fileV f u,.bool false]) A:=fun _=>⟨f,u,rfl⟩;cases hv:numsL fs with
 | none =>
  rw[hv]at hr;have hr:r=.tuple #[.slice none 0 0,.bool false]:=hr;subst hr;refine gZ ?_;refine Q1 (fun t h'=>False) ?_ (fun _ _ w=>w.elim);refine yT ?_;refine gZ ?_;exact Qa ⟨g,bad true⟩
 | some m =>
  rw[hv]at hr;obtain⟨q,k,kc,rfl,j⟩:=hr;have y:=j.2.1;have l:(ints m).length=m.length:=by unfold ints;simp
  refine gZ ?_;by_cases o:m.length=4
  ·match m,o,j,y,l with
   | [H,I,J,K],_,j,y,l =>
    have z:k=4:=by rw[y];rfl
    subst z;obtain⟨a,v,B⟩:=j.at (i:=0) (x:=(H:Int)) rfl;obtain⟨a',d,C⟩:=j.at (i:=1) (x:=(I:Int)) rfl;rw[v]at d;cases d;obtain⟨a',d,D⟩:=j.at (i:=2) (x:=(J:Int)) rfl;rw[v]at d;cases d;obtain⟨a',d,E⟩:=j.at (i:=3) (x:=(K:Int)) rfl;rw[v]at d;cases d;rw[Nat.mul_one]at B C D E;refine Q1 (fun t h'=>t=[.bool false,.int .i64 0,.int .i64 0,.int .i64 0,.int .i64 0,.slice none 0 0,.slice none 0 0,.slice none 0 0]/\A=h') ?_ ?_
    ·refine yF ?_;refine Ql (fun e=>absurd e (by decide)) (fun _=>?_);exact Qi ⟨rfl,rfl⟩
    rintro t _ ⟨rfl,rfl⟩;refine gZ ?_;exact Qa ⟨g,f,rfl,(hu.le g.1).excuses,(hu.le g.1).papers,(hu.le g.1).requests⟩
  ·have e:useO (some m)=none:=by
    match m,o with
    | [],_=>rfl
    | [_],_=>rfl
    | [_,_],_=>rfl
    | [_,_,_],_=>rfl
    | [_,_,_,_],o=>exact absurd rfl o
    | _::_::_::_::_::_,_=>rfl
   rw[e];refine Q1 (fun t h'=>False) ?_ (fun _ _ w=>w.elim);refine yF ?_;refine Ql (fun _=>?_) (fun e=>absurd e (by simp;omega));refine gZ ?_;exact Qa ⟨g,bad true⟩
theorem c3732_excuse(hu:FileR h.get f u)(M:Few u){fs:List Bs}(s:BsS h p n c fs)(hb:∀ x∈fs,x.length<=2^19):Gr Tryz.prog 54 #[fileV f u,.string (str wExcuse),.slice p n c] h fun r h'=>LineA u (itemU wExcuse fs) r h':=by
 refine w3732 _ _ _ _ _ _ _ _ _ _ _ _ _ _ _ _ _ Qk ?_;unfold n3732;have L:=s.2.1;refine Zp (b:=wUse) undS ?_;refine gZ ?_;refine Ql (fun e=>absurd e (by decide)) (fun _=>?_);refine Zp (b:=wExcuse) undS ?_;refine gZ ?_;refine Ql (fun _=>?_) (fun e=>by simp at e);refine Ql (fun e=>?_) (fun e=>?_)
 ·rw[W5 (fun R=>by rw[L,R]at e;exact absurd e (by decide))];exact Qa ⟨LH.le_refl _,f,u,rfl⟩
 have R:fs.length=1:=by
  have:(n:Int)=1:=by simpa using e
  omega
 match fs,R,s,hb,L with
 | [x],_,s,hb,L =>
 have S:n=1:=L;subst S;obtain⟨a,K,X⟩:=s.at (i:=0) (x:=x) rfl;rw[Nat.mul_one]at X;refine gZ ?_;refine Qt X ?_;refine t_gr (c3757 x (hb x (by simp))) ?_;rintro _ z I rfl;rw[rangeV_is];refine gZ ?_;have o:=hu.le I.1;have hlen:=o.excuses.1;have D:=M.1;have fin:∀ {J:Option Addr} {Z c':Nat} {h':LH},z.le h'->Growing SpanEnc 46 2 z.get h'.get J Z c' (u.excuses++[spanO (rangeL x)])->h.le h'/\LineA u (itemU wExcuse [x]) (.tuple #[fileV { f with p4:=J,n4:=Z,c4:=c' } (putX u (spanO (rangeL x))),.bool (rangeL x).isSome]) h':=fun le g=>⟨LH.le_trans I le,lineX (xEnd o D le g)⟩;generalize (rangeL x).isSome=ok at fin ⊢;generalize spanO (rangeL x)=y at fin ⊢;have enc:SpanEnc y [.int .i64 y.first,.int .i64 y.last]:=rfl;have t:∀ v∈[Value.int .i64 y.first,.int .i64 y.last],isOne v=true:=by
  intro v hv;simp only[List.mem_cons,List.not_mem_nil,or_false]at hv;rcases hv with rfl|rfl<;>rfl
 refine Jw ?_ ?_
 ·refine Gb (h₀:=z) (Enc:=SpanEnc) Kp K1 (LH.le_refl _) fun r0 O B l N=>?_;refine gZ ?_;refine Jw ?_ ?_
  ·refine H1 (h₀:=z) rfl rfl Kp Kp K1 rfl (by omega) (by omega) N l ((o.le l.1).excuses) spanTold fun p2 c2 E k _ P=>?_;refine gZ ?_;refine Jg Kp K1 (by decide) (by decide) (cells:=#[.int .i64 y.first,.int .i64 y.last]) (by kernel_rfl) fun r F m b0 C=>?_;refine gZ ?_;refine Km (h:=z) Kp K1 rfl (by omega) (by omega) (P.le m.1) (LH.le_trans k m) enc rfl t C (fun j w H=>by simpa using H) fun J c' h' q g'=>?_;refine gZ ?_;exact Qa (fin q g')
  ·refine Jg Kp K1 (by decide) (by decide) (cells:=#[.int .i64 y.first,.int .i64 y.last]) (by kernel_rfl) fun r E k U e2=>?_;refine gZ ?_;have d:=LH.le_trans l k;refine H1 (h₀:=z) rfl rfl Kp Kp K1 rfl (by omega) (by omega) (N.le k.1) d ((o.le d.1).excuses) spanTold fun p3 c3 F m V Q=>?_;refine gZ ?_;have A:r≠r0:=by
    rintro rfl;obtain⟨vs,⟨_,G⟩,_⟩:=N.row;rcases G with⟨G,_⟩|⟨r',cs,G,Y,_⟩
    ·cases G
    ·cases G;rw[U]at Y;cases Y
   have C:=V r _ (fun a K e=>by cases K;exact A e.symm) e2;refine Km (h:=z) Kp K1 rfl (by omega) (by omega) Q m enc rfl t C (fun j w H=>by simpa using H) fun J c' h' q g'=>?_;refine gZ ?_;exact Qa (fin q g')
 ·refine Jg Kp K1 (by decide) (by decide) (cells:=#[.int .i64 y.first,.int .i64 y.last]) (by kernel_rfl) fun r O l a0 W=>?_;refine gZ ?_;refine Gb (h₀:=z) (Enc:=SpanEnc) Kp K1 l fun r0 E B k P=>?_;refine gZ ?_;have d:=LH.le_trans l k;refine H1 (h₀:=z) rfl rfl Kp Kp K1 rfl (by omega) (by omega) P d ((o.le d.1).excuses) spanTold fun p3 c3 F m V Q=>?_;refine gZ ?_;have A:r≠r0:=by rintro rfl;rw[W]at B;cases B
  have C:=V r _ (fun a K e=>by cases K;exact A e.symm) (k.1 _ _ W);refine Km (h:=z) Kp K1 rfl (by omega) (by omega) Q m enc rfl t C (fun j w H=>by simpa using H) fun J c' h' q g'=>?_;refine gZ ?_;exact Qa (fin q g')
theorem c3732_paper(hu:FileR h.get f u)(Z:Few u){fs:List Bs}(s:BsS h p n c fs)(hb:∀ x∈fs,x.length<=2^19):Gr Tryz.prog 54 #[fileV f u,.string (str wPaper),.slice p n c] h fun r h'=>LineA u (itemU wPaper fs) r h':=by
 refine w3732 _ _ _ _ _ _ _ _ _ _ _ _ _ _ _ _ _ Qk ?_;unfold n3732;have X:=s.2.1;refine Zp (b:=wUse) undS ?_;refine gZ ?_;refine Ql (fun e=>absurd e (by decide)) (fun _=>?_);refine Zp (b:=wExcuse) undS ?_;refine gZ ?_;refine Ql (fun e=>absurd e (by decide)) (fun _=>?_);refine Ql (fun e=>?_) (fun e=>?_)
 ·rw[Gu (fun h1=>by rw[X,h1]at e;exact absurd e (by decide))];exact Qa ⟨LH.le_refl _,f,u,rfl⟩
 have h1:fs.length=3:=by
  have:(n:Int)=3:=by simpa using e
  omega
 match fs,h1,s,hb,X with
 | [x,E,z],_,s,hb,X =>
 have c0:n=3:=X;subst c0;obtain⟨a,Q,J⟩:=s.at (i:=1) (x:=E) rfl;rw[Nat.mul_one]at J;refine gZ ?_;refine Qt J ?_;refine t_pu (c3758 E (by have:=hb E (by simp);omega)) ?_;rw[Yf];refine gZ ?_;obtain⟨a',R,K⟩:=s.at (i:=2) (x:=z) rfl;rw[Q]at R;cases R;rw[Nat.mul_one]at K;refine Qt K ?_;refine t_gr (c3759 z (hb z (by simp))) ?_;intro r hA V hr;obtain⟨q,m,I,rfl,si⟩:=hr.is;refine gZ ?_;refine Zp (b:=wPaper) undS ?_;refine gZ ?_;refine Ql (fun e=>?_) (fun e=>by simp at e);obtain⟨a0,m0,g0⟩:=(s.le V).at (i:=0) (x:=x) rfl;rw[Nat.mul_one]at g0;refine gZ ?_;refine Qt g0 ?_;refine t_gr (c3757 x (hb x (by simp))) ?_;rintro _ k F rfl;have W:=LH.le_trans V F;have l0:=si.le F;rw[rangeV_is];refine gZ ?_;have C:=hu.le W.1;have hlen:=C.papers.1;have N:=Z.2.1;have fin:∀ {B:Option Addr} {L c':Nat} {h':LH} {b:Bool},k.le h'->Growing (PaperEnc k.get) 49 4 k.get h'.get B L c' (u.papers++[⟨spanO (rangeL x),numO (numL E),listO (listL z)⟩])->b=((numL E).isSome&&(listL z).isSome&&(rangeL x).isSome)->h.le h'/\LineA u (itemU wPaper [x,E,z]) (.tuple #[fileV { f with p5:=B,n5:=L,c5:=c' } (putP u ⟨spanO (rangeL x),numO (numL E),listO (listL z)⟩),.bool b]) h':=fun le g hb=>⟨LH.le_trans W le,lineP (pEnd C N le g) hb⟩;generalize (rangeL x).isSome=p0 at fin ⊢;generalize (numL E).isSome=j0 at fin ⊢;generalize (listL z).isSome=k0 at fin ⊢;generalize Y:(⟨spanO (rangeL x),numO (numL E),listO (listL z)⟩ : Paper)=y at fin ⊢;have enc:PaperEnc k.get y [.int .i64 y.days.first,.int .i64 y.days.last,.int .i64 y.land,.slice q m I]:=⟨q,m,I,rfl,by rw[<- Y];exact l0.2⟩
 rw[show (spanO (rangeL x)).first=y.days.first by rw[<- Y],show (spanO (rangeL x)).last=y.days.last by rw[<- Y],show numO (numL E)=y.land by rw[<- Y]];have D:∀ v∈[Value.int .i64 y.days.first,.int .i64 y.days.last,.int .i64 y.land,.slice q m I],isOne v=true:=by
  intro v hv;simp only[List.mem_cons,List.not_mem_nil,or_false]at hv;rcases hv with rfl|rfl|rfl|rfl<;>rfl
 refine Q1 (fun vs h'=>∃ B L c',vs=[.int .i64 u.items,.int .i64 u.lands,.int .i64 u.from_,.int .i64 u.idle,.slice f.p4 f.n4 f.c4,.slice B L c',.slice f.p6 f.n6 f.c6]/\k.le h'/\Growing (PaperEnc k.get) 49 4 k.get h'.get B L c' (u.papers++[y])) ?_ ?_
 ·refine Jw ?_ ?_
  ·refine Gb (h₀:=k) (Enc:=PaperEnc k.get) Z4 K0 (LH.le_refl _) fun r0 b0 H t J=>?_;refine gZ ?_;refine Jw ?_ ?_
   ·refine H1 (h₀:=k) rfl rfl Z4 Z4 K0 rfl (by omega) (by omega) J t (Ui (Rd.of_le t.1) C.papers) D4 fun p2 c2 O o _ K=>?_;refine gZ ?_;refine Jg Z4 K0 (by decide) (by decide) (cells:=#[.int .i64 y.days.first,.int .i64 y.days.last,.int .i64 y.land,.slice q m I]) (by kernel_rfl) fun r P A o0 M=>?_;refine gZ ?_;refine Km (h:=k) Z4 K0 rfl (by omega) (by omega) (K.le A.1) (LH.le_trans o A) enc rfl D M (fun j w U=>by simpa using U) fun B c' h' d g'=>?_;refine gZ ?_;exact Qi ⟨B,_,c',rfl,d,g'⟩
   ·refine Jg Z4 K0 (by decide) (by decide) (cells:=#[.int .i64 y.days.first,.int .i64 y.days.last,.int .i64 y.land,.slice q m I]) (by kernel_rfl) fun r O o e0 e2=>?_;refine gZ ?_;have l:=LH.le_trans t o;refine H1 (h₀:=k) rfl rfl Z4 Z4 K0 rfl (by omega) (by omega) (J.le o.1) l (Ui (Rd.of_le l.1) C.papers) D4 fun p3 c3 P A kp g3=>?_;refine gZ ?_;have G:r≠r0:=by
     rintro rfl;obtain⟨vs,⟨_,S⟩,_⟩:=J.row;rcases S with⟨S,_⟩|⟨r',cs,S,h5,_⟩
     ·cases S
     ·cases S;rw[e0]at h5;cases h5
    have M:=kp r _ (fun a Q e=>by cases Q;exact G e.symm) e2;refine Km (h:=k) Z4 K0 rfl (by omega) (by omega) g3 A enc rfl D M (fun j w U=>by simpa using U) fun B c' h' d g'=>?_;refine gZ ?_;exact Qi ⟨B,_,c',rfl,d,g'⟩
  ·refine Jg Z4 K0 (by decide) (by decide) (cells:=#[.int .i64 y.days.first,.int .i64 y.days.last,.int .i64 y.land,.slice q m I]) (by kernel_rfl) fun r b0 t n0 e1=>?_;refine gZ ?_;refine Gb (h₀:=k) (Enc:=PaperEnc k.get) Z4 K0 t fun r0 O H o K=>?_;refine gZ ?_;have l:=LH.le_trans t o;refine H1 (h₀:=k) rfl rfl Z4 Z4 K0 rfl (by omega) (by omega) K l (Ui (Rd.of_le l.1) C.papers) D4 fun p3 c3 P A kp g3=>?_;refine gZ ?_;have G:r≠r0:=by rintro rfl;rw[e1]at H;cases H
   have M:=kp r _ (fun a Q e=>by cases Q;exact G e.symm) (o.1 _ _ e1);refine Km (h:=k) Z4 K0 rfl (by omega) (by omega) g3 A enc rfl D M (fun j w U=>by simpa using U) fun B c' h' d g'=>?_;refine gZ ?_;exact Qi ⟨B,_,c',rfl,d,g'⟩
 rintro vs h' ⟨B,L,c',rfl,d,g'⟩;refine gZ ?_;cases j0 with
 | false=>exact Ql (fun e=>by cases e) (fun _=>Qa (fin d g' (by simp)))
 | true =>
  refine yT ?_;cases k0 with
  | false=>exact Ql (fun e=>by cases e) (fun _=>Qa (fin d g' (by simp)))
  | true=>exact Ql (fun _=>Qa (fin d g' (by simp))) (fun e=>by cases e)
theorem c3732_request(hu:FileR h.get f u)(J:Few u){fs:List Bs}(s:BsS h p n c fs)(hb:∀ x∈fs,x.length<=2^19):Gr Tryz.prog 54 #[fileV f u,.string (str wRequest),.slice p n c] h fun r h'=>LineA u (itemU wRequest fs) r h':=by
 refine w3732 _ _ _ _ _ _ _ _ _ _ _ _ _ _ _ _ _ Qk ?_;unfold n3732;have I:=s.2.1;refine Zp (b:=wUse) undS ?_;refine gZ ?_;refine Ql (fun e=>absurd e (by decide)) (fun _=>?_);refine Zp (b:=wExcuse) undS ?_;refine gZ ?_;refine Ql (fun e=>absurd e (by decide)) (fun _=>?_);refine Ql (fun e=>?_) (fun e=>?_)
 ·rw[Wo (fun K=>by rw[I,K]at e;exact absurd e (by decide))];exact Qa ⟨LH.le_refl _,f,u,rfl⟩
 have K:fs.length=3:=by
  have:(n:Int)=3:=by simpa using e
  omega
 match fs,K,s,hb,I with
 | [x,d,z],_,s,hb,I =>
 have L:n=3:=I;subst L;obtain⟨a,Y,G⟩:=s.at (i:=1) (x:=d) rfl;rw[Nat.mul_one]at G;refine gZ ?_;refine Qt G ?_;refine t_pu (c3758 d (by have:=hb d (by simp);omega)) ?_;rw[Yf];refine gZ ?_;obtain⟨a',B,H⟩:=s.at (i:=2) (x:=z) rfl;rw[Y]at B;cases B;rw[Nat.mul_one]at H;refine Qt H ?_;refine t_gr (c3759 z (hb z (by simp))) ?_;intro r l k hr;obtain⟨q,m,F,rfl,si⟩:=hr.is;refine gZ ?_;refine Zp (b:=wPaper) undS ?_;refine gZ ?_;refine Ql (fun e=>absurd e (by decide)) (fun e=>?_);obtain⟨a0,Z,R⟩:=(s.le k).at (i:=0) (x:=x) rfl;rw[Nat.mul_one]at R;refine gZ ?_;refine Qt R ?_;refine t_pu (c3758 x (by have:=hb x (by simp);omega)) ?_;have e0:=k;rw[Yf];refine gZ ?_;have o:=hu.le k.1;have hlen:=o.requests.1;have A:=J.2.2;have fin:∀ {Q:Option Addr} {S c':Nat} {h':LH} {b:Bool},l.le h'->Growing (ReqEnc l.get) 51 3 l.get h'.get Q S c' (u.requests++[⟨numO (numL x),numO (numL d),listO (listL z)⟩])->b=((numL d).isSome&&(listL z).isSome&&(numL x).isSome)->h.le h'/\LineA u (itemU wRequest [x,d,z]) (.tuple #[fileV { f with p6:=Q,n6:=S,c6:=c' } (putR u ⟨numO (numL x),numO (numL d),listO (listL z)⟩),.bool b]) h':=fun le g hb=>⟨LH.le_trans k le,lineR (rEnd o A le g) hb⟩;generalize (numL x).isSome=j0 at fin ⊢;generalize (numL d).isSome=O at fin ⊢;generalize (listL z).isSome=P at fin ⊢;generalize M:(⟨numO (numL x),numO (numL d),listO (listL z)⟩ : Request)=y at fin ⊢;have enc:ReqEnc l.get y [.int .i64 y.day,.int .i64 y.land,.slice q m F]:=⟨q,m,F,rfl,by rw[<- M];exact si.2⟩
 rw[show numO (numL x)=y.day by rw[<- M],show numO (numL d)=y.land by rw[<- M]];have E:∀ v∈[Value.int .i64 y.day,.int .i64 y.land,.slice q m F],isOne v=true:=by
  intro v hv;simp only[List.mem_cons,List.not_mem_nil,or_false]at hv;rcases hv with rfl|rfl|rfl<;>rfl
 refine Gb (h₀:=l) (Enc:=ReqEnc l.get) und24 Dp (LH.le_refl _) fun r0 V b0 C G=>?_;refine gZ ?_;refine H1 (h₀:=l) rfl rfl und24 und24 Dp rfl (by omega) (by omega) G C (reqB_of (Rd.of_le C.1) o.requests) reqTold fun p2 c2 W N _ H=>?_;refine gZ ?_;refine Jg und24 Dp (by decide) (by decide) (cells:=#[.int .i64 y.day,.int .i64 y.land,.slice q m F]) (by kernel_rfl) fun r X D c0 U=>?_;refine gZ ?_;refine Km (h:=l) und24 Dp rfl (by omega) (by omega) (H.le D.1) (LH.le_trans N D) enc rfl E U (fun j w hj=>by simpa using hj) fun Q c' h' t g'=>?_;refine gZ ?_;cases O with
 | false=>exact Ql (fun e=>by cases e) (fun _=>Qa (fin t g' (by simp)))
 | true =>
  refine yT ?_;cases P with
  | false=>exact Ql (fun e=>by cases e) (fun _=>Qa (fin t g' (by simp)))
  | true=>exact Ql (fun _=>Qa (fin t g' (by simp))) (fun e=>by cases e)
theorem c3732(hu:FileR h.get f u)(a:Few u){w:Bs}(hw:w=wUse\/w=wExcuse\/w=wPaper\/w=wRequest){fs:List Bs}(s:BsS h p n c fs)(b:fs.length<=2^20)(hb:∀ x∈fs,x.length<=2^19):Gr Tryz.prog 54 #[fileV f u,.string (str w),.slice p n c] h fun r h'=>LineA u (itemU w fs) r h':=by
 rcases hw with rfl|rfl|rfl|rfl
 ·exact c3732_use hu s b hb
 ·exact c3732_excuse hu a s hb
 ·exact c3732_paper hu a s hb
 ·exact c3732_request hu a s hb
end Go.Y.Txt
end
section
namespace Go.Y
set_option maxHeartbeats 0
set_option linter.unusedVariables false
variable {X:XP} {h:LH} {A:Value->LH->Prop}
variable {a b c d e f g i j k l m:Int}{n o p q r s t u v w x y z:Nat}{B C D E F G H I J K L M:Option Addr}
theorem w3141{d:ByteArray}:FX X 53 #[.slice B n o,.string d] h A (.loop [.int .i64 0,.int .i64 0] (fun a=>.pi a fun c a=>.pi a fun b a=>.unNil a (bif decide (b<(↑n:Int)) then .need (0<=b/\b<(↑n:Int)) (.someA B fun f=>.loadStr (f.add (b.toNat*1)) fun e=>.sem false (Sem.bind (eqGuard BinOp.eql 9 (Operand.tmp 15) (Operand.tmp 16) (.string e) (.string d)) fun j=>binOp BinOp.eql 9 (.string e) (.string d)) fun i=>.unB i fun g=>bif g then .rn [b,b] else .ag [c,.int .i64 (wrap .i64 (b+1))]) else .bk [c,b])) (fun a=>.pi a fun c a=>.pi a fun c a=>.unNil a (.rt (.int .i64 (-1)))) (fun a=>.pi a fun c a=>.pi a fun b a=>.unNil a (.rt (.int .i64 c))) fun k l=>.fail):=fk [] [⟨0,[(4,.int .i64),(5,.int .i64)],[],[],[],[]⟩] [] Tryz.f53
end Go.Y
end
section
namespace Go.TM.Tp
def findAt(s:Bs):Nat->List Bs->Int
 | _,[]=>-1
 | i,x::l=>if x=s then (i:Int) else findAt s (i+1) l
def wordsU:List Bs:=[wUse,wExcuse,wPaper,wRequest]
variable {n p:Nat}{u:UseFile}
theorem find_words(w:Bs):(findAt w 0 wordsU=0/\w=wUse)\/(findAt w 0 wordsU=1/\w=wExcuse)\/(findAt w 0 wordsU=2/\w=wPaper)\/(findAt w 0 wordsU=3/\w=wRequest)\/(findAt w 0 wordsU = -1/\∀ fs,itemU w fs=none):=by
 unfold wordsU findAt findAt findAt findAt findAt;by_cases a:wUse=w
 ·rw[if_pos a];exact .inl ⟨rfl,a.symm⟩
 rw[if_neg a];by_cases b:wExcuse=w
 ·rw[if_pos b];exact .inr (.inl ⟨rfl,b.symm⟩)
 rw[if_neg b];by_cases c:wPaper=w
 ·rw[if_pos c];exact .inr (.inr (.inl ⟨rfl,c.symm⟩))
 rw[if_neg c];by_cases d:wRequest=w
 ·rw[if_pos d];exact .inr (.inr (.inr (.inl ⟨rfl,d.symm⟩)))
 rw[if_neg d];refine .inr (.inr (.inr (.inr ⟨rfl,fun fs=>?_⟩)));unfold itemU;rw[if_neg (Ne.symm a),if_neg (Ne.symm b),if_neg (Ne.symm c),if_neg (Ne.symm d)]
theorem place_use{f:List Bs}{x:LU}(h:itemU wUse f=some x):x.place=0:=by
 rw[Hq]at h;unfold useO at h;split at h
 ·cases h;rfl
 ·cases h
theorem place_excuse{f:List Bs}{x:LU}(h:itemU wExcuse f=some x):x.place=1:=by
 by_cases b:f.length=1
 ·match f,b with
  | [a],_ =>
   rw[Gv]at h;obtain⟨p,_,rfl⟩:=Option.map_eq_some_iff.1 h;rfl
 ·rw[W5 b]at h;cases h
theorem place_paper{f:List Bs}{x:LU}(h:itemU wPaper f=some x):x.place=2:=by
 by_cases d:f.length=3
 ·match f,d with
  | [a,b,c],_ =>
   rw[G8]at h;obtain⟨p,_,h⟩:=Option.bind_eq_some_iff.1 h;obtain⟨p,_,h⟩:=Option.bind_eq_some_iff.1 h;obtain⟨p,_,rfl⟩:=Option.map_eq_some_iff.1 h;rfl
 ·rw[Gu d]at h;cases h
theorem place_request{f:List Bs}{x:LU}(h:itemU wRequest f=some x):x.place=3:=by
 by_cases d:f.length=3
 ·match f,d with
  | [a,b,c],_ =>
   rw[W4]at h;obtain⟨p,_,h⟩:=Option.bind_eq_some_iff.1 h;obtain⟨p,_,h⟩:=Option.bind_eq_some_iff.1 h;obtain⟨p,_,rfl⟩:=Option.map_eq_some_iff.1 h;rfl
 ·rw[Wo d]at h;cases h
theorem item_place{w:Bs}{f:List Bs}{x:LU}(h:itemU w f=some x):findAt w 0 wordsU=x.place:=by
 rcases find_words w with⟨e,rfl⟩|⟨e,rfl⟩|⟨e,rfl⟩|⟨e,rfl⟩|⟨e,a⟩
 ·rw[e,place_use h];rfl
 ·rw[e,place_excuse h];rfl
 ·rw[e,place_paper h];rfl
 ·rw[e,place_request h];rfl
 ·rw[a]at h;cases h
theorem go_fail{b:Bs}{bs:List Bs}(h:∀ x,lineU b=some x->x.place<p\/(x.place=0↔n≠0)):goU n p u (b::bs)=(u,some (n+1)):=by
 rw[goU];cases e:lineU b with
 | none=>rfl
 | some x=>simp only[];rw[if_pos (h x e)]
theorem go_next{b:Bs}{bs:List Bs}{x:LU}(e:lineU b=some x)(h:¬ (x.place<p\/(x.place=0↔n≠0))):goU n p u (b::bs)=goU (n+1) x.place (x.put u) bs:=by
 rw[goU,e];simp only[];rw[if_neg h]
theorem lines_small{l x:Bs}(h:x∈linesL l):x.length<=l.length:=by
 refine Zh (c:=10) ?_;unfold linesL at h;split at h
 ·exact(List.dropLast_sublist _).subset h
 ·exact h
theorem lines_few(l:Bs):(linesL l).length<=l.length+1:=by
 have:=J1 10 l;unfold linesL;split
 ·rw[List.length_dropLast];omega
 ·exact this
theorem fieldsR_small{l w:Bs}{fs:List Bs}(h:fieldsR l=some (w,fs)):fs.length<=l.length+1/\∀ x∈fs,x.length<=l.length:=by
 by_cases hm:(58:UInt8)∈l
 ·obtain⟨a,r,e,c⟩:=List.eq_append_cons_of_mem hm;have hr:r.length<=l.length:=by rw[e,List.length_append,List.length_cons];omega
  have b:=fieldsR_some (r:=r) c;rw[<- e,h]at b;have d:=J1 59 r;split at b
  ·cases b
  ·split at b
   ·cases b;refine⟨by rw[List.length_dropLast];omega,fun x f=>?_⟩;have:=Zh ((List.dropLast_sublist _).subset f);omega
   ·cases b
 ·rw[fieldsR_none hm]at h;cases h
theorem put_len(u:UseFile)(x:LU):(x.put u).excuses.length<=u.excuses.length+1/\(x.put u).papers.length<=u.papers.length+1/\(x.put u).requests.length<=u.requests.length+1:=by
 cases x<;>simp[LU.put]
theorem lineU_of{l w:Bs}{fs:List Bs}(h:fieldsR l=some (w,fs)):lineU l=itemU w fs:=by rw[<- line_ref,h];rfl
theorem lineU_none{l:Bs}(h:fieldsR l=none):lineU l=none:=by rw[<- line_ref,h];rfl
def ParseA(x:UseFile×Nat×Int)(r:Value)(h:LH):Prop:=∃ f,r=.tuple #[fileV f x.1,.int .i64 (x.2.1:Int),.int .i64 x.2.2]/\FileR h.get f x.1
theorem ParseA.none{n:Nat}{f:Int}{h:LH}:ParseA (noFile,n,f) (.tuple #[.agg #[.int .i64 0,.int .i64 0,.int .i64 0,.int .i64 0,.slice none 0 0,.slice none 0 0,.slice none 0 0],.int .i64 (n:Int),f]) h :=
 ⟨⟨.none,0,0,.none,0,0,.none,0,0⟩,rfl,⟨rfl,by simp[noFile],fun i x a=>by simp[noFile]at a⟩,⟨rfl,by simp[noFile],fun i x a=>by simp[noFile]at a⟩,⟨rfl,by simp[noFile],fun i x a=>by simp[noFile]at a⟩⟩
theorem parse_wrong{t:Bs}(h:¬ 60000<t.length){u:UseFile}{n:Nat}(e:goU 0 0 noFile (linesL t)=(u,some n)):parseU t=(noFile,n,3):=by
 unfold parseU;rw[if_neg h,e]
theorem parse_right{t:Bs}(h:¬ 60000<t.length){u:UseFile}(e:goU 0 0 noFile (linesL t)=(u,none)):parseU t=if linesL t=[] then (noFile,0,3) else if checkF u≠0 then (noFile,0,checkF u) else (u,0,0):=by
 unfold parseU;rw[if_neg h,e]
def lastI(i p:Nat):Int:=if i=0 then -1 else (p:Int)
end Go.TM.Tp
namespace Go.Y.Txt
open Go.TM.Tp
open Go.Lib (decDigits)
attribute [local irreducible] T.wp CV FWK
theorem c3141{h:LH}{p:Option Addr}{n c:Nat}{l:List Bs}(f:BsS h p n c l)(s:Bs):Pu Tryz.prog 53 #[.slice p n c,.string (str s)] h (.int .i64 (findAt s 0 l)):=by
 refine w3141 Qk ?_;have w:=f.2.1;have g:=f.2.2.1;refine Ja (fun m d h'=>h=h'/\∃ i:Nat,d=[.int .i64 0,.int .i64 i]/\i<=n/\m=n-i/\findAt s i (l.drop i)=findAt s 0 l) (fun d h'=>h=h'/\∃ i:Int,d=[.int .i64 0,.int .i64 i]/\findAt s 0 l = -1) ⟨rfl,0,rfl,Nat.zero_le _,rfl,rfl⟩ ?_ ?_
 ·rintro Y m d _ r ⟨rfl,i,rfl,v,rfl,b⟩;refine yJ (fun o=>?_) (fun o=>?_)
  ·have k:=List.getElem?_eq_getElem (show i<l.length by omega);have j:=List.drop_eq_getElem_cons (show i<l.length by omega);generalize l[i]=x at k j;obtain⟨a,u,q⟩:=f.at k;have t:0<=(i:Int)/\(i:Int)<(n:Int):=by omega
   rw[j,findAt]at b;refine gZ ?_;refine Qt (by rw[Int.toNat_natCast];exact q) ?_;refine Zp undS ?_;refine yI (fun e=>?_) (fun e=>?_)
   ·rw[if_pos (by simpa using e)]at b;refine gI ?_;refine gZ ?_;refine Qa ⟨?_,rfl⟩;rw[<- b]
   ·rw[if_neg (by simpa using e)]at b;refine Qi (r (n-(i+1)) _ _ (by omega) ⟨rfl,i+1,?_,by omega,rfl,b⟩);rw[Qh (by omega) (by omega)];rfl
  ·rw[List.drop_eq_nil_of_le (by omega)]at b;exact gH ⟨rfl,_,rfl,b.symm⟩
 ·rintro d _ ⟨rfl,i,rfl,b⟩;refine gZ ?_;refine Qa ⟨?_,rfl⟩;rw[b]
theorem c3707{h:LH}(t:Bs):Gr Tryz.prog 12 #[.string (str t)] h fun r h'=>ParseA (parseU t) r h':=by
 refine w3707 Qk ?_;refine Q5 undS ?_;refine yJ (fun e=>?_) (fun e=>?_)
 ·have:parseU t=(noFile,0,2):=by unfold parseU;rw[if_pos (by omega)]
  rw[this];exact Qa ⟨LH.le_refl _,ParseA.none⟩
 have Q:¬ 60000<t.length:=by omega
 refine t_gr (c3730 t (by omega)) ?_;rintro _ h1 c0 ⟨p,n,k,rfl,s⟩;have Z:=s.2.1;have O:=lines_few t;have R:=fun x (G:x∈linesL t)=>lines_small G;have l:=@parse_wrong t Q;have g:=@parse_right t Q;generalize linesL t=L at s Z O R l g;refine gZ ?_;refine Ja (fun mm I h'=>h.le h'/\h1.le h'/\∃ (i pl:Nat) (f:FileC) (u:UseFile),I=[.int .i64 0,.int .i64 0,.int .i64 (lastI i pl),.int .i64 i,.int .i64 0,.int .i64 0,.int .i64 0,.int .i64 0,.slice none 0 0,.slice none 0 0,.slice none 0 0,.int .i64 u.items,.int .i64 u.lands,.int .i64 u.from_,.int .i64 u.idle,.slice f.p4 f.n4 f.c4,.slice f.p5 f.n5 f.c5,.slice f.p6 f.n6 f.c6]/\i<=n/\mm=n-i/\(i=0->pl=0)/\FileR h'.get f u/\(u.excuses.length<=i/\u.papers.length<=i/\u.requests.length<=i)/\goU i pl u (L.drop i)=goU 0 0 noFile L)
  (fun I h'=>h.le h'/\∃ (a b:Int) (f:FileC) (u:UseFile),I=[.int .i64 0,.int .i64 0,.int .i64 a,.int .i64 b,.int .i64 0,.int .i64 0,.int .i64 0,.int .i64 0,.slice none 0 0,.slice none 0 0,.slice none 0 0,.int .i64 u.items,.int .i64 u.lands,.int .i64 u.from_,.int .i64 u.idle,.slice f.p4 f.n4 f.c4,.slice f.p5 f.n5 f.c5,.slice f.p6 f.n6 f.c6]/\FileR h'.get f u/\goU 0 0 noFile L=(u,none))
  ⟨c0,LH.le_refl _,0,0,⟨none,0,0,none,0,0,none,0,0⟩,noFile,rfl,Nat.zero_le _,rfl,fun _=>rfl,⟨⟨rfl,by simp[noFile],fun i x G=>by simp[noFile]at G⟩,⟨rfl,by simp[noFile],fun i x G=>by simp[noFile]at G⟩,⟨rfl,by simp[noFile],fun i x G=>by simp[noFile]at G⟩⟩,by simp[noFile],rfl⟩ ?_ ?_
 ·rintro Y mm I h2 hY ⟨m,M,i,pl,f,u,rfl,hi,rfl,a0,hu,e0,hgo⟩;refine yJ (fun e1=>?_) (fun e1=>?_)
  ·have G:=List.getElem?_eq_getElem (show i<L.length by omega);have hd:=List.drop_eq_getElem_cons (show i<L.length by omega);have S:=List.getElem_mem (show i<L.length by omega);generalize L[i]=x at G hd S;have k0:=R x S;rw[hd]at hgo;obtain⟨a,ha,e2⟩:=(s.le M).at G;have j0:0<=(i:Int)/\(i:Int)<(n:Int):=by omega
   have w1:wrap .i64 ((i:Int)+1)=((i+1:Nat):Int):=by rw[Qh (by omega) (by omega)];rfl
   have bad:∀ {h':LH},h.le h'->(∀ y,lineU x=some y->y.place<pl\/(y.place=0↔i≠0))->h.le h'/\ParseA (parseU t) (.tuple #[.agg #[.int .i64 0,.int .i64 0,.int .i64 0,.int .i64 0,.slice none 0 0,.slice none 0 0,.slice none 0 0],.int .i64 (wrap .i64 ((i:Int)+1)),.int .i64 3]) h':=fun le hb=>by
    refine⟨le,?_⟩;rw[go_fail hb]at hgo;rw[l hgo.symm,w1];exact ParseA.none
   refine gZ ?_;refine Qt (by rw[Int.toNat_natCast];exact e2) ?_;refine t_gr (c3731 x (by omega)) ?_;intro r h3 N hr;have J:=LH.le_trans m N;cases B:fieldsR x with
   | none =>
    rw[B]at hr;have hr:r=.tuple #[.string (str []),.slice none 0 0,.bool false]:=hr;subst hr;refine gZ ?_;refine Qj ?_;refine gZ ?_;refine U8 wUse wExcuse wPaper wRequest fun q h4 o s4=>?_;refine gZ ?_;refine t_pu (c3141 s4 []) ?_;refine gZ ?_;refine Q1 (fun I h'=>False) ?_ (fun _ _ hf=>hf.elim);refine yT ?_;refine gZ ?_;exact Qa (bad (LH.le_trans J o) (fun y D=>by rw[lineU_none B]at D;cases D))
   | some wf =>
    obtain⟨w,fs⟩:=wf;rw[B]at hr;obtain⟨q1,m1,k1,rfl,sf⟩:=hr;have sf:BsS h3 q1 m1 k1 fs:=sf;obtain⟨g0,W⟩:=fieldsR_small B;have C:=lineU_of B;refine gZ ?_;refine Qj ?_;refine gZ ?_;refine U8 wUse wExcuse wPaper wRequest fun q h4 o s4=>?_;refine gZ ?_;refine t_pu (c3141 s4 w) ?_;refine gZ ?_;have E:=LH.le_trans J o;have c:=fun y (D:lineU x=some y)=>item_place (w:=w) (f:=fs) (by rw[<- C];exact D);have d:=find_words w;change ∀ y,lineU x=some y->findAt w 0 [wUse,wExcuse,wPaper,wRequest]=y.place at c;unfold wordsU at d;generalize findAt w 0 [wUse,wExcuse,wPaper,wRequest]=kk at c d ⊢;refine Q1 (fun I h'=>I=[.int .i64 0,.int .i64 0,.int .i64 0,.int .i64 0,.int .i64 0,.int .i64 0,.slice none 0 0,.slice none 0 0,.slice none 0 0]/\h4=h'/\¬ kk<lastI i pl/\(kk=0↔i=0)) ?_ ?_
    ·refine yF ?_;refine t_if (fun H=>?_) (fun H=>?_)
     ·refine gZ ?_;refine Qa (bad E fun y D=>?_);have:=c y D;unfold lastI at H;split at H<;>omega
     refine Ql (fun A=>?_) (fun A=>?_)
     ·refine gZ ?_;refine Qa (bad E fun y D=>?_);have:=c y D;have F:¬ (kk=0↔i=0):=fun j=>by
       by_cases h0:i=0
       ·rw[j.2 h0,h0]at A;simp at A
       ·have:¬ kk=0:=fun X=>h0 (j.1 X);have a1:(kk==0)=false:=by simpa using this
        have a2:((i:Int)==0)=false:=by simpa using h0
        rw[a1,a2]at A;cases A
      right;omega
     ·refine Qi ⟨rfl,rfl,H,?_⟩;by_cases h0:i=0
      ·rw[h0]at A;have:kk=0:=by simpa using A
       omega
      ·have:¬ kk=0:=fun X=>by rw[X]at A;simp[h0]at A
       omega
    rintro I _ ⟨rfl,rfl,H,A⟩;refine gZ ?_;have hw:w=wUse\/w=wExcuse\/w=wPaper\/w=wRequest:=by
     rcases d with⟨_,F⟩|⟨_,F⟩|⟨_,F⟩|⟨_,F⟩|⟨F,_⟩
     ·exact .inl F
     ·exact .inr (.inl F)
     ·exact .inr (.inr (.inl F))
     ·exact .inr (.inr (.inr F))
     ·exfalso;unfold lastI at H;split at H<;>omega
    refine t_gr (c3732 (hu.le (LH.le_trans N o).1) ⟨by omega,by omega,by omega⟩ hw (sf.le o) (by omega) (fun z hz=>by have:=W z hz;omega)) ?_;intro r F U hr;have K:=LH.le_trans E U;rw[<- C]at hr;cases P:lineU x with
    | none =>
     rw[P]at hr;obtain⟨f',v,rfl⟩:=hr;unfold fileV;refine yT ?_;refine gZ ?_;exact Qa (bad K fun y D=>by rw[P]at D;cases D)
    | some y =>
     rw[P]at hr;obtain⟨f',rfl,b0⟩:=hr;have hp:=c y P;have hlen:=put_len u y;rw[go_next P (by
      intro j;unfold lastI at H;by_cases h0:i=0
      ·have:=a0 h0;have:=A.2 h0;rcases j with j|j
       ·omega
       ·exact absurd h0 (j.1 (by omega))
      ·rw[if_neg h0]at H;rcases j with j|j
       ·omega
       ·exact h0 (A.1 (by have:=j.2 h0;omega)))]at hgo
     unfold fileV;refine yF ?_;refine Qi (hY (n-(i+1)) _ _ (by omega) ⟨K,LH.le_trans M (LH.le_trans N (LH.le_trans o U)),i+1,y.place,f',y.put u,?_,by omega,rfl,fun j=>absurd j (by omega),b0,by omega,hgo⟩);rw[w1,hp];unfold lastI;rw[if_neg (by omega)]
  ·rw[List.drop_eq_nil_of_le (by omega)]at hgo;exact gH ⟨m,_,_,f,u,rfl,hu,by rw[<- hgo];rfl⟩
 ·rintro I h2 ⟨m,_,_,f,u,rfl,hu,hgo⟩;refine gZ ?_;rw[g hgo];refine Ql (fun e=>?_) (fun e=>?_)
  ·have:L=[]:=List.length_eq_zero_iff.1 (by
    have:(n:Int)=0:=by simpa using e
    omega)
   rw[if_pos this];exact Qa ⟨m,ParseA.none⟩
  ·have:L≠[]:=fun j=>by rw[j]at Z;rw[Z]at e;simp at e
   rw[if_neg this];refine t_pu (c27 hu) ?_;refine yI (fun V=>?_) (fun V=>?_)
   ·rw[if_pos (by simpa using V)];exact Qa ⟨m,ParseA.none⟩
   ·rw[if_neg (by simpa using V)];exact Qa ⟨m,f,rfl,hu⟩
end Go.Y.Txt
end
section
namespace Go.Y
set_option maxHeartbeats 0
set_option linter.unusedVariables false
variable {X:XP} {h:LH} {A:Value->LH->Prop}
variable {a b c d e f g i j k l m:Int}{n o p q r s t u v w x y z:Nat}{B C D E F G H I J K L M:Option Addr}
theorem w2025:FX X 55 #[.slice B n o,.slice C p q] h A (bif (↑n:Int) != (↑p:Int) then .rt (.bool false) else .loop [false,.int .i64 0] (fun b=>.popB b fun c b=>.pi b fun a b=>.unNil b (bif decide (a<(↑n:Int)) then .need (0<=a/\a<(↑n:Int)) (.someA B fun d=>.li ((d.add (a.toNat*2)).add 0) fun f=>.li ((d.add (a.toNat*2)).add 1) fun g=>.need (0<=a/\a<(↑p:Int)) (.someA C fun e=>.li ((e.add (a.toNat*2)).add 0) fun i=>.li ((e.add (a.toNat*2)).add 1) fun j=>.sem false (Sem.bind (eqGuard BinOp.neq 46 (Operand.tmp 20) (Operand.tmp 24) (.agg #[f,g]) (.agg #[i,j])) fun s=>binOp BinOp.neq 46 (.agg #[f,g]) (.agg #[i,j])) fun r=>.unB r fun m=>.need (0<=a/\a<(↑p:Int)) (.someA C fun k=>.ne (.pointer (some (k.add (a.toNat*2)))) (.pointer (some (e.add (a.toNat*2)))) (.nds [a,.S C p q] (.need (0<=a/\a<(↑n:Int)) (.someA B fun l=>.ne (.pointer (some (l.add (a.toNat*2)))) (.pointer (some (d.add (a.toNat*2)))) (.nds [a,.S B n o] (bif m then .rn [false,a] else .ag [c,.int .i64 (wrap .i64 (a+1))])))))))) else .bk [c,a])) (fun b=>.popB b fun c b=>.pi b fun a b=>.unNil b (.rt (.bool true))) (fun b=>.popB b fun c b=>.pi b fun a b=>.unNil b (.rt (.bool c))) fun t u=>.fail):=fk [] [⟨0,[(4,.bool),(5,.int .i64)],[],[],[],[]⟩] [] Tryz.f55
end Go.Y
end
section
namespace Go.Y.Txt
open Go.TM.Tp
attribute [local irreducible] T.wp CV FWK
theorem two30':twoInts Tryz.prog 46=true:=by kernel_rfl
theorem g30':Tryz.prog.eqGuardType Tryz.prog.depth 46=false:=by kernel_rfl
theorem c2025s{h:LH}{p q:Option Addr}{n c m d:Nat}{a:List Span}(b:Sl SpanE 2 h.get p n a)(hb:Sl SpanE 2 h.get q m a):Pu Tryz.prog 55 #[.slice p n c,.slice q m d] h (.bool true):=by
 refine w2025 Qk ?_;have D:=b.1;have hm:=hb.1;have s:=b.2.1;refine Ql (fun e=>?_) (fun e=>?_)
 ·have:n=m:=by omega
  subst this;simp at e
 refine Qz (fun j k h'=>h=h'/\∃ i:Nat,k=[.bool false,.int .i64 i]/\i<=n/\j=n-i) ⟨rfl,0,rfl,Nat.zero_le _,rfl⟩ ?_;rintro Y j k _ l ⟨rfl,i,rfl,C,rfl⟩;refine yJ (fun e=>?_) (fun e=>?_)
 ·obtain⟨x,u,t,o,w,A⟩:=b.at (i:=i) (by omega);obtain⟨y,v,g,r,z,B⟩:=hb.at (i:=i) (by omega);rw[t]at g;cases g;refine gZ ?_;refine Yx two30' g30' ?_;refine yI (fun f=>?_) (fun f=>?_)
  ·simp at f
  ·refine Qi (l (n-(i+1)) _ _ (by omega) ⟨rfl,i+1,?_,by omega,rfl⟩);rw[Qh (by omega) (by omega)];rfl
 ·refine gZ ?_;exact Qa ⟨rfl,rfl⟩
theorem c3708{h:LH}{f g:FileC}{u:UseFile}(c:FileR h.get f u)(j:FileR h.get g u):Pu Tryz.prog 13 #[fileV f u,fileV g u] h (.bool true):=by
 refine w3708 Qk ?_;have n5:f.n5=g.n5:=by have:=c.papers.1;have:=j.papers.1;omega
 have n6:f.n6=g.n6:=by have:=c.requests.1;have:=j.requests.1;omega
 refine Q1 (fun a h'=>a=[.bool false]/\h=h') ?_ ?_
 ·refine Ql (fun e=>by simp at e) (fun _=>?_);refine Ql (fun e=>by simp at e) (fun _=>?_);refine Ql (fun e=>by simp at e) (fun _=>?_);refine Ql (fun e=>by simp at e) (fun _=>?_);refine t_pu (c2025s c.excuses j.excuses) ?_;refine gZ ?_;refine Ql (fun e=>by simp at e) (fun _=>?_);refine Ql (fun e=>by rw[n5]at e;simp at e) (fun _=>?_);refine Ql (fun e=>by rw[n6]at e;simp at e) (fun _=>?_);exact Qi ⟨rfl,rfl⟩
 rintro a _ ⟨rfl,rfl⟩;refine gZ ?_;refine Ja (fun n a h'=>h=h'/\∃ i:Nat,a=[.bool false,.int .i64 i]/\i<=f.n5/\n=f.n5-i) (fun a h'=>h=h'/\∃ i:Int,a=[.bool false,.int .i64 i]) ⟨rfl,0,rfl,Nat.zero_le _,rfl⟩ ?_ ?_
 ·rintro Y n a _ p ⟨rfl,i,rfl,F,rfl⟩;have G:=c.papers.1;have t:=c.papers.2.1;have hm:=j.papers.1;refine yJ (fun e=>?_) (fun e=>?_)
  ·obtain⟨x,D,w,r,H,I,N,q,m,o,J,B⟩:=c.papers.at (i:=i) (by omega);obtain⟨y,E,l,s,K,L,O,A,z,d,M,C⟩:=j.papers.at (i:=i) (by omega);rw[w]at l;cases l;have v:0<=(i:Int)/\(i:Int)<(f.n5:Int):=by omega
   have k:0<=(i:Int)/\(i:Int)<(g.n5:Int):=by omega
   refine Q1 (fun a h'=>a=[.int .i64 x.days.first,.int .i64 x.days.last,.int .i64 x.land,.slice q m o,.int .i64 x.days.first,.int .i64 x.days.last,.int .i64 x.land,.slice A z d]/\h=h') ?_ ?_
   ·refine gZ ?_;refine Jw ?_ ?_<;>refine gZ ?_<;>exact Qi ⟨rfl,rfl⟩
   rintro a _ ⟨rfl,rfl⟩;refine gZ ?_;refine Yx two30' g30' ?_;refine gZ ?_;refine Ql (fun b=>by simp at b) (fun _=>?_);refine Ql (fun b=>by simp at b) (fun _=>?_);refine t_pu (c35 B C) ?_;refine gZ ?_;refine Ql (fun b=>by simp at b) (fun _=>?_);refine Qi (p (f.n5-(i+1)) _ _ (by omega) ⟨rfl,i+1,?_,by omega,rfl⟩);rw[Qh (by omega) (by omega)];rfl
  ·exact gH ⟨rfl,_,rfl⟩
 rintro a _ ⟨rfl,i0,rfl⟩;refine gZ ?_;refine Ja (fun n a h'=>h=h'/\∃ i:Nat,a=[.bool false,.int .i64 i]/\i<=f.n6/\n=f.n6-i) (fun a h'=>h=h'/\∃ i:Int,a=[.bool false,.int .i64 i]) ⟨rfl,0,rfl,Nat.zero_le _,rfl⟩ ?_ ?_
 ·rintro Y n a _ p ⟨rfl,i,rfl,F,rfl⟩;have G:=c.requests.1;have t:=c.requests.2.1;have hm:=j.requests.1;refine yJ (fun e=>?_) (fun e=>?_)
  ·obtain⟨x,D,w,r,H,I,q,m,o,J,B⟩:=c.requests.at (i:=i) (by omega);obtain⟨y,E,l,s,K,L,A,z,d,M,C⟩:=j.requests.at (i:=i) (by omega);rw[w]at l;cases l;have v:0<=(i:Int)/\(i:Int)<(f.n6:Int):=by omega
   have k:0<=(i:Int)/\(i:Int)<(g.n6:Int):=by omega
   refine Q1 (fun a h'=>a=[.int .i64 x.day,.int .i64 x.land,.slice q m o,.int .i64 x.day,.int .i64 x.land,.slice A z d]/\h=h') ?_ ?_
   ·refine gZ ?_;refine Jw ?_ ?_<;>refine gZ ?_<;>exact Qi ⟨rfl,rfl⟩
   rintro a _ ⟨rfl,rfl⟩;refine gZ ?_;refine Ql (fun b=>by simp at b) (fun _=>?_);refine Ql (fun b=>by simp at b) (fun _=>?_);refine t_pu (c35 B C) ?_;refine gZ ?_;refine Ql (fun b=>by simp at b) (fun _=>?_);refine Qi (p (f.n6-(i+1)) _ _ (by omega) ⟨rfl,i+1,?_,by omega,rfl⟩);rw[Qh (by omega) (by omega)];rfl
  ·exact gH ⟨rfl,_,rfl⟩
 rintro a _ ⟨rfl,i0,rfl⟩;refine gZ ?_;exact Qa ⟨rfl,rfl⟩
end Go.Y.Txt
end
section
namespace Go.TM.Tp
theorem Ua{l:Bs}(h:1<=l.length):∃ x,l.getLast?=some x/\l.drop (l.length-1)=[x]/\l.take (l.length-1)=l.dropLast:=by
 have a:=List.getElem?_eq_getElem (show l.length-1<l.length by omega);refine⟨l[l.length-1],by rw[List.getLast?_eq_getElem?,a],?_,List.dropLast_eq_take.symm⟩;rw[List.drop_eq_getElem_cons (show l.length-1<l.length by omega),List.drop_eq_nil_of_le (by omega)]
def trimS(c:UInt8)(l:Bs):Bs:=if l.getLast?=some c then l.dropLast else l
end Go.TM.Tp
namespace Go.Y.Txt
open Go.TM.Tp
attribute [local irreducible] T.wp CV FWK
variable {h:LH}
theorem c3772(l:Bs)(c:UInt8)(g:l.length<=2^40):Pu Tryz.prog 157 #[.string (str l),.string (str [c])] h (.bool (decide (l.getLast?=some c))):=by
 refine w3772 Qk ?_;refine Q5 undS ?_;refine gZ ?_;refine Q5 undS ?_;refine yJ (fun e=>?_) (fun e=>?_)
 ·have b:1<=l.length:=by simp at e;omega
  obtain⟨x,f,d,_⟩:=Ua b;refine Q5 undS ?_;refine gZ ?_;refine Q5 undS ?_;refine gZ ?_;have w1:wrap .i64 ((l.length:Int)-([c].length:Int))=((l.length-1:Nat):Int):=by
   rw[show ([c].length:Int)=1 from rfl,Qh (by omega) (by omega)];omega
  rw[w1];refine K2 undS (by omega) ?_;refine Qj ?_;refine gZ ?_;rw[d];refine Zp undS ?_;refine gZ ?_;refine Qa ⟨?_,rfl⟩;rw[f];simp
 ·have:l=[]:=by
   cases l with
   | nil=>rfl
   | cons a l=>simp at e;omega
  subst this;exact Qa ⟨by simp,rfl⟩
theorem c3752(l:Bs)(c:UInt8)(f:l.length<=2^40):Pu Tryz.prog 103 #[.string (str l),.string (str [c])] h (.string (str (trimS c l))):=by
 refine w3752 Qk ?_;refine t_pu (c3772 l c f) ?_;refine gZ ?_;unfold trimS;refine Ql (fun e=>?_) (fun e=>?_)
 ·have b:l.getLast?=some c:=by simpa using e
  have d:1<=l.length:=by cases l with
   | nil=>simp at b
   | cons a l=>simp
  obtain⟨x,j,i,g⟩:=Ua d;refine Q5 undS ?_;refine gZ ?_;refine Q5 undS ?_;refine gZ ?_;have w1:wrap .i64 ((l.length:Int)-([c].length:Int))=((l.length-1:Nat):Int):=by
   rw[show ([c].length:Int)=1 from rfl,Qh (by omega) (by omega)];omega
  rw[w1];refine K3 undS (by omega) ?_;refine Qj ?_;refine gZ ?_;rw[g,if_pos b];exact Qa ⟨rfl,rfl⟩
 ·rw[if_neg (by simpa using e)];exact Qa ⟨rfl,rfl⟩
theorem c3728(l:Bs)(c:UInt8)(a:l.length<=2^40):Pu Tryz.prog 49 #[.string (str l),.string (str [c])] h (.string (str (trimS c l))):=by
 refine w3728 Qk ?_;refine t_pu (c3752 l c a) ?_;refine Qj ?_;refine gZ ?_;exact Qa ⟨rfl,rfl⟩
theorem c3769(l:Bs)(c:UInt8)(f:l.length<=2^40):Pu Tryz.prog 153 #[.string (str l),.string (str [c])] h (.tuple #[.string (str (trimS c l)),.bool (decide (l.getLast?=some c))]):=by
 refine w3769 Qk ?_;refine t_pu (c3772 l c f) ?_;refine gZ ?_;unfold trimS;refine Ql (fun e=>?_) (fun e=>?_)
 ·have b:¬ l.getLast?=some c:=by simpa using e
  rw[if_neg b,decide_eq_false b];exact Qa ⟨rfl,rfl⟩
 ·have b:l.getLast?=some c:=by simpa using e
  have d:1<=l.length:=by cases l with
   | nil=>simp at b
   | cons a l=>simp
  obtain⟨x,j,i,g⟩:=Ua d;refine Q5 undS ?_;refine gZ ?_;refine Q5 undS ?_;refine gZ ?_;have w1:wrap .i64 ((l.length:Int)-([c].length:Int))=((l.length-1:Nat):Int):=by
   rw[show ([c].length:Int)=1 from rfl,Qh (by omega) (by omega)];omega
  rw[w1];refine K3 undS (by omega) ?_;refine Qj ?_;refine gZ ?_;rw[g,if_pos b,decide_eq_true b];exact Qa ⟨rfl,rfl⟩
theorem c3745(l:Bs)(c:UInt8)(a:l.length<=2^40):Pu Tryz.prog 96 #[.string (str l),.string (str [c])] h (.tuple #[.string (str (trimS c l)),.bool (decide (l.getLast?=some c))]):=by
 refine w3745 Qk ?_;refine t_pu (c3769 l c a) ?_;refine gZ ?_;refine Qj ?_;refine gZ ?_;exact Qa ⟨rfl,rfl⟩
end Go.Y.Txt
end
section
namespace Go.Y
set_option maxHeartbeats 0
set_option linter.unusedVariables false
variable {X:XP} {h:LH} {A:Value->LH->Prop}
variable {a b c d e f g i j k l m:Int}{n o p q r s t u v w x y z:Nat}{B C D E F G H I J K L M:Option Addr}
theorem w3573{b:ByteArray}:FX X 151 #[.string b,.int .u8 a] h A (.callv false (.func (Fn.func 174) #[] #[]) #[.string b,.int .u8 a] fun d=>.ui d fun c=>.rt (.int .i64 c)):=fk [] [] [] Tryz.f151
theorem w3569{b:ByteArray}:FX X 94 #[.string b,.int .u8 a] h A (.cI 151 #[.string b,.int .u8 a] fun c=>.rt (.int .i64 c)):=fk [] [] [] Tryz.f94
end Go.Y
end
section
namespace Go.Y.Txt
open Go.TM.Tp
attribute [local irreducible] T.wp CV FWK
variable {h:LH}
theorem cv_indexByte{X:XP}(l:Bs)(c:UInt8):CV X Tryz.prog (.func (.func 174) #[] #[]) #[.string (str l),.int .u8 (c.toNat:Int)] h (fun r h'=>r=.int .i64 (firstI c l)/\h'=h):=by
 refine We (e:=Extern.BytealgIndexByte.indexByte) (fd:=Tryz.f174) (by kernel_rfl) (by kernel_rfl) (by kernel_rfl) (by kernel_rfl) (by kernel_rfl) ?_;exact lwp_indexByte ⟨rfl,rfl⟩
theorem c3573(l:Bs)(c:UInt8):Pu Tryz.prog 151 #[.string (str l),.int .u8 (c.toNat:Int)] h (.int .i64 (firstI c l)):=by
 refine w3573 Qk ?_;refine Jb (cv_indexByte l c) ?_;rintro _ _ ⟨rfl,rfl⟩;refine gZ ?_;exact Qa ⟨rfl,rfl⟩
theorem c3569(l:Bs)(c:UInt8):Pu Tryz.prog 94 #[.string (str l),.int .u8 (c.toNat:Int)] h (.int .i64 (firstI c l)):=by
 refine w3569 Qk ?_;refine t_pu (c3573 l c) ?_;refine gZ ?_;exact Qa ⟨rfl,rfl⟩
theorem c3776(l:Bs)(c:UInt8):Pu Tryz.prog 175 #[.string (str l),.string (str [c])] h (.int .i64 (firstI c l)):=by
 refine w3776 Qk ?_;refine Q5 undS ?_;refine gZ ?_;refine Q1 (fun b h'=>False) ?_ (fun _ _ d=>d.elim);refine Q1 (fun b h'=>b=[.bool (decide ([c]=l))]/\h=h') ?_ ?_
 ·refine Ql (fun e=>by simp at e) (fun _=>?_);refine Zp undS ?_;refine gZ ?_;exact Qi ⟨rfl,rfl⟩
 rintro b _ ⟨rfl,rfl⟩;refine yI (fun e=>?_) (fun e=>?_)
 ·have:[c]=l:=by simpa using e
  subst this;refine gZ ?_;refine Qa ⟨?_,rfl⟩;have:=Wq (c:=c) (a:=[]) (r:=[]) (by simp);simp at this;rw[this]
 ·refine Ql (fun _=>?_) (fun e=>by simp at e);refine J3 (i:=0) undS (c:=c) rfl ?_;refine gZ ?_;refine t_pu (c3573 l c) ?_;refine gZ ?_;exact Qa ⟨rfl,rfl⟩
theorem c3779(l:Bs)(c:UInt8):Pu Tryz.prog 178 #[.string (str l),.string (str [c])] h (.int .i64 (firstI c l)):=by
 refine w3779 Qk ?_;refine t_pu (c3776 l c) ?_;refine gZ ?_;exact Qa ⟨rfl,rfl⟩
end Go.Y.Txt
end
section
namespace Go.TM.Tp
def cutV(c:UInt8)(l:Bs):Bs×Bs×Bool:=match cut c l with
 | a::_::_=>(a,l.drop (a.length+1),true)
 | _=>(l,[],false)
theorem Ug{c:UInt8}{l:Bs}(h:c∉l):cutV c l=(l,[],false):=by unfold cutV;rw[Zs h]
theorem Uf{c:UInt8}{a r:Bs}(h:c∉a):cutV c (a++c::r)=(a,r,true):=by
 unfold cutV;rw[Zz h];have:=Zj c r;cases e:cut c r with
 | nil=>exact absurd e this
 | cons x y=>simp
end Go.TM.Tp
namespace Go.Y.Txt
open Go.TM.Tp
attribute [local irreducible] T.wp CV FWK
theorem c3768{h:LH}(l:Bs)(c:UInt8)(i:l.length<=2^40):Pu Tryz.prog 152 #[.string (str l),.string (str [c])] h (.tuple #[.string (str (cutV c l).1),.string (str (cutV c l).2.1),.bool (cutV c l).2.2]):=by
 refine w3768 Qk ?_;refine t_pu (c3776 l c) ?_;rcases Zy c l with b|⟨a,r,rfl,b⟩
 ·rw[H7 b,Ug b];refine gZ ?_;refine t_if (fun e=>by omega) (fun _=>?_);exact Qa ⟨rfl,rfl⟩
 ·rw[Wq b,Uf b];have hlen:(a++c::r).length=a.length+r.length+1:=by simp;omega
  have g:(a++c::r).take a.length=a:=by simp
  have f:(a++c::r).drop (a.length+1)=r:=by simp
  have w1:wrap .i64 ((a.length:Int)+([c].length:Int))=((a.length+1:Nat):Int):=by
   rw[show ([c].length:Int)=1 from rfl,Qh (by omega) (by omega)];rfl
  have hle:a.length<=(a++c::r).length:=by omega
  have d:a.length+1<=(a++c::r).length:=by omega
  refine gZ ?_;refine t_if (fun _=>?_) (fun e=>by omega)
  repeat' (first|(with_reducible first|apply Jw|refine K3 undS hle ?_|refine Q5 undS ?_|refine K2 undS d ?_|apply Qj|exact Qa ⟨rfl,rfl⟩)|rw[w1]|rw[g]|rw[f]|refine gZ ?_)
theorem c3744{h:LH}(l:Bs)(c:UInt8)(a:l.length<=2^40):Pu Tryz.prog 95 #[.string (str l),.string (str [c])] h (.tuple #[.string (str (cutV c l).1),.string (str (cutV c l).2.1),.bool (cutV c l).2.2]):=by
 refine w3744 Qk ?_;refine t_pu (c3768 l c a) ?_;refine gZ ?_;refine Qj ?_;refine gZ ?_;refine Qj ?_;refine gZ ?_;exact Qa ⟨rfl,rfl⟩
end Go.Y.Txt
end
section
namespace Go.TM.Tp
variable {P:Program}{h h0:LH}{el:TypeId}{n r:Nat}
theorem cut_count(c:UInt8):∀ l:Bs,(cut c l).length=l.countP (fun b=>b==c)+1
 | []=>rfl
 | b::l=>by
  have d:=cut_count c l;have a:=Zj c l;unfold cut;split
  ·rename_i h;rw[List.length_cons,d,List.countP_cons_of_pos (by simp[h])]
  ·rename_i h;rw[List.countP_cons_of_neg (by simpa using h)];cases e:cut c l with
   | nil=>exact absurd e a
   | cons x y=>rw[e]at d;simpa using d
theorem fold_count(c:UInt8)(l:Bs)(n:Int):l.foldl (fun (n:Int) x=>if (x==c)=true then n+1 else n) n=n+(l.countP (fun b=>b==c):Nat):=by
 induction l generalizing n with
 | nil=>simp
 | cons b l a =>
  rw[List.foldl_cons,a];by_cases h:(b==c)=true
  ·rw[if_pos h,List.countP_cons_of_pos (p:=fun b=>b==c) h];omega
  ·rw[if_neg h,List.countP_cons_of_neg (p:=fun b=>b==c) h]
theorem lwp_count{l:Bs}{c:UInt8}{Q:Value->Cells->Prop}{E:Halt->Cells->Prop}{h:Cells}(a:Q (.int .i64 (l.countP (fun b=>b==c):Nat)) h):Qd P (Extern.BytealgCount.count #[.string (str l),.int .u8 (c.toNat:Int)]) Q E h:=by
 show Qd P (do
  let b <- Extern.Bytes.bytesOf (.string (str l));let c <- Extern.Bytes.asByte (.int .u8 (c.toNat:Int))
  pure (goInt (b.foldl (fun (n:Int) x=>if x==c then n+1 else n) 0))) Q E h
 simp only[Extern.Bytes.bytesOf,Extern.Bytes.asByte,lwp_bind,Qg];have hc:((c.toNat:Int)).toNat.toUInt8=c:=by simp
 rw[hc,Go.Lib.foldl_data,str_data,fold_count,Int.zero_add];exact a
structure StrsR(el:TypeId)(n:Nat)(h0 h:LH)(r:Nat)(acc:List Bs):Prop where
 cells:∃ cs,h.get r=some (true,.cells cs el (0,0))/\cs.size=n/\∀ (j:Nat) x,acc[j]?=some x->cs[j]?=some (.string (str x))
 new:h0.get r=none
 le:h0.le h
theorem t_stS{X:XP}{Q:Leaf->LH->Prop}{i:Nat}{acc:List Bs}{a:Addr}{x:Bs}{k:T}(s:StrsR el n h0 h r acc)(u:acc.length=i)(v:i<n)(p:a=⟨r,i,none⟩)(t:∀ d,StrsR el n h0 d r (acc++[x])->k.wp X P Q d):(T.store a (.string (str x)) k).wp X P Q h:=by
 obtain⟨cs,d,m,o⟩:=s.cells;rw[p];refine Z8 d rfl (Array.getElem?_eq_getElem (by omega:i<cs.size)) fun f b hb=>?_;refine t f ⟨⟨_,hb,by simpa using m,fun j y c=>?_⟩,s.new,⟨fun q x l=>?_,b.2.1.trans s.le.2.1,b.2.2.1.trans s.le.2.2.1,b.2.2.2.trans s.le.2.2.2⟩⟩
 ·by_cases e:j=i
  ·subst e;rw[List.getElem?_append_right (by omega),u,Nat.sub_self]at c;simp at c;subst c;rw[Array.getElem?_setIfInBounds_self_of_lt (by omega)]
  ·rw[Array.getElem?_setIfInBounds_ne (Ne.symm e)];have g:j<(acc++[x]).length:=(List.getElem?_eq_some_iff.1 c).1;rw[List.length_append,List.length_singleton]at g;rw[List.getElem?_append_left (by omega)]at c;exact o j y c
 ·rw[b.1 q (fun e=>by rw[e,s.new]at l;cases l)];exact s.le.1 q x l
theorem StrsR.sl{c:Nat}{acc:List Bs}(s:StrsR el n h0 h r acc)(hb:acc.length<4611686018427387904)(hc:acc.length<=c):BsS h (some ⟨r,0,none⟩) acc.length c acc:=by
 obtain⟨cs,a,e,b⟩:=s.cells;refine⟨hc,rfl,hb,fun i x d=>⟨_,rfl,?_⟩⟩;unfold BsE;rw[Qo,Qo,Nat.zero_add,Nat.mul_one,Nat.add_zero];exact J6 a (b i x d)
end Go.TM.Tp
end
section
namespace Go.TM.Tp
def isNilI:Value->Bool
 | .nilIface=>true
 | _=>false
def IsI(v:Value):Prop:=v=.nilIface\/∃ t w,v=.iface t w
def isConst:Operand->Bool
 | .const _=>true
 | _=>false
section
variable {P:Program} {E:Halt->Cells->Prop} {h:Cells}
variable {t tx ty:TypeId}{v w:Value}
theorem Gp{Q:Bool->Cells->Prop}{ms:Array (String×TypeId)}(hu:P.underlying t=some (.interface ms))(hv:IsI v)(b:Q (isNilI v) h):Qd P (Op.equal t v .nilIface) Q E h:=by
 unfold Op.equal;have a:Op.maxDepth=9999+1:=rfl;rw[a,Op.equalIn,lwp_bind,Qc hu];rcases hv with rfl|⟨u,w,rfl⟩
 ·exact b
 ·exact b
theorem lwp_eqOther{Q:Bool->Cells->Prop}{ms:Array (String×TypeId)}(hu:P.underlying t=some (.interface ms))(b:tx≠ty)(c:Q false h):Qd P (Op.equal t (.iface tx v) (.iface ty w)) Q E h:=by
 unfold Op.equal;have a:Op.maxDepth=9999+1:=rfl;rw[a,Op.equalIn,lwp_bind,Qc hu];simp only[];rw[if_pos b];exact c
theorem lwp_eqNilL{Q:Bool->Cells->Prop}{ms:Array (String×TypeId)}(hu:P.underlying t=some (.interface ms))(b:Q false h):Qd P (Op.equal t .nilIface (.iface ty w)) Q E h:=by
 unfold Op.equal;have a:Op.maxDepth=9999+1:=rfl;rw[a,Op.equalIn,lwp_bind,Qc hu];exact b
theorem lwp_eqSelf{Q:Bool->Cells->Prop}{b:TypeId}{ms:Array (String×TypeId)}{i j:TypeInfo}{p:Option Addr}(hu:P.underlying t=some (.interface ms))(f:P.underlying tx=some (.pointer b))(c:P.info? tx=some i)(hc:i.comparable=true)(d:P.info? b=some j)(h0:j.size≠0)(e:Q true h):Qd P (Op.equal t (.iface tx (.pointer p)) (.iface tx (.pointer p))) Q E h:=by
 unfold Op.equal;have a:Op.maxDepth=9998+1+1:=rfl;rw[a,Op.equalIn,lwp_bind,Qc hu];simp only[];rw[if_neg (fun h=>h rfl),lwp_bind,Jq c,hc];simp only[Bool.not_true,Bool.false_eq_true,if_false];exact D9 f d h0 (.inr (.inr rfl)) (by rw[decide_eq_true rfl];exact e)
end
section
variable {X:XP} {P:Program} {Q:Leaf->LH->Prop}
variable {h:LH}{K:Value->T}{t:TypeId}{x y:Operand}{v:Value}
theorem Uu{ms:Array (String×TypeId)}(hu:P.underlying t=some (.interface ms))(hv:IsI v)(b:isConst y=true)(a:(K (.bool (isNilI v))).wp X P Q h) :
  (T.sem false (Sem.bind (eqGuard .eql t x y v .nilIface) fun _=>binOp .eql t v .nilIface) K).wp X P Q h:=by
 refine Q9 (A:=fun w h'=>w=.bool (isNilI v)/\h'=h.get) (Qu _ _ ?_) (by rintro w h' ⟨rfl,rfl⟩;exact a);cases y with
 | const c =>
  rcases hv with rfl|⟨u,w,rfl⟩
  ·unfold eqGuard;simp only[Bool.not_true,Bool.false_eq_true,if_false,Bool.or_true,if_true,Qg];unfold binOp;simp only[lwp_bind];exact Gp hu (.inl rfl) ⟨rfl,rfl⟩
  ·unfold eqGuard;simp only[Bool.not_true,Bool.false_eq_true,if_false,Qg];unfold binOp;simp only[lwp_bind];exact Gp hu (.inr ⟨_,_,rfl⟩) ⟨rfl,rfl⟩
 | _=>cases b
theorem Za{ms:Array (String×TypeId)}(hu:P.underlying t=some (.interface ms))(hv:IsI v)(b:isConst y=true)(a:(K (.bool (!isNilI v))).wp X P Q h) :
  (T.sem false (Sem.bind (eqGuard .neq t x y v .nilIface) fun _=>binOp .neq t v .nilIface) K).wp X P Q h:=by
 refine Q9 (A:=fun w h'=>w=.bool (!isNilI v)/\h'=h.get) (Qu _ _ ?_) (by rintro w h' ⟨rfl,rfl⟩;exact a);cases y with
 | const c =>
  rcases hv with rfl|⟨u,w,rfl⟩
  ·unfold eqGuard;simp only[Bool.not_true,Bool.not_false,Bool.false_eq_true,if_false,Bool.or_true,if_true,Qg];unfold binOp;simp only[lwp_bind];exact Gp hu (.inl rfl) ⟨rfl,rfl⟩
  ·unfold eqGuard;simp only[Bool.not_true,Bool.not_false,Bool.false_eq_true,if_false,Qg];unfold binOp;simp only[lwp_bind];exact Gp hu (.inr ⟨_,_,rfl⟩) ⟨rfl,rfl⟩
 | _=>cases b
theorem Y5{ty:TypeId}{w:Value}{c:Bool}(hc:Qd P (Op.equal t v (.iface ty w)) (fun b h'=>b=c/\h'=h.get) (fun _ _=>False) h.get)(hv:IsI v)(f:(K (.bool c)).wp X P Q h) :
  (T.sem false (Sem.bind (eqGuard .eql t x y v (.iface ty w)) fun _=>binOp .eql t v (.iface ty w)) K).wp X P Q h:=by
 refine Q9 (A:=fun w h'=>w=.bool c/\h'=h.get) (Qu _ _ ?_) (by rintro w h' ⟨rfl,rfl⟩;exact f);have a:=Q4 (Q':=fun b h'=>(Value.bool b)=.bool c/\h'=h.get) _ hc (fun b h' d=>⟨by rw[d.1],d.2⟩) fun _ _ e=>e;rcases hv with rfl|⟨u,w',rfl⟩
 ·unfold eqGuard;simp only[Bool.not_true,Bool.false_eq_true,if_false,Qg];unfold binOp;simp only[lwp_bind];exact a
 ·unfold eqGuard;simp only[Bool.not_true,Bool.false_eq_true,if_false,Qg];unfold binOp;simp only[lwp_bind];exact a
end
end Go.TM.Tp
end
section
namespace Go.TM.Tp
variable {el:TypeId}{r n:Nat}{h h':LH}
theorem Dc{k:Nat}{p:Option Addr}{c:Nat}{f:List Value}(s:∀ a,p=some a->a.block≠r)(b:But r h h')(o:OwnRow el k h.get p n c f):OwnRow el k h'.get p n c f:=by
 obtain⟨e,m|⟨q,cs,d,g,i,j,l⟩⟩:=o
 ·exact⟨e,.inl m⟩
 ·refine⟨e,.inr ⟨q,cs,d,?_,i,j,l⟩⟩;rw[b.1 q (s _ d)];exact g
structure Bld(B U:TypeId)(h0 h:LH)(r:Nat)(l:Bs):Prop where
 cells:∃ p q c,h.get r=some (true,.cells #[.pointer p,.slice q l.length c] B (0,0))/\(p=none\/p=some ⟨r,0,none⟩)/\OwnRow U 1 h.get q l.length c (l.map u8V)/\NewIn h0.get q/\∀ a,q=some a->a.block≠r
 new:h0.get r=none
 le:h0.le h
theorem Bld.grow{B U:TypeId}{h0:LH}{l:Bs}(b:Bld B U h0 h r l)(a:h.le h'):Bld B U h0 h' r l:=by
 obtain⟨p,q,c,d,e,f,g,i⟩:=b.cells;exact⟨⟨p,q,c,a.1 _ _ d,e,f.le a.1,g,i⟩,b.new,LH.le_trans b.le a⟩
section
variable {P:Program} {X:XP} {Q:Leaf->LH->Prop}
variable {h:LH}{K:Value->T}{t el ty:TypeId}{p:Option Addr}{c:Nat}
theorem t_capS{n:Nat}(hu:P.underlying t=some (.slice el))(a:(K (.int .i64 (c:Int))).wp X P Q h):(T.sem false (Builtin.cap_ #[t] ty #[.slice p n c]) K).wp X P Q h:=by
 refine Q9 (A:=fun v h'=>v=.int .i64 (c:Int)/\h'=h.get) ?_ (by rintro v h' ⟨rfl,rfl⟩;exact a);unfold Builtin.cap_;simp only[List.getElem?_toArray,List.getElem?_cons_zero,lwp_bind,Qc hu,Qg]
 first|exact⟨rfl,rfl⟩|exact⟨rfl,trivial⟩
theorem t_copyNone{t2:TypeId}{inf:TypeInfo}(hu:P.underlying t=some (.slice el))(b:P.info? el=some inf)(d:(K (.int .i64 0)).wp X P Q h):(T.sem false (Builtin.copy_ #[t,t2] ty #[.slice p 0 c,.slice none 0 0]) K).wp X P Q h:=by
 refine Q9 (A:=fun v h'=>v=.int .i64 0/\h'=h.get) ?_ (by rintro v h' ⟨rfl,rfl⟩;exact d);unfold Builtin.copy_;simp only[List.getElem?_toArray,List.getElem?_cons_zero,List.getElem?_cons_succ,lwp_bind,Qc hu,Qg,Builtin.lenOf,Qy b,Builtin.firstCells];cases p with
 | none=>exact⟨rfl,rfl⟩
 | some a=>exact⟨rfl,rfl⟩
end
theorem digits_size:∀ (n t:Nat) (acc:Array Value),(Extern.BytealgMakeNoZero.digits n t acc).size=acc.size+n
 | 0,_,_=>rfl
 | n+1,t,acc=>by
  unfold Extern.BytealgMakeNoZero.digits;rw[digits_size n,Array.size_push];omega
theorem lwp_makeNoZero{P:Program}{E:Halt->Cells->Prop}{h:Cells}{Q:Value->Cells->Prop}{ps:Array TypeId}{t:TypeId}(hu:P.underlying t=some (.slice el))(hn:n<=2^40)
 (hq:∀ r cs,h r=none->n<=cs.size->Q (.slice (some ⟨r,0,none⟩) n cs.size) (h.upd r (true,.cells cs el (0,0)))):Qd P (Extern.BytealgMakeNoZero.makeNoZero ps #[t] #[.int .i64 (n:Int)]) Q E h:=by
 show Qd P (underlying t >>= _) _ _ _;rw[lwp_bind,Qc hu];dsimp only;have hnb:¬ ((decide ((n:Int)<0)||decide ((n:Int)>2^48))=true):=by simp;omega
 rw[if_neg hnb];simp only[Qg,lwp_bind,Int.toNat_natCast];have hch:∀ {K:Nat->Cells->Prop},(∀ a,n<=a->K a h)->Qd P (choose (Question.appendCap n 0 el)) K E h:=by
  intro K hK;show (if _ then _ else _);split
  ·rename_i hf;simp[Question.forced]at hf
  ·intro t;exact hK _ (Nat.le_add_right _ _)
 refine hch fun a ha=>?_;have hroom':∀ {K:Unit->Cells->Prop},K () h->Qd P (askRoom a) K E h:=by
  intro K hK;unfold askRoom;split
  ·exact⟨.inl rfl,hK⟩
  ·exact hK
 refine hroom' ?_
 have hch2 : ∀ {K : Nat -> Cells -> Prop}, (∀ a, K a h) -> Qd P (choose (Question.extern "internal/bytealg.MakeNoZero.bytes" 0)) K E h := by
  intro K hK;show (if _ then _ else _);split
  ·exact hK _
  ·intro t;exact hK _
 refine hch2 fun b=>?_;refine Zf fun r hr=>?_;have hs:(Extern.BytealgMakeNoZero.digits a b #[]).size=a:=by rw[digits_size];simp
 have:=hq r (Extern.BytealgMakeNoZero.digits a b #[]) hr (by rw[hs];exact ha);rw[hs]at this;exact this
end Go.TM.Tp
namespace Go.Y.Txt
open Go.TM.Tp
attribute [local irreducible] T.wp CV FWK
abbrev BldR(h0 h:LH)(r:Nat)(l:Bs):Prop:=Bld 80 5 h0 h r l
variable {h0 h:LH}{r n:Nat}
theorem undBp:Tryz.prog.underlying 162=some (.pointer 5):=by kernel_rfl
theorem depth0:Tryz.prog.depth≠0:=of_decide_eq_true (by kernel_rfl)
theorem cellsU:Tryz.prog.cellsOf 5=1:=by kernel_rfl
theorem c3715{l s:Bs}(b:BldR h0 h r l)(C:l.length+s.length<=2^30) :
  FW X0 Tryz.prog 35 #[.pointer (some ⟨r,0,none⟩),.string (str s)] h fun v h'=>v=.tuple #[.int .i64 (s.length:Int),.nilIface]/\BldR h0 h' r (l++s):=by
 obtain⟨p,q,c,y,z,A,B,n⟩:=b.cells;refine w3715 Qk ?_;refine Jn (c3739 y z) ?_;rintro _ k ⟨rfl,t,d⟩;have j:h0.le k:=Ov.le_of b.le (t.ov b.new);have F:k.get.cell? ((⟨r,0,none⟩ : Addr).add 1)=some (.slice q l.length c):=J6 (i:=1) d rfl;refine gZ ?_;refine t_appStr rfl rfl undBy undS infU rfl (by omega) C (Dc n t A) fun x c' h' own kept f=>?_;have o:h' r=some (true,.cells #[.pointer (some ⟨r,0,none⟩),.slice q l.length c] 80 (0,0)):=kept r _ d n;have e:∀ a,x=some a->a.block≠r:=by
  intro a w;rcases f with rfl|⟨H,rfl,g⟩
  ·exact n a w
  ·cases w;rintro rfl;rw[d]at g;cases g
 obtain⟨D,E⟩:=Gz j.1 B kept f;refine gZ ?_;refine Z8 (h:={ k with get:=h' }) (i:=1) o rfl (by rfl) fun G u m=>?_;refine Q5 undS ?_;refine gZ ?_;refine Qa ⟨rfl,⟨some ⟨r,0,none⟩,x,c',?_,.inr rfl,?_,E,e⟩,b.new,?_⟩
 ·rw[m,List.length_append];rfl
 ·rw[List.length_append,List.map_append];exact Dc e u own
 ·have:h0.le { k with get:=h' }:=⟨D,j.2⟩
  exact Ov.le_of this (u.ov b.new)
theorem c3721{l:Bs}(b:BldR h0 h r l)(H:l.length<=2^30) :
  FW X0 Tryz.prog 41 #[.pointer (some ⟨r,0,none⟩)] h fun v h'=>v=.string (str l)/\h0.le h':=by
 obtain⟨p,q,c,w,D,o,x,y⟩:=b.cells;refine w3721 Qk ?_;have z:h.get.cell? ((⟨r,0,none⟩ : Addr).add 1)=some (.slice q l.length c):=J6 (i:=1) w rfl;refine gZ ?_;refine t_sliceData undBp (fun a m=>?_) fun I h' hle t=>?_
 ·rcases o.2 with⟨g,_⟩|⟨u,cs,g,d,_⟩
  ·rw[g]at m;cases m
  ·rw[g]at m;cases m;exact⟨_,_,_,_,d⟩
 have e:=Qe hle.1 z;have k:=o.le hle.1;refine gZ ?_;have B:=o.le_cap;refine t_unsafeStr rfl undBp depth0 cellsU (by omega) (fun s=>?_) fun d n C=>?_
 ·have hlen:=List.length_pos_iff.2 s;rcases k.2 with⟨_,g,_⟩|⟨u,cs,g,d,F,G,A⟩
  ·omega
  ·have f:c≠0:=by omega
   exact⟨u,cs,_,(t f).trans g,d,by omega,A⟩
 have j:h0.le d/\d.get r=h'.get r:=by
  by_cases f:c=0
  ·rw[C (List.eq_nil_of_length_eq_zero (by omega))];exact⟨LH.le_trans b.le hle,rfl⟩
  ·rw[t f]at n;exact⟨n.le (LH.le_trans b.le hle) x,n.1 r y⟩
 have E:d.get.cell? ((⟨r,0,none⟩ : Addr).add 1)=some (.slice q l.length c):=by
  rw[Qo]at e ⊢;unfold Cells.cell? at e ⊢;rw[show d.get (Addr.block ⟨r,0+1,none⟩)=h'.get (Addr.block ⟨r,0+1,none⟩) from j.2];exact e
 refine gZ ?_;refine Qj ?_;refine gZ ?_;exact Qa ⟨rfl,j.1⟩
theorem noNoZero:Tryz.f172.resultTypes=#[78]:=by kernel_rfl
theorem cv_makeNoZero{X:XP}(n:Nat)(a:n<=2^40):CV X Tryz.prog (.func (.func 172) #[] #[]) #[.int .i64 (n:Int)] h (fun v h'=>∃ r cs,v=.slice (some ⟨r,0,none⟩) n cs.size/\h.get r=none/\n<=cs.size/\h'={ h with get:=h.get.upd r (true,.cells cs 5 (0,0)) }):=by
 refine We (e:=Extern.BytealgMakeNoZero.makeNoZero Tryz.f172.params Tryz.f172.resultTypes) (fd:=Tryz.f172) (by kernel_rfl) (by kernel_rfl) (by kernel_rfl) (by kernel_rfl) (by kernel_rfl) ?_;rw[noNoZero];exact lwp_makeNoZero undBy a fun r cs hr hc=>⟨r,cs,rfl,hr,hc,rfl⟩
theorem c3766{p:Option Addr}(hb:h.get r=some (true,.cells #[.pointer p,.slice none 0 0] 80 (0,0)))(y:p=none\/p=some ⟨r,0,none⟩)(e:h0.get r=none)(hle:h0.le h)(C:n<=2^30) :
  FW X0 Tryz.prog 147 #[.pointer (some ⟨r,0,none⟩),.int .i64 (n:Int)] h fun v h'=>v=.tuple #[]/\BldR h0 h' r []:=by
 refine w3766 Qk ?_;have s:h.get.cell? ((⟨r,0,none⟩ : Addr).add 1)=some (.slice none 0 0):=J6 (i:=1) hb rfl;refine gZ ?_;refine t_capS undBy ?_;have w1:wrap .i64 (wrap .i64 (2*((0:Nat):Int))+(n:Int))=(n:Int):=by
  rw[Qh (n:=2*((0:Nat):Int)) (by omega) (by omega),Qh (by omega) (by omega)];omega
 refine gZ ?_;rw[w1];refine Jb (cv_makeNoZero n (by omega)) ?_;rintro _ t ⟨d,cs,rfl,b,u,rfl⟩;have c:h.le { h with get:=h.get.upd d (true,.cells cs 5 (0,0)) }:=Qr b;have m:({ h with get:=h.get.upd d (true,.cells cs 5 (0,0)) }:LH).get d=some (true,.cells cs 5 (0,0)):=Qm _ _ _;revert c m;generalize ({ h with get:=h.get.upd d (true,.cells cs 5 (0,0)) }:LH)=t;intro c m;have A:=Qe c.1 s;have k:=c.1 _ _ hb;have f:d≠r:=by rintro rfl;rw[hb]at b;cases b
 refine gZ ?_;refine Zo undBy infU (i:=0) (Nat.zero_le _) ?_;obtain⟨D,l,_⟩:=Zk infU;refine gZ ?_;refine t_copyNone undBy l ?_;refine gZ ?_;refine Z8 (i:=1) k rfl (by rfl) fun B o q=>?_;refine Qa ⟨rfl,⟨p,some ⟨d,0,none⟩,cs.size,q,y,⟨rfl,.inr ⟨d,cs,rfl,?_,(Nat.mul_one _).symm,Nat.zero_le _,fun j v w=>by simp at w⟩⟩,?_,?_⟩,e,Ov.le_of (LH.le_trans hle c) (o.ov e)⟩
 ·rw[o.1 d f];exact m
 ·intro a g;cases g;cases z:h0.get d with
  | none=>rfl
  | some x=>rw[hle.1 _ _ z]at b;cases b
 ·intro a g;cases g;exact f
theorem c3740(hb:h.get r=some (true,.cells #[.pointer none,.slice none 0 0] 80 (0,0)))(b:h0.get r=none)(hle:h0.le h)(m:n<=2^30) :
  FW X0 Tryz.prog 85 #[.pointer (some ⟨r,0,none⟩),.int .i64 (n:Int)] h fun v h'=>v=.tuple #[]/\BldR h0 h' r []:=by
 refine w3740 Qk ?_;refine Jn (c3739 hb (.inl rfl)) ?_;rintro _ f ⟨rfl,j,d⟩;have c:h0.le f:=Ov.le_of hle (j.ov b);refine gZ ?_;refine Q1 (fun g h'=>g=[]/\f=h') ?_ ?_
 ·refine t_if (fun e=>by omega) (fun _=>?_);exact Qi ⟨rfl,rfl⟩
 rintro g _ ⟨rfl,rfl⟩;have o:f.get.cell? ((⟨r,0,none⟩ : Addr).add 1)=some (.slice none 0 0):=J6 (i:=1) d rfl;refine gZ ?_;refine t_capS undBy ?_;refine yJ (fun _=>?_) (fun e=>?_)
 ·refine Jn (c3766 d (.inr rfl) b c m) ?_;rintro _ p ⟨rfl,k⟩;refine gZ ?_;exact Qa ⟨rfl,k⟩
 ·exact Qa ⟨rfl,⟨_,none,0,d,.inr rfl,OwnRow.nil,NewIn.none,fun a l=>by cases l⟩,b,c⟩
end Go.Y.Txt
end
section
namespace Go.TM.Tp
theorem Ho(c:UInt8):∀ l:List Bs,(joinS c l).length=(l.map List.length).sum+(l.length-1)
 | []=>rfl
 | [a]=>by simp[joinS]
 | a::b::l=>by
  have d:=Ho c (b::l);show (a++c::joinS c (b::l)).length=_;rw[List.length_append,List.length_cons,d];simp;omega
theorem Dh:∀ (l:List Nat) (i:Nat),(l.take i).sum<=l.sum
 | [],i=>by simp
 | a::l,0=>by simp
 | a::l,i+1=>by
  have:=Dh l i;simp only[List.take_succ_cons,List.sum_cons];omega
theorem joinS_take(c:UInt8)(l:List Bs)(i:Nat):(joinS c (l.take i)).length<=(joinS c l).length:=by
 rw[Ho,Ho,List.map_take,List.length_take];have:=Dh (l.map List.length) i;omega
theorem sum_snoc{l:List Bs}{i:Nat}{x:Bs}(h:l[i]?=some x):((l.take (i+1)).map List.length).sum=((l.take i).map List.length).sum+x.length:=by
 rw[Jr h,List.map_append,List.sum_append];simp
end Go.TM.Tp
namespace Go.Y.Txt
open Go.TM.Tp
attribute [local irreducible] T.wp CV FWK
theorem c3716{h:LH}{p:Option Addr}{n k:Nat}{fs:List Bs}(s:BsS h p n k fs)(c:UInt8)(hl:fs.length<=2^20)(ht:(joinS c fs).length<=2^29):Gr Tryz.prog 36 #[.slice p n k,.string (str [c])] h fun r _=>r=.string (str (joinS c fs)):=by
 refine w3716 Qk ?_;have t:=s.2.1;refine Ql (fun e=>?_) (fun e=>?_)
 ·have:fs=[]:=List.eq_nil_of_length_eq_zero (by
   have:(n:Int)=0:=by simpa using e
   omega)
  subst this;exact Qa ⟨LH.le_refl _,rfl⟩
 have X:n≠0:=by intro h0;subst h0;simp at e
 refine Ql (fun A=>?_) (fun A=>?_)
 ·have Q:n=1:=by
   have:(n:Int)=1:=by simpa using A
   omega
  match fs,t with
  | [x],_ =>
   obtain⟨a,g,o⟩:=s.at (i:=0) (x:=x) rfl;refine gT ⟨by omega,by omega⟩ (gS2 g (Qt o ?_));exact Qa ⟨LH.le_refl _,rfl⟩
  | [],t=>exact absurd t X
  | _::_::_,t=>simp at t;omega
 have n1:n≠1:=by intro h0;subst h0;simp at A
 have v:=Ho c fs;have hw:wrap .i64 ((n:Int)-1)=((fs.length-1:Nat):Int):=by rw[Qh (by omega) (by omega)];omega
 have f:(([c]:Bs).length:Int)=1:=rfl;refine Q1 (fun d h'=>d=[.int .i64 ((fs.length-1:Nat):Int)]/\h=h') ?_ ?_
 ·refine Q5 undS ?_;rw[f];refine gZ ?_;refine t_if (fun _=>?_) (fun e=>absurd (by decide) e);refine Q5 undS ?_;rw[f];refine gZ ?_;rw[hw]
  try refine gT (by omega) ?_
  have hq:(2:Int)<=Int.tdiv 9223372036854775807 ((fs.length-1:Nat):Int)/\Int.tdiv 9223372036854775807 ((fs.length-1:Nat):Int)<=9223372036854775807:=by
   rw[Int.tdiv_eq_ediv_of_nonneg (by omega)];refine⟨(Int.le_ediv_iff_mul_le (by omega)).2 (by omega),Int.ediv_le_self _ (by omega)⟩
  rw[Qh (n:=Int.tdiv 9223372036854775807 ((fs.length-1:Nat):Int)) (by omega) (by omega)];refine t_if (fun e=>by omega) (fun _=>?_);refine Q5 undS ?_;rw[f];refine gZ ?_;refine Qi ⟨?_,rfl⟩;rw[Qh (n:=1*((fs.length-1:Nat):Int)) (by omega) (by omega),Qh (by omega) (by omega)];congr 2;omega
 rintro d _ ⟨rfl,rfl⟩;refine gZ ?_;refine Ja (fun z d h'=>h=h'/\∃ i:Nat,d=[.int .i64 (((fs.length-1)+((fs.take i).map List.length).sum:Nat):Int),.int .i64 i]/\i<=n/\z=n-i)
  (fun d h'=>h=h'/\∃ i:Int,d=[.int .i64 ((joinS c fs).length:Int),.int .i64 i]) ⟨rfl,0,by simp,Nat.zero_le _,rfl⟩ ?_ ?_
 ·rintro Y z d _ B ⟨rfl,i,rfl,U,rfl⟩;have E:=Dh (fs.map List.length) i;rw[<- List.map_take]at E;refine yJ (fun o=>?_) (fun o=>?_)
  ·have l:=List.getElem?_eq_getElem (show i<fs.length by omega);generalize fs[i]=x at l;obtain⟨a,g,q⟩:=s.at l;have F:=sum_snoc l;have u:=Dh (fs.map List.length) (i+1);rw[<- List.map_take]at u;refine gT ⟨by omega,by omega⟩ (gS2 g (Qt (by rw[Int.toNat_natCast];exact q) ?_));refine Q5 undS ?_;refine gZ ?_;rw[Qh (n:=9223372036854775807-(((fs.length-1)+((fs.take i).map List.length).sum:Nat):Int)) (by omega) (by omega)];refine t_if (fun e=>by omega) (fun _=>?_);refine Q5 undS ?_;refine gZ ?_;refine Qi (B (n-(i+1)) _ _ (by omega) ⟨rfl,i+1,?_,by omega,rfl⟩);rw[Qh (by omega) (by omega),Qh (by omega) (by omega),F];congr 2
   ·congr 1;omega
  ·have V:i=n:=by omega
   refine gH ⟨rfl,(i:Int),?_⟩;rw[v,List.take_of_length_le (by omega)];congr 2;congr 1;omega
 rintro d _ ⟨rfl,i,rfl⟩;refine gZ ?_;refine D1 fun r Q I D hr=>?_;refine Jn (c3740 (h0:=h) hr D I (by omega)) ?_;rintro _ L ⟨rfl,K⟩;refine gZ ?_;have l:=List.getElem?_eq_getElem (show 0<fs.length by omega);generalize W:fs[0]=x at l;obtain⟨a,g,q⟩:=(s.le K.le).at l;have w:fs.take 1=[x]:=by
  have:=Jr l;rw[this];rfl
 have b:=joinS_take c fs 1;rw[w]at b;have b:x.length<=(joinS c fs).length:=b;refine gS2 g (Qt q ?_);refine Jn (c3715 K (by simp;omega)) ?_;rintro _ h3 ⟨rfl,N⟩;refine gZ ?_;refine t_sliceLow undSs infS (i:=1) (by omega) ?_;have st:Sl BsE 1 h.get (if k=1 then p else p.map (·.add (1*1))) (n-1) (fs.drop 1):=s.2.drop s.1;revert st;generalize (if k=1 then p else p.map (·.add (1*1)))=Z;intro st;have st:BsS h Z (n-1) (k-1) (fs.drop 1):=⟨by have:=s.1;omega,st⟩
 refine gZ ?_;refine Ja (fun z d h'=>∃ i:Nat,d=[.int .i64 i]/\i<=n-1/\z=n-1-i/\BldR h h' r (joinS c (fs.take (i+1))))
  (fun d h'=>(∃ i:Int,d=[.int .i64 i])/\BldR h h' r (joinS c fs)) ⟨0,rfl,Nat.zero_le _,rfl,by rw[Nat.zero_add,w];exact N⟩ ?_ ?_
 ·rintro Y z d R B ⟨i,rfl,U,rfl,m⟩;refine yJ (fun o=>?_) (fun o=>?_)
  ·have G:=List.getElem?_eq_getElem (show i+1<fs.length by omega);generalize fs[i+1]=y at G;have H:(fs.drop 1)[i]?=some y:=by rw[List.getElem?_drop,Nat.add_comm];exact G
   obtain⟨a,g,q⟩:=(st.le m.le).at H;have C:fs.take (i+1)≠[]:=fun e=>by
    have L:(fs.take (i+1)).length=0:=by rw[e];rfl
    rw[List.length_take]at L;omega
   have M:joinS c (fs.take (i+1+1))=joinS c (fs.take (i+1))++[c]++y:=by
    rw[Jr G,Uc C,List.append_assoc];rfl
   have j:=joinS_take c fs (i+1+1);rw[M,List.length_append,List.length_append,List.length_singleton]at j;refine gT ⟨by omega,by omega⟩ (gS2 g (Qt (by rw[Int.toNat_natCast];exact q) ?_));refine Jn (c3715 m (by rw[List.length_singleton];omega)) ?_;rintro _ S ⟨rfl,O⟩;refine gZ ?_;refine Jn (c3715 O (by rw[List.length_append,List.length_singleton];omega)) ?_;rintro _ h6 ⟨rfl,P⟩;refine gZ ?_;refine Qi (B (n-1-(i+1)) _ _ (by omega) ⟨i+1,?_,by omega,rfl,by rw[M];exact P⟩);rw[Qh (by omega) (by omega)];rfl
  ·rw[List.take_of_length_le (by omega)]at m;exact gH ⟨⟨_,rfl⟩,m⟩
 ·rintro d R ⟨⟨i,rfl⟩,m⟩;refine gZ ?_;refine Jn (c3721 m (by omega)) ?_;rintro _ S ⟨rfl,J⟩;refine Qj ?_;exact Qa ⟨J,rfl⟩
end Go.Y.Txt
end
section
namespace Go.Y
set_option maxHeartbeats 0
set_option linter.unusedVariables false
variable {X:XP} {h:LH} {A:Value->LH->Prop}
variable {a b c d e f g i j k l m:Int}{n o p q r s t u v w x y z:Nat}{B C D E F G H I J K L M:Option Addr}
theorem w3741:FX X 86 #[a] h A (.cl 148 #[a] fun c=>.unStr c fun b=>.rt (.string b)):=fk [] [] [] Tryz.f86
theorem w3767:FX X 148 #[a] h A (.cl 173 #[a,.int .i64 10] fun c=>.unStr c fun b=>.rt (.string b)):=fk [] [] [] Tryz.f148
theorem w3775:FX X 173 #[a,b] h A (bif b==10 then .blk (bif decide (0<=a) then bif decide (a<100) then .cl 198 #[a] fun d=>.unStr d fun e=>.rn [.string e] else .ag [.string { data:=#[] }] else .ag [.string { data:=#[] }]) (fun c=>.popStr c fun e c=>.unNil c (.new 291 #[.int .u8 0,.int .u8 0,.int .u8 0,.int .u8 0,.int .u8 0,.int .u8 0,.int .u8 0,.int .u8 0,.int .u8 0,.int .u8 0,.int .u8 0,.int .u8 0,.int .u8 0,.int .u8 0,.int .u8 0,.int .u8 0,.int .u8 0,.int .u8 0,.int .u8 0,.int .u8 0,.int .u8 0,.int .u8 0,.int .u8 0,.int .u8 0] fun k=>.blk (bif decide (a<0) then .sem false (Op.unary UnOp.neg (.int .u64 (IntKind.wrap .u64 a))) fun d=>.ag [d] else .ag [.int .u64 (IntKind.wrap .u64 a)]) (fun c=>.popI .u64 c fun f c=>.unNil c (.cI 199 #[.int .u64 f] fun l=>.sem false (Instr.sliceAt 291 (.pointer (some ⟨k,0,none⟩)) (some (.int .i64 1)) (some (.int .i64 (wrap .i64 (1+l)))) none) fun j=>.unS j fun g n i=>.cl 200 #[.slice g n i,.int .u64 f] fun d=>.unTup d fun m=>.unNil m (bif decide (a<0) then .need ((0:Int)<=0/\0<(↑24:Int)) (.store ((Addr.add ⟨k,0,none⟩ 0).add 0) (.int .u8 45) (.sem false (Instr.sliceAt 291 (.pointer (some ⟨k,0,none⟩)) none (some (.int .i64 (wrap .i64 (1+l)))) none) fun j=>.unS j fun g f i=>.sem false (convert 78 9 (.slice g f i)) fun d=>.unStr d fun e=>.rt (.string e))) else .sem false (Instr.sliceAt 291 (.pointer (some ⟨k,0,none⟩)) (some (.int .i64 1)) (some (.int .i64 (wrap .i64 (1+l)))) none) fun j=>.unS j fun g f i=>.sem false (convert 78 9 (.slice g f i)) fun d=>.unStr d fun e=>.rt (.string e)))) (fun c=>.popI .u64 c fun f c=>.unNil c (.rt (.string e))) fun o p=>.fail)) (fun c=>.popStr c fun e c=>.unNil c (.rt (.string e))) fun o p=>.fail else .cT 201 #[.slice none 0 0,.int .u64 (IntKind.wrap .u64 a),b,.bool (decide (a<0)),false] fun d c=>.unS d fun g f i=>.unCons c fun d c=>.unStr d fun e=>.unNil c (.rt (.string e))):=fk [] [] [⟨8,[(6,.int .u64)],[],[],[],[]⟩,⟨4,[(4,.str)],[],[],[],[]⟩] Tryz.f173
theorem w3782:FX X 198 #[a] h A (bif decide (a<10) then .sem false (Instr.sliceAt 9 (.string { data:=#[48,49,50,51,52,53,54,55,56,57,97,98,99,100,101,102,103,104,105,106,107,108,109,110,111,112,113,114,115,116,117,118,119,120,121,122] }) (some (.int .i64 a)) (some (.int .i64 (wrap .i64 (a+1)))) none) fun c=>.unStr c fun b=>.rt (.string b) else .sem false (Instr.sliceAt 9 (.string { data:=List.toArray (List.append (List.append [48,48,48,49,48,50,48,51,48,52,48,53,48,54,48,55,48,56,48,57,49,48,49,49,49,50,49,51,49,52,49,53,49,54,49,55,49,56,49,57,50,48,50,49,50,50,50,51,50,52] [50,53,50,54,50,55,50,56,50,57,51,48,51,49,51,50,51,51,51,52,51,53,51,54,51,55,51,56,51,57,52,48,52,49,52,50,52,51,52,52,52,53,52,54,52,55,52,56,52,57]) (List.append [53,48,53,49,53,50,53,51,53,52,53,53,53,54,53,55,53,56,53,57,54,48,54,49,54,50,54,51,54,52,54,53,54,54,54,55,54,56,54,57,55,48,55,49,55,50,55,51,55,52] [55,53,55,54,55,55,55,56,55,57,56,48,56,49,56,50,56,51,56,52,56,53,56,54,56,55,56,56,56,57,57,48,57,49,57,50,57,51,57,52,57,53,57,54,57,55,57,56,57,57])) }) (some (.int .i64 (wrap .i64 (a*2)))) (some (.int .i64 (wrap .i64 (wrap .i64 (a*2)+2)))) none) fun c=>.unStr c fun b=>.rt (.string b)):=fk [] [] [] Tryz.f198
theorem w3783:FX X 199 #[.int .u64 a] h A (.cI 220 #[.int .u64 a] fun b=>.cI 219 #[b] fun b=>.need (0<=b/\b<(↑20:Int)) (.loadI .u64 (Addr.add { block:=5,off:=0 } (b.toNat*1)) fun c=>.cI 221 #[.bool (decide (a>=c))] fun d=>.rt (.int .i64 (wrap .i64 (b+d))))):=fk [] [] [] Tryz.f199
def n3784(d:Option Addr)(c f:Nat)(p:Int):T:=.loop [.int .u64 p,.int .i64 (↑c:Int)] (fun j=>.popI .u64 j fun b j=>.pi j fun a j=>.unNil j (bif decide (a>=8) then .need ((100000000:Int)≠0) (.need ((100000000:Int)≠0) (.need ((10000:Int)≠0) (.need ((10000:Int)≠0) (.need ((100:Int)≠0) (.need ((100:Int)≠0) (.need ((100:Int)≠0) (.need ((100:Int)≠0) (.blk (.both (.sem false (Instr.index 9 (.string { data:=List.toArray (List.append (List.append [48,48,48,49,48,50,48,51,48,52,48,53,48,54,48,55,48,56,48,57,49,48,49,49,49,50,49,51,49,52,49,53,49,54,49,55,49,56,49,57,50,48,50,49,50,50,50,51,50,52] [50,53,50,54,50,55,50,56,50,57,51,48,51,49,51,50,51,51,51,52,51,53,51,54,51,55,51,56,51,57,52,48,52,49,52,50,52,51,52,52,52,53,52,54,52,55,52,56,52,57]) (List.append [53,48,53,49,53,50,53,51,53,52,53,53,53,54,53,55,53,56,53,57,54,48,54,49,54,50,54,51,54,52,54,53,54,54,54,55,54,56,54,57,55,48,55,49,55,50,55,51,55,52] [55,53,55,54,55,55,55,56,55,57,56,48,56,49,56,50,56,51,56,52,56,53,56,54,56,55,56,56,56,57,57,48,57,49,57,50,57,51,57,52,57,53,57,54,57,55,57,56,57,57])) }) (.int .u32 (IntKind.wrap .u32 (IntKind.wrap .u32 (Int.tmod (Int.tmod (IntKind.wrap .u32 (Int.tmod b 100000000)) 10000) 100*2)+1)))) fun g=>.unI .u8 g fun i=>.nds [.val (.int .u32 (IntKind.wrap .u32 (Int.tmod (Int.tmod (IntKind.wrap .u32 (Int.tmod b 100000000)) 10000) 100*2))),.val (.int .u32 (IntKind.wrap .u32 (Int.tmod (Int.tmod (IntKind.wrap .u32 (Int.tmod b 100000000)) 10000) 100*2))),.val (.int .i64 (wrap .i64 (a-2))),a,.S d c f,.val (.int .i64 (wrap .i64 (a-1))),a,.S d c f] (.need (0<=wrap .i64 (a-1)/\wrap .i64 (a-1)<(↑c:Int)) (.someA d fun e=>.both (.sem false (Instr.index 9 (.string { data:=List.toArray (List.append (List.append [48,48,48,49,48,50,48,51,48,52,48,53,48,54,48,55,48,56,48,57,49,48,49,49,49,50,49,51,49,52,49,53,49,54,49,55,49,56,49,57,50,48,50,49,50,50,50,51,50,52] [50,53,50,54,50,55,50,56,50,57,51,48,51,49,51,50,51,51,51,52,51,53,51,54,51,55,51,56,51,57,52,48,52,49,52,50,52,51,52,52,52,53,52,54,52,55,52,56,52,57]) (List.append [53,48,53,49,53,50,53,51,53,52,53,53,53,54,53,55,53,56,53,57,54,48,54,49,54,50,54,51,54,52,54,53,54,54,54,55,54,56,54,57,55,48,55,49,55,50,55,51,55,52] [55,53,55,54,55,55,55,56,55,57,56,48,56,49,56,50,56,51,56,52,56,53,56,54,56,55,56,56,56,57,57,48,57,49,57,50,57,51,57,52,57,53,57,54,57,55,57,56,57,57])) }) (.int .u32 (IntKind.wrap .u32 (Int.tmod (Int.tmod (IntKind.wrap .u32 (Int.tmod b 100000000)) 10000) 100*2)))) fun g=>.unI .u8 g fun k=>.need (0<=wrap .i64 (a-1)/\wrap .i64 (a-1)<(↑c:Int)) (.someA d fun l=>.ne (.pointer (some (l.add ((wrap .i64 (a-1)).toNat*1)))) (.pointer (some (e.add ((wrap .i64 (a-1)).toNat*1)))) (.nds [.val (.int .u32 (IntKind.wrap .u32 (Int.tmod (Int.tmod (IntKind.wrap .u32 (Int.tmod b 100000000)) 10000) 100*2))),.val (.int .i64 (wrap .i64 (a-2))),a,.S d c f,.val (.int .i64 (wrap .i64 (a-1))),a,.S d c f] (.store ((e.add ((wrap .i64 (a-1)).toNat*1)).add 0) (.int .u8 i) (.nds [.val (.int .i64 (wrap .i64 (a-2))),a,.S d c f] (.need (0<=wrap .i64 (a-2)/\wrap .i64 (a-2)<(↑c:Int)) (.someA d fun e=>.store ((e.add ((wrap .i64 (a-2)).toNat*1)).add 0) (.int .u8 k) (.ag [])))))))) (.store ((e.add ((wrap .i64 (a-1)).toNat*1)).add 0) (.int .u8 i) (.nds [.val (.int .u32 (IntKind.wrap .u32 (Int.tmod (Int.tmod (IntKind.wrap .u32 (Int.tmod b 100000000)) 10000) 100*2))),.val (.int .i64 (wrap .i64 (a-2))),a,.S d c f] (.sem false (Instr.index 9 (.string { data:=List.toArray (List.append (List.append [48,48,48,49,48,50,48,51,48,52,48,53,48,54,48,55,48,56,48,57,49,48,49,49,49,50,49,51,49,52,49,53,49,54,49,55,49,56,49,57,50,48,50,49,50,50,50,51,50,52] [50,53,50,54,50,55,50,56,50,57,51,48,51,49,51,50,51,51,51,52,51,53,51,54,51,55,51,56,51,57,52,48,52,49,52,50,52,51,52,52,52,53,52,54,52,55,52,56,52,57]) (List.append [53,48,53,49,53,50,53,51,53,52,53,53,53,54,53,55,53,56,53,57,54,48,54,49,54,50,54,51,54,52,54,53,54,54,54,55,54,56,54,57,55,48,55,49,55,50,55,51,55,52] [55,53,55,54,55,55,55,56,55,57,56,48,56,49,56,50,56,51,56,52,56,53,56,54,56,55,56,56,56,57,57,48,57,49,57,50,57,51,57,52,57,53,57,54,57,55,57,56,57,57])) }) (.int .u32 (IntKind.wrap .u32 (Int.tmod (Int.tmod (IntKind.wrap .u32 (Int.tmod b 100000000)) 10000) 100*2)))) fun g=>.unI .u8 g fun b=>.nds [.val (.int .i64 (wrap .i64 (a-2))),a,.S d c f] (.need (0<=wrap .i64 (a-2)/\wrap .i64 (a-2)<(↑c:Int)) (.someA d fun e=>.store ((e.add ((wrap .i64 (a-2)).toNat*1)).add 0) (.int .u8 b) (.ag []))))))))) (.sem false (Instr.index 9 (.string { data:=List.toArray (List.append (List.append [48,48,48,49,48,50,48,51,48,52,48,53,48,54,48,55,48,56,48,57,49,48,49,49,49,50,49,51,49,52,49,53,49,54,49,55,49,56,49,57,50,48,50,49,50,50,50,51,50,52] [50,53,50,54,50,55,50,56,50,57,51,48,51,49,51,50,51,51,51,52,51,53,51,54,51,55,51,56,51,57,52,48,52,49,52,50,52,51,52,52,52,53,52,54,52,55,52,56,52,57]) (List.append [53,48,53,49,53,50,53,51,53,52,53,53,53,54,53,55,53,56,53,57,54,48,54,49,54,50,54,51,54,52,54,53,54,54,54,55,54,56,54,57,55,48,55,49,55,50,55,51,55,52] [55,53,55,54,55,55,55,56,55,57,56,48,56,49,56,50,56,51,56,52,56,53,56,54,56,55,56,56,56,57,57,48,57,49,57,50,57,51,57,52,57,53,57,54,57,55,57,56,57,57])) }) (.int .u32 (IntKind.wrap .u32 (Int.tmod (Int.tmod (IntKind.wrap .u32 (Int.tmod b 100000000)) 10000) 100*2)))) fun g=>.unI .u8 g fun i=>.nds [.val (.int .u32 (IntKind.wrap .u32 (IntKind.wrap .u32 (Int.tmod (Int.tmod (IntKind.wrap .u32 (Int.tmod b 100000000)) 10000) 100*2)+1))),.val (.int .u32 (IntKind.wrap .u32 (Int.tmod (Int.tmod (IntKind.wrap .u32 (Int.tmod b 100000000)) 10000) 100*2))),.val (.int .i64 (wrap .i64 (a-2))),a,.S d c f,.val (.int .i64 (wrap .i64 (a-1))),a,.S d c f] (.sem false (Instr.index 9 (.string { data:=List.toArray (List.append (List.append [48,48,48,49,48,50,48,51,48,52,48,53,48,54,48,55,48,56,48,57,49,48,49,49,49,50,49,51,49,52,49,53,49,54,49,55,49,56,49,57,50,48,50,49,50,50,50,51,50,52] [50,53,50,54,50,55,50,56,50,57,51,48,51,49,51,50,51,51,51,52,51,53,51,54,51,55,51,56,51,57,52,48,52,49,52,50,52,51,52,52,52,53,52,54,52,55,52,56,52,57]) (List.append [53,48,53,49,53,50,53,51,53,52,53,53,53,54,53,55,53,56,53,57,54,48,54,49,54,50,54,51,54,52,54,53,54,54,54,55,54,56,54,57,55,48,55,49,55,50,55,51,55,52] [55,53,55,54,55,55,55,56,55,57,56,48,56,49,56,50,56,51,56,52,56,53,56,54,56,55,56,56,56,57,57,48,57,49,57,50,57,51,57,52,57,53,57,54,57,55,57,56,57,57])) }) (.int .u32 (IntKind.wrap .u32 (IntKind.wrap .u32 (Int.tmod (Int.tmod (IntKind.wrap .u32 (Int.tmod b 100000000)) 10000) 100*2)+1)))) fun g=>.unI .u8 g fun k=>.nds [.val (.int .u32 (IntKind.wrap .u32 (Int.tmod (Int.tmod (IntKind.wrap .u32 (Int.tmod b 100000000)) 10000) 100*2))),.val (.int .i64 (wrap .i64 (a-2))),a,.S d c f,.val (.int .i64 (wrap .i64 (a-1))),a,.S d c f] (.need (0<=wrap .i64 (a-1)/\wrap .i64 (a-1)<(↑c:Int)) (.someA d fun e=>.store ((e.add ((wrap .i64 (a-1)).toNat*1)).add 0) (.int .u8 k) (.nds [.val (.int .i64 (wrap .i64 (a-2))),a,.S d c f] (.need (0<=wrap .i64 (a-2)/\wrap .i64 (a-2)<(↑c:Int)) (.someA d fun e=>.store ((e.add ((wrap .i64 (a-2)).toNat*1)).add 0) (.int .u8 i) (.ag []))))))))) (fun j=>.unNil j (.blk (.both (.sem false (Instr.index 9 (.string { data:=List.toArray (List.append (List.append [48,48,48,49,48,50,48,51,48,52,48,53,48,54,48,55,48,56,48,57,49,48,49,49,49,50,49,51,49,52,49,53,49,54,49,55,49,56,49,57,50,48,50,49,50,50,50,51,50,52] [50,53,50,54,50,55,50,56,50,57,51,48,51,49,51,50,51,51,51,52,51,53,51,54,51,55,51,56,51,57,52,48,52,49,52,50,52,51,52,52,52,53,52,54,52,55,52,56,52,57]) (List.append [53,48,53,49,53,50,53,51,53,52,53,53,53,54,53,55,53,56,53,57,54,48,54,49,54,50,54,51,54,52,54,53,54,54,54,55,54,56,54,57,55,48,55,49,55,50,55,51,55,52] [55,53,55,54,55,55,55,56,55,57,56,48,56,49,56,50,56,51,56,52,56,53,56,54,56,55,56,56,56,57,57,48,57,49,57,50,57,51,57,52,57,53,57,54,57,55,57,56,57,57])) }) (.int .u32 (IntKind.wrap .u32 (IntKind.wrap .u32 (IntKind.wrap .u32 (Int.tdiv (Int.tmod (IntKind.wrap .u32 (Int.tmod b 100000000)) 10000) 100)*2)+1)))) fun g=>.unI .u8 g fun i=>.nds [.val (.int .u32 (IntKind.wrap .u32 (IntKind.wrap .u32 (Int.tdiv (Int.tmod (IntKind.wrap .u32 (Int.tmod b 100000000)) 10000) 100)*2))),.val (.int .u32 (IntKind.wrap .u32 (IntKind.wrap .u32 (Int.tdiv (Int.tmod (IntKind.wrap .u32 (Int.tmod b 100000000)) 10000) 100)*2))),.val (.int .i64 (wrap .i64 (a-4))),a,.S d c f,.val (.int .i64 (wrap .i64 (a-3))),a,.S d c f] (.need (0<=wrap .i64 (a-3)/\wrap .i64 (a-3)<(↑c:Int)) (.someA d fun e=>.both (.sem false (Instr.index 9 (.string { data:=List.toArray (List.append (List.append [48,48,48,49,48,50,48,51,48,52,48,53,48,54,48,55,48,56,48,57,49,48,49,49,49,50,49,51,49,52,49,53,49,54,49,55,49,56,49,57,50,48,50,49,50,50,50,51,50,52] [50,53,50,54,50,55,50,56,50,57,51,48,51,49,51,50,51,51,51,52,51,53,51,54,51,55,51,56,51,57,52,48,52,49,52,50,52,51,52,52,52,53,52,54,52,55,52,56,52,57]) (List.append [53,48,53,49,53,50,53,51,53,52,53,53,53,54,53,55,53,56,53,57,54,48,54,49,54,50,54,51,54,52,54,53,54,54,54,55,54,56,54,57,55,48,55,49,55,50,55,51,55,52] [55,53,55,54,55,55,55,56,55,57,56,48,56,49,56,50,56,51,56,52,56,53,56,54,56,55,56,56,56,57,57,48,57,49,57,50,57,51,57,52,57,53,57,54,57,55,57,56,57,57])) }) (.int .u32 (IntKind.wrap .u32 (IntKind.wrap .u32 (Int.tdiv (Int.tmod (IntKind.wrap .u32 (Int.tmod b 100000000)) 10000) 100)*2)))) fun g=>.unI .u8 g fun k=>.need (0<=wrap .i64 (a-3)/\wrap .i64 (a-3)<(↑c:Int)) (.someA d fun l=>.ne (.pointer (some (l.add ((wrap .i64 (a-3)).toNat*1)))) (.pointer (some (e.add ((wrap .i64 (a-3)).toNat*1)))) (.nds [.val (.int .u32 (IntKind.wrap .u32 (IntKind.wrap .u32 (Int.tdiv (Int.tmod (IntKind.wrap .u32 (Int.tmod b 100000000)) 10000) 100)*2))),.val (.int .i64 (wrap .i64 (a-4))),a,.S d c f,.val (.int .i64 (wrap .i64 (a-3))),a,.S d c f] (.store ((e.add ((wrap .i64 (a-3)).toNat*1)).add 0) (.int .u8 i) (.nds [.val (.int .i64 (wrap .i64 (a-4))),a,.S d c f] (.need (0<=wrap .i64 (a-4)/\wrap .i64 (a-4)<(↑c:Int)) (.someA d fun e=>.store ((e.add ((wrap .i64 (a-4)).toNat*1)).add 0) (.int .u8 k) (.ag [])))))))) (.store ((e.add ((wrap .i64 (a-3)).toNat*1)).add 0) (.int .u8 i) (.nds [.val (.int .u32 (IntKind.wrap .u32 (IntKind.wrap .u32 (Int.tdiv (Int.tmod (IntKind.wrap .u32 (Int.tmod b 100000000)) 10000) 100)*2))),.val (.int .i64 (wrap .i64 (a-4))),a,.S d c f] (.sem false (Instr.index 9 (.string { data:=List.toArray (List.append (List.append [48,48,48,49,48,50,48,51,48,52,48,53,48,54,48,55,48,56,48,57,49,48,49,49,49,50,49,51,49,52,49,53,49,54,49,55,49,56,49,57,50,48,50,49,50,50,50,51,50,52] [50,53,50,54,50,55,50,56,50,57,51,48,51,49,51,50,51,51,51,52,51,53,51,54,51,55,51,56,51,57,52,48,52,49,52,50,52,51,52,52,52,53,52,54,52,55,52,56,52,57]) (List.append [53,48,53,49,53,50,53,51,53,52,53,53,53,54,53,55,53,56,53,57,54,48,54,49,54,50,54,51,54,52,54,53,54,54,54,55,54,56,54,57,55,48,55,49,55,50,55,51,55,52] [55,53,55,54,55,55,55,56,55,57,56,48,56,49,56,50,56,51,56,52,56,53,56,54,56,55,56,56,56,57,57,48,57,49,57,50,57,51,57,52,57,53,57,54,57,55,57,56,57,57])) }) (.int .u32 (IntKind.wrap .u32 (IntKind.wrap .u32 (Int.tdiv (Int.tmod (IntKind.wrap .u32 (Int.tmod b 100000000)) 10000) 100)*2)))) fun g=>.unI .u8 g fun b=>.nds [.val (.int .i64 (wrap .i64 (a-4))),a,.S d c f] (.need (0<=wrap .i64 (a-4)/\wrap .i64 (a-4)<(↑c:Int)) (.someA d fun e=>.store ((e.add ((wrap .i64 (a-4)).toNat*1)).add 0) (.int .u8 b) (.ag []))))))))) (.sem false (Instr.index 9 (.string { data:=List.toArray (List.append (List.append [48,48,48,49,48,50,48,51,48,52,48,53,48,54,48,55,48,56,48,57,49,48,49,49,49,50,49,51,49,52,49,53,49,54,49,55,49,56,49,57,50,48,50,49,50,50,50,51,50,52] [50,53,50,54,50,55,50,56,50,57,51,48,51,49,51,50,51,51,51,52,51,53,51,54,51,55,51,56,51,57,52,48,52,49,52,50,52,51,52,52,52,53,52,54,52,55,52,56,52,57]) (List.append [53,48,53,49,53,50,53,51,53,52,53,53,53,54,53,55,53,56,53,57,54,48,54,49,54,50,54,51,54,52,54,53,54,54,54,55,54,56,54,57,55,48,55,49,55,50,55,51,55,52] [55,53,55,54,55,55,55,56,55,57,56,48,56,49,56,50,56,51,56,52,56,53,56,54,56,55,56,56,56,57,57,48,57,49,57,50,57,51,57,52,57,53,57,54,57,55,57,56,57,57])) }) (.int .u32 (IntKind.wrap .u32 (IntKind.wrap .u32 (Int.tdiv (Int.tmod (IntKind.wrap .u32 (Int.tmod b 100000000)) 10000) 100)*2)))) fun g=>.unI .u8 g fun i=>.nds [.val (.int .u32 (IntKind.wrap .u32 (IntKind.wrap .u32 (IntKind.wrap .u32 (Int.tdiv (Int.tmod (IntKind.wrap .u32 (Int.tmod b 100000000)) 10000) 100)*2)+1))),.val (.int .u32 (IntKind.wrap .u32 (IntKind.wrap .u32 (Int.tdiv (Int.tmod (IntKind.wrap .u32 (Int.tmod b 100000000)) 10000) 100)*2))),.val (.int .i64 (wrap .i64 (a-4))),a,.S d c f,.val (.int .i64 (wrap .i64 (a-3))),a,.S d c f] (.sem false (Instr.index 9 (.string { data:=List.toArray (List.append (List.append [48,48,48,49,48,50,48,51,48,52,48,53,48,54,48,55,48,56,48,57,49,48,49,49,49,50,49,51,49,52,49,53,49,54,49,55,49,56,49,57,50,48,50,49,50,50,50,51,50,52] [50,53,50,54,50,55,50,56,50,57,51,48,51,49,51,50,51,51,51,52,51,53,51,54,51,55,51,56,51,57,52,48,52,49,52,50,52,51,52,52,52,53,52,54,52,55,52,56,52,57]) (List.append [53,48,53,49,53,50,53,51,53,52,53,53,53,54,53,55,53,56,53,57,54,48,54,49,54,50,54,51,54,52,54,53,54,54,54,55,54,56,54,57,55,48,55,49,55,50,55,51,55,52] [55,53,55,54,55,55,55,56,55,57,56,48,56,49,56,50,56,51,56,52,56,53,56,54,56,55,56,56,56,57,57,48,57,49,57,50,57,51,57,52,57,53,57,54,57,55,57,56,57,57])) }) (.int .u32 (IntKind.wrap .u32 (IntKind.wrap .u32 (IntKind.wrap .u32 (Int.tdiv (Int.tmod (IntKind.wrap .u32 (Int.tmod b 100000000)) 10000) 100)*2)+1)))) fun g=>.unI .u8 g fun k=>.nds [.val (.int .u32 (IntKind.wrap .u32 (IntKind.wrap .u32 (Int.tdiv (Int.tmod (IntKind.wrap .u32 (Int.tmod b 100000000)) 10000) 100)*2))),.val (.int .i64 (wrap .i64 (a-4))),a,.S d c f,.val (.int .i64 (wrap .i64 (a-3))),a,.S d c f] (.need (0<=wrap .i64 (a-3)/\wrap .i64 (a-3)<(↑c:Int)) (.someA d fun e=>.store ((e.add ((wrap .i64 (a-3)).toNat*1)).add 0) (.int .u8 k) (.nds [.val (.int .i64 (wrap .i64 (a-4))),a,.S d c f] (.need (0<=wrap .i64 (a-4)/\wrap .i64 (a-4)<(↑c:Int)) (.someA d fun e=>.store ((e.add ((wrap .i64 (a-4)).toNat*1)).add 0) (.int .u8 i) (.ag []))))))))) (fun j=>.unNil j (.blk (.both (.sem false (Instr.index 9 (.string { data:=List.toArray (List.append (List.append [48,48,48,49,48,50,48,51,48,52,48,53,48,54,48,55,48,56,48,57,49,48,49,49,49,50,49,51,49,52,49,53,49,54,49,55,49,56,49,57,50,48,50,49,50,50,50,51,50,52] [50,53,50,54,50,55,50,56,50,57,51,48,51,49,51,50,51,51,51,52,51,53,51,54,51,55,51,56,51,57,52,48,52,49,52,50,52,51,52,52,52,53,52,54,52,55,52,56,52,57]) (List.append [53,48,53,49,53,50,53,51,53,52,53,53,53,54,53,55,53,56,53,57,54,48,54,49,54,50,54,51,54,52,54,53,54,54,54,55,54,56,54,57,55,48,55,49,55,50,55,51,55,52] [55,53,55,54,55,55,55,56,55,57,56,48,56,49,56,50,56,51,56,52,56,53,56,54,56,55,56,56,56,57,57,48,57,49,57,50,57,51,57,52,57,53,57,54,57,55,57,56,57,57])) }) (.int .u32 (IntKind.wrap .u32 (IntKind.wrap .u32 (Int.tmod (IntKind.wrap .u32 (Int.tdiv (IntKind.wrap .u32 (Int.tmod b 100000000)) 10000)) 100*2)+1)))) fun g=>.unI .u8 g fun i=>.nds [.val (.int .u32 (IntKind.wrap .u32 (Int.tmod (IntKind.wrap .u32 (Int.tdiv (IntKind.wrap .u32 (Int.tmod b 100000000)) 10000)) 100*2))),.val (.int .u32 (IntKind.wrap .u32 (Int.tmod (IntKind.wrap .u32 (Int.tdiv (IntKind.wrap .u32 (Int.tmod b 100000000)) 10000)) 100*2))),.val (.int .i64 (wrap .i64 (a-6))),a,.S d c f,.val (.int .i64 (wrap .i64 (a-5))),a,.S d c f] (.need (0<=wrap .i64 (a-5)/\wrap .i64 (a-5)<(↑c:Int)) (.someA d fun e=>.both (.sem false (Instr.index 9 (.string { data:=List.toArray (List.append (List.append [48,48,48,49,48,50,48,51,48,52,48,53,48,54,48,55,48,56,48,57,49,48,49,49,49,50,49,51,49,52,49,53,49,54,49,55,49,56,49,57,50,48,50,49,50,50,50,51,50,52] [50,53,50,54,50,55,50,56,50,57,51,48,51,49,51,50,51,51,51,52,51,53,51,54,51,55,51,56,51,57,52,48,52,49,52,50,52,51,52,52,52,53,52,54,52,55,52,56,52,57]) (List.append [53,48,53,49,53,50,53,51,53,52,53,53,53,54,53,55,53,56,53,57,54,48,54,49,54,50,54,51,54,52,54,53,54,54,54,55,54,56,54,57,55,48,55,49,55,50,55,51,55,52] [55,53,55,54,55,55,55,56,55,57,56,48,56,49,56,50,56,51,56,52,56,53,56,54,56,55,56,56,56,57,57,48,57,49,57,50,57,51,57,52,57,53,57,54,57,55,57,56,57,57])) }) (.int .u32 (IntKind.wrap .u32 (Int.tmod (IntKind.wrap .u32 (Int.tdiv (IntKind.wrap .u32 (Int.tmod b 100000000)) 10000)) 100*2)))) fun g=>.unI .u8 g fun k=>.need (0<=wrap .i64 (a-5)/\wrap .i64 (a-5)<(↑c:Int)) (.someA d fun l=>.ne (.pointer (some (l.add ((wrap .i64 (a-5)).toNat*1)))) (.pointer (some (e.add ((wrap .i64 (a-5)).toNat*1)))) (.nds [.val (.int .u32 (IntKind.wrap .u32 (Int.tmod (IntKind.wrap .u32 (Int.tdiv (IntKind.wrap .u32 (Int.tmod b 100000000)) 10000)) 100*2))),.val (.int .i64 (wrap .i64 (a-6))),a,.S d c f,.val (.int .i64 (wrap .i64 (a-5))),a,.S d c f] (.store ((e.add ((wrap .i64 (a-5)).toNat*1)).add 0) (.int .u8 i) (.nds [.val (.int .i64 (wrap .i64 (a-6))),a,.S d c f] (.need (0<=wrap .i64 (a-6)/\wrap .i64 (a-6)<(↑c:Int)) (.someA d fun e=>.store ((e.add ((wrap .i64 (a-6)).toNat*1)).add 0) (.int .u8 k) (.ag [])))))))) (.store ((e.add ((wrap .i64 (a-5)).toNat*1)).add 0) (.int .u8 i) (.nds [.val (.int .u32 (IntKind.wrap .u32 (Int.tmod (IntKind.wrap .u32 (Int.tdiv (IntKind.wrap .u32 (Int.tmod b 100000000)) 10000)) 100*2))),.val (.int .i64 (wrap .i64 (a-6))),a,.S d c f] (.sem false (Instr.index 9 (.string { data:=List.toArray (List.append (List.append [48,48,48,49,48,50,48,51,48,52,48,53,48,54,48,55,48,56,48,57,49,48,49,49,49,50,49,51,49,52,49,53,49,54,49,55,49,56,49,57,50,48,50,49,50,50,50,51,50,52] [50,53,50,54,50,55,50,56,50,57,51,48,51,49,51,50,51,51,51,52,51,53,51,54,51,55,51,56,51,57,52,48,52,49,52,50,52,51,52,52,52,53,52,54,52,55,52,56,52,57]) (List.append [53,48,53,49,53,50,53,51,53,52,53,53,53,54,53,55,53,56,53,57,54,48,54,49,54,50,54,51,54,52,54,53,54,54,54,55,54,56,54,57,55,48,55,49,55,50,55,51,55,52] [55,53,55,54,55,55,55,56,55,57,56,48,56,49,56,50,56,51,56,52,56,53,56,54,56,55,56,56,56,57,57,48,57,49,57,50,57,51,57,52,57,53,57,54,57,55,57,56,57,57])) }) (.int .u32 (IntKind.wrap .u32 (Int.tmod (IntKind.wrap .u32 (Int.tdiv (IntKind.wrap .u32 (Int.tmod b 100000000)) 10000)) 100*2)))) fun g=>.unI .u8 g fun b=>.nds [.val (.int .i64 (wrap .i64 (a-6))),a,.S d c f] (.need (0<=wrap .i64 (a-6)/\wrap .i64 (a-6)<(↑c:Int)) (.someA d fun e=>.store ((e.add ((wrap .i64 (a-6)).toNat*1)).add 0) (.int .u8 b) (.ag []))))))))) (.sem false (Instr.index 9 (.string { data:=List.toArray (List.append (List.append [48,48,48,49,48,50,48,51,48,52,48,53,48,54,48,55,48,56,48,57,49,48,49,49,49,50,49,51,49,52,49,53,49,54,49,55,49,56,49,57,50,48,50,49,50,50,50,51,50,52] [50,53,50,54,50,55,50,56,50,57,51,48,51,49,51,50,51,51,51,52,51,53,51,54,51,55,51,56,51,57,52,48,52,49,52,50,52,51,52,52,52,53,52,54,52,55,52,56,52,57]) (List.append [53,48,53,49,53,50,53,51,53,52,53,53,53,54,53,55,53,56,53,57,54,48,54,49,54,50,54,51,54,52,54,53,54,54,54,55,54,56,54,57,55,48,55,49,55,50,55,51,55,52] [55,53,55,54,55,55,55,56,55,57,56,48,56,49,56,50,56,51,56,52,56,53,56,54,56,55,56,56,56,57,57,48,57,49,57,50,57,51,57,52,57,53,57,54,57,55,57,56,57,57])) }) (.int .u32 (IntKind.wrap .u32 (Int.tmod (IntKind.wrap .u32 (Int.tdiv (IntKind.wrap .u32 (Int.tmod b 100000000)) 10000)) 100*2)))) fun g=>.unI .u8 g fun i=>.nds [.val (.int .u32 (IntKind.wrap .u32 (IntKind.wrap .u32 (Int.tmod (IntKind.wrap .u32 (Int.tdiv (IntKind.wrap .u32 (Int.tmod b 100000000)) 10000)) 100*2)+1))),.val (.int .u32 (IntKind.wrap .u32 (Int.tmod (IntKind.wrap .u32 (Int.tdiv (IntKind.wrap .u32 (Int.tmod b 100000000)) 10000)) 100*2))),.val (.int .i64 (wrap .i64 (a-6))),a,.S d c f,.val (.int .i64 (wrap .i64 (a-5))),a,.S d c f] (.sem false (Instr.index 9 (.string { data:=List.toArray (List.append (List.append [48,48,48,49,48,50,48,51,48,52,48,53,48,54,48,55,48,56,48,57,49,48,49,49,49,50,49,51,49,52,49,53,49,54,49,55,49,56,49,57,50,48,50,49,50,50,50,51,50,52] [50,53,50,54,50,55,50,56,50,57,51,48,51,49,51,50,51,51,51,52,51,53,51,54,51,55,51,56,51,57,52,48,52,49,52,50,52,51,52,52,52,53,52,54,52,55,52,56,52,57]) (List.append [53,48,53,49,53,50,53,51,53,52,53,53,53,54,53,55,53,56,53,57,54,48,54,49,54,50,54,51,54,52,54,53,54,54,54,55,54,56,54,57,55,48,55,49,55,50,55,51,55,52] [55,53,55,54,55,55,55,56,55,57,56,48,56,49,56,50,56,51,56,52,56,53,56,54,56,55,56,56,56,57,57,48,57,49,57,50,57,51,57,52,57,53,57,54,57,55,57,56,57,57])) }) (.int .u32 (IntKind.wrap .u32 (IntKind.wrap .u32 (Int.tmod (IntKind.wrap .u32 (Int.tdiv (IntKind.wrap .u32 (Int.tmod b 100000000)) 10000)) 100*2)+1)))) fun g=>.unI .u8 g fun k=>.nds [.val (.int .u32 (IntKind.wrap .u32 (Int.tmod (IntKind.wrap .u32 (Int.tdiv (IntKind.wrap .u32 (Int.tmod b 100000000)) 10000)) 100*2))),.val (.int .i64 (wrap .i64 (a-6))),a,.S d c f,.val (.int .i64 (wrap .i64 (a-5))),a,.S d c f] (.need (0<=wrap .i64 (a-5)/\wrap .i64 (a-5)<(↑c:Int)) (.someA d fun e=>.store ((e.add ((wrap .i64 (a-5)).toNat*1)).add 0) (.int .u8 k) (.nds [.val (.int .i64 (wrap .i64 (a-6))),a,.S d c f] (.need (0<=wrap .i64 (a-6)/\wrap .i64 (a-6)<(↑c:Int)) (.someA d fun e=>.store ((e.add ((wrap .i64 (a-6)).toNat*1)).add 0) (.int .u8 i) (.ag []))))))))) (fun j=>.unNil j (.both (.sem false (Instr.index 9 (.string { data:=List.toArray (List.append (List.append [48,48,48,49,48,50,48,51,48,52,48,53,48,54,48,55,48,56,48,57,49,48,49,49,49,50,49,51,49,52,49,53,49,54,49,55,49,56,49,57,50,48,50,49,50,50,50,51,50,52] [50,53,50,54,50,55,50,56,50,57,51,48,51,49,51,50,51,51,51,52,51,53,51,54,51,55,51,56,51,57,52,48,52,49,52,50,52,51,52,52,52,53,52,54,52,55,52,56,52,57]) (List.append [53,48,53,49,53,50,53,51,53,52,53,53,53,54,53,55,53,56,53,57,54,48,54,49,54,50,54,51,54,52,54,53,54,54,54,55,54,56,54,57,55,48,55,49,55,50,55,51,55,52] [55,53,55,54,55,55,55,56,55,57,56,48,56,49,56,50,56,51,56,52,56,53,56,54,56,55,56,56,56,57,57,48,57,49,57,50,57,51,57,52,57,53,57,54,57,55,57,56,57,57])) }) (.int .u32 (IntKind.wrap .u32 (IntKind.wrap .u32 (IntKind.wrap .u32 (Int.tdiv (IntKind.wrap .u32 (Int.tdiv (IntKind.wrap .u32 (Int.tmod b 100000000)) 10000)) 100)*2)+1)))) fun g=>.unI .u8 g fun i=>.nds [.val (.int .u32 (IntKind.wrap .u32 (IntKind.wrap .u32 (Int.tdiv (IntKind.wrap .u32 (Int.tdiv (IntKind.wrap .u32 (Int.tmod b 100000000)) 10000)) 100)*2))),.val (.int .u32 (IntKind.wrap .u32 (IntKind.wrap .u32 (Int.tdiv (IntKind.wrap .u32 (Int.tdiv (IntKind.wrap .u32 (Int.tmod b 100000000)) 10000)) 100)*2))),.val (.int .i64 (wrap .i64 (a-8))),a,.S d c f,.val (.int .i64 (wrap .i64 (a-7))),a,.S d c f] (.need (0<=wrap .i64 (a-7)/\wrap .i64 (a-7)<(↑c:Int)) (.someA d fun e=>.both (.sem false (Instr.index 9 (.string { data:=List.toArray (List.append (List.append [48,48,48,49,48,50,48,51,48,52,48,53,48,54,48,55,48,56,48,57,49,48,49,49,49,50,49,51,49,52,49,53,49,54,49,55,49,56,49,57,50,48,50,49,50,50,50,51,50,52] [50,53,50,54,50,55,50,56,50,57,51,48,51,49,51,50,51,51,51,52,51,53,51,54,51,55,51,56,51,57,52,48,52,49,52,50,52,51,52,52,52,53,52,54,52,55,52,56,52,57]) (List.append [53,48,53,49,53,50,53,51,53,52,53,53,53,54,53,55,53,56,53,57,54,48,54,49,54,50,54,51,54,52,54,53,54,54,54,55,54,56,54,57,55,48,55,49,55,50,55,51,55,52] [55,53,55,54,55,55,55,56,55,57,56,48,56,49,56,50,56,51,56,52,56,53,56,54,56,55,56,56,56,57,57,48,57,49,57,50,57,51,57,52,57,53,57,54,57,55,57,56,57,57])) }) (.int .u32 (IntKind.wrap .u32 (IntKind.wrap .u32 (Int.tdiv (IntKind.wrap .u32 (Int.tdiv (IntKind.wrap .u32 (Int.tmod b 100000000)) 10000)) 100)*2)))) fun g=>.unI .u8 g fun k=>.need (0<=wrap .i64 (a-7)/\wrap .i64 (a-7)<(↑c:Int)) (.someA d fun l=>.ne (.pointer (some (l.add ((wrap .i64 (a-7)).toNat*1)))) (.pointer (some (e.add ((wrap .i64 (a-7)).toNat*1)))) (.nds [.val (.int .u32 (IntKind.wrap .u32 (IntKind.wrap .u32 (Int.tdiv (IntKind.wrap .u32 (Int.tdiv (IntKind.wrap .u32 (Int.tmod b 100000000)) 10000)) 100)*2))),.val (.int .i64 (wrap .i64 (a-8))),a,.S d c f,.val (.int .i64 (wrap .i64 (a-7))),a,.S d c f] (.store ((e.add ((wrap .i64 (a-7)).toNat*1)).add 0) (.int .u8 i) (.nds [.val (.int .i64 (wrap .i64 (a-8))),a,.S d c f] (.need (0<=wrap .i64 (a-8)/\wrap .i64 (a-8)<(↑c:Int)) (.someA d fun e=>.store ((e.add ((wrap .i64 (a-8)).toNat*1)).add 0) (.int .u8 k) (.ag [.int .u64 (IntKind.wrap .u64 (Int.tdiv b 100000000)),.int .i64 (wrap .i64 (a-8))])))))))) (.store ((e.add ((wrap .i64 (a-7)).toNat*1)).add 0) (.int .u8 i) (.nds [.val (.int .u32 (IntKind.wrap .u32 (IntKind.wrap .u32 (Int.tdiv (IntKind.wrap .u32 (Int.tdiv (IntKind.wrap .u32 (Int.tmod b 100000000)) 10000)) 100)*2))),.val (.int .i64 (wrap .i64 (a-8))),a,.S d c f] (.sem false (Instr.index 9 (.string { data:=List.toArray (List.append (List.append [48,48,48,49,48,50,48,51,48,52,48,53,48,54,48,55,48,56,48,57,49,48,49,49,49,50,49,51,49,52,49,53,49,54,49,55,49,56,49,57,50,48,50,49,50,50,50,51,50,52] [50,53,50,54,50,55,50,56,50,57,51,48,51,49,51,50,51,51,51,52,51,53,51,54,51,55,51,56,51,57,52,48,52,49,52,50,52,51,52,52,52,53,52,54,52,55,52,56,52,57]) (List.append [53,48,53,49,53,50,53,51,53,52,53,53,53,54,53,55,53,56,53,57,54,48,54,49,54,50,54,51,54,52,54,53,54,54,54,55,54,56,54,57,55,48,55,49,55,50,55,51,55,52] [55,53,55,54,55,55,55,56,55,57,56,48,56,49,56,50,56,51,56,52,56,53,56,54,56,55,56,56,56,57,57,48,57,49,57,50,57,51,57,52,57,53,57,54,57,55,57,56,57,57])) }) (.int .u32 (IntKind.wrap .u32 (IntKind.wrap .u32 (Int.tdiv (IntKind.wrap .u32 (Int.tdiv (IntKind.wrap .u32 (Int.tmod b 100000000)) 10000)) 100)*2)))) fun g=>.unI .u8 g fun k=>.nds [.val (.int .i64 (wrap .i64 (a-8))),a,.S d c f] (.need (0<=wrap .i64 (a-8)/\wrap .i64 (a-8)<(↑c:Int)) (.someA d fun e=>.store ((e.add ((wrap .i64 (a-8)).toNat*1)).add 0) (.int .u8 k) (.ag [.int .u64 (IntKind.wrap .u64 (Int.tdiv b 100000000)),.int .i64 (wrap .i64 (a-8))]))))))))) (.sem false (Instr.index 9 (.string { data:=List.toArray (List.append (List.append [48,48,48,49,48,50,48,51,48,52,48,53,48,54,48,55,48,56,48,57,49,48,49,49,49,50,49,51,49,52,49,53,49,54,49,55,49,56,49,57,50,48,50,49,50,50,50,51,50,52] [50,53,50,54,50,55,50,56,50,57,51,48,51,49,51,50,51,51,51,52,51,53,51,54,51,55,51,56,51,57,52,48,52,49,52,50,52,51,52,52,52,53,52,54,52,55,52,56,52,57]) (List.append [53,48,53,49,53,50,53,51,53,52,53,53,53,54,53,55,53,56,53,57,54,48,54,49,54,50,54,51,54,52,54,53,54,54,54,55,54,56,54,57,55,48,55,49,55,50,55,51,55,52] [55,53,55,54,55,55,55,56,55,57,56,48,56,49,56,50,56,51,56,52,56,53,56,54,56,55,56,56,56,57,57,48,57,49,57,50,57,51,57,52,57,53,57,54,57,55,57,56,57,57])) }) (.int .u32 (IntKind.wrap .u32 (IntKind.wrap .u32 (Int.tdiv (IntKind.wrap .u32 (Int.tdiv (IntKind.wrap .u32 (Int.tmod b 100000000)) 10000)) 100)*2)))) fun g=>.unI .u8 g fun i=>.nds [.val (.int .u32 (IntKind.wrap .u32 (IntKind.wrap .u32 (IntKind.wrap .u32 (Int.tdiv (IntKind.wrap .u32 (Int.tdiv (IntKind.wrap .u32 (Int.tmod b 100000000)) 10000)) 100)*2)+1))),.val (.int .u32 (IntKind.wrap .u32 (IntKind.wrap .u32 (Int.tdiv (IntKind.wrap .u32 (Int.tdiv (IntKind.wrap .u32 (Int.tmod b 100000000)) 10000)) 100)*2))),.val (.int .i64 (wrap .i64 (a-8))),a,.S d c f,.val (.int .i64 (wrap .i64 (a-7))),a,.S d c f] (.sem false (Instr.index 9 (.string { data:=List.toArray (List.append (List.append [48,48,48,49,48,50,48,51,48,52,48,53,48,54,48,55,48,56,48,57,49,48,49,49,49,50,49,51,49,52,49,53,49,54,49,55,49,56,49,57,50,48,50,49,50,50,50,51,50,52] [50,53,50,54,50,55,50,56,50,57,51,48,51,49,51,50,51,51,51,52,51,53,51,54,51,55,51,56,51,57,52,48,52,49,52,50,52,51,52,52,52,53,52,54,52,55,52,56,52,57]) (List.append [53,48,53,49,53,50,53,51,53,52,53,53,53,54,53,55,53,56,53,57,54,48,54,49,54,50,54,51,54,52,54,53,54,54,54,55,54,56,54,57,55,48,55,49,55,50,55,51,55,52] [55,53,55,54,55,55,55,56,55,57,56,48,56,49,56,50,56,51,56,52,56,53,56,54,56,55,56,56,56,57,57,48,57,49,57,50,57,51,57,52,57,53,57,54,57,55,57,56,57,57])) }) (.int .u32 (IntKind.wrap .u32 (IntKind.wrap .u32 (IntKind.wrap .u32 (Int.tdiv (IntKind.wrap .u32 (Int.tdiv (IntKind.wrap .u32 (Int.tmod b 100000000)) 10000)) 100)*2)+1)))) fun g=>.unI .u8 g fun k=>.nds [.val (.int .u32 (IntKind.wrap .u32 (IntKind.wrap .u32 (Int.tdiv (IntKind.wrap .u32 (Int.tdiv (IntKind.wrap .u32 (Int.tmod b 100000000)) 10000)) 100)*2))),.val (.int .i64 (wrap .i64 (a-8))),a,.S d c f,.val (.int .i64 (wrap .i64 (a-7))),a,.S d c f] (.need (0<=wrap .i64 (a-7)/\wrap .i64 (a-7)<(↑c:Int)) (.someA d fun e=>.store ((e.add ((wrap .i64 (a-7)).toNat*1)).add 0) (.int .u8 k) (.nds [.val (.int .i64 (wrap .i64 (a-8))),a,.S d c f] (.need (0<=wrap .i64 (a-8)/\wrap .i64 (a-8)<(↑c:Int)) (.someA d fun e=>.store ((e.add ((wrap .i64 (a-8)).toNat*1)).add 0) (.int .u8 i) (.ag [.int .u64 (IntKind.wrap .u64 (Int.tdiv b 100000000)),.int .i64 (wrap .i64 (a-8))])))))))))) (fun j=>.unNil j (.rn [.int .u64 (IntKind.wrap .u64 (Int.tdiv b 100000000)),a])) fun n o=>.fail)) (fun j=>.unNil j (.rn [.int .u64 (IntKind.wrap .u64 (Int.tdiv b 100000000)),a])) fun n o=>.fail)) (fun j=>.unNil j (.rn [.int .u64 (IntKind.wrap .u64 (Int.tdiv b 100000000)),a])) fun n o=>.fail)))))))) else .bk [.int .u64 b,a])) (fun j=>.popI .u64 j fun b j=>.pi j fun a j=>.unNil j (.blk (bif decide (a>=4) then .need ((10000:Int)≠0) (.need ((10000:Int)≠0) (.need ((100:Int)≠0) (.need ((100:Int)≠0) (.blk (.both (.sem false (Instr.index 9 (.string { data:=List.toArray (List.append (List.append [48,48,48,49,48,50,48,51,48,52,48,53,48,54,48,55,48,56,48,57,49,48,49,49,49,50,49,51,49,52,49,53,49,54,49,55,49,56,49,57,50,48,50,49,50,50,50,51,50,52] [50,53,50,54,50,55,50,56,50,57,51,48,51,49,51,50,51,51,51,52,51,53,51,54,51,55,51,56,51,57,52,48,52,49,52,50,52,51,52,52,52,53,52,54,52,55,52,56,52,57]) (List.append [53,48,53,49,53,50,53,51,53,52,53,53,53,54,53,55,53,56,53,57,54,48,54,49,54,50,54,51,54,52,54,53,54,54,54,55,54,56,54,57,55,48,55,49,55,50,55,51,55,52] [55,53,55,54,55,55,55,56,55,57,56,48,56,49,56,50,56,51,56,52,56,53,56,54,56,55,56,56,56,57,57,48,57,49,57,50,57,51,57,52,57,53,57,54,57,55,57,56,57,57])) }) (.int .u32 (IntKind.wrap .u32 (IntKind.wrap .u32 (Int.tmod (Int.tmod (IntKind.wrap .u32 b) 10000) 100*2)+1)))) fun g=>.unI .u8 g fun i=>.nds [.val (.int .u32 (IntKind.wrap .u32 (Int.tmod (Int.tmod (IntKind.wrap .u32 b) 10000) 100*2))),.val (.int .u32 (IntKind.wrap .u32 (Int.tmod (Int.tmod (IntKind.wrap .u32 b) 10000) 100*2))),.val (.int .i64 (wrap .i64 (a-2))),a,.S d c f,.val (.int .i64 (wrap .i64 (a-1))),a,.S d c f] (.need (0<=wrap .i64 (a-1)/\wrap .i64 (a-1)<(↑c:Int)) (.someA d fun e=>.both (.sem false (Instr.index 9 (.string { data:=List.toArray (List.append (List.append [48,48,48,49,48,50,48,51,48,52,48,53,48,54,48,55,48,56,48,57,49,48,49,49,49,50,49,51,49,52,49,53,49,54,49,55,49,56,49,57,50,48,50,49,50,50,50,51,50,52] [50,53,50,54,50,55,50,56,50,57,51,48,51,49,51,50,51,51,51,52,51,53,51,54,51,55,51,56,51,57,52,48,52,49,52,50,52,51,52,52,52,53,52,54,52,55,52,56,52,57]) (List.append [53,48,53,49,53,50,53,51,53,52,53,53,53,54,53,55,53,56,53,57,54,48,54,49,54,50,54,51,54,52,54,53,54,54,54,55,54,56,54,57,55,48,55,49,55,50,55,51,55,52] [55,53,55,54,55,55,55,56,55,57,56,48,56,49,56,50,56,51,56,52,56,53,56,54,56,55,56,56,56,57,57,48,57,49,57,50,57,51,57,52,57,53,57,54,57,55,57,56,57,57])) }) (.int .u32 (IntKind.wrap .u32 (Int.tmod (Int.tmod (IntKind.wrap .u32 b) 10000) 100*2)))) fun g=>.unI .u8 g fun k=>.need (0<=wrap .i64 (a-1)/\wrap .i64 (a-1)<(↑c:Int)) (.someA d fun l=>.ne (.pointer (some (l.add ((wrap .i64 (a-1)).toNat*1)))) (.pointer (some (e.add ((wrap .i64 (a-1)).toNat*1)))) (.nds [.val (.int .u32 (IntKind.wrap .u32 (Int.tmod (Int.tmod (IntKind.wrap .u32 b) 10000) 100*2))),.val (.int .i64 (wrap .i64 (a-2))),a,.S d c f,.val (.int .i64 (wrap .i64 (a-1))),a,.S d c f] (.store ((e.add ((wrap .i64 (a-1)).toNat*1)).add 0) (.int .u8 i) (.nds [.val (.int .i64 (wrap .i64 (a-2))),a,.S d c f] (.need (0<=wrap .i64 (a-2)/\wrap .i64 (a-2)<(↑c:Int)) (.someA d fun e=>.store ((e.add ((wrap .i64 (a-2)).toNat*1)).add 0) (.int .u8 k) (.ag [])))))))) (.store ((e.add ((wrap .i64 (a-1)).toNat*1)).add 0) (.int .u8 i) (.nds [.val (.int .u32 (IntKind.wrap .u32 (Int.tmod (Int.tmod (IntKind.wrap .u32 b) 10000) 100*2))),.val (.int .i64 (wrap .i64 (a-2))),a,.S d c f] (.sem false (Instr.index 9 (.string { data:=List.toArray (List.append (List.append [48,48,48,49,48,50,48,51,48,52,48,53,48,54,48,55,48,56,48,57,49,48,49,49,49,50,49,51,49,52,49,53,49,54,49,55,49,56,49,57,50,48,50,49,50,50,50,51,50,52] [50,53,50,54,50,55,50,56,50,57,51,48,51,49,51,50,51,51,51,52,51,53,51,54,51,55,51,56,51,57,52,48,52,49,52,50,52,51,52,52,52,53,52,54,52,55,52,56,52,57]) (List.append [53,48,53,49,53,50,53,51,53,52,53,53,53,54,53,55,53,56,53,57,54,48,54,49,54,50,54,51,54,52,54,53,54,54,54,55,54,56,54,57,55,48,55,49,55,50,55,51,55,52] [55,53,55,54,55,55,55,56,55,57,56,48,56,49,56,50,56,51,56,52,56,53,56,54,56,55,56,56,56,57,57,48,57,49,57,50,57,51,57,52,57,53,57,54,57,55,57,56,57,57])) }) (.int .u32 (IntKind.wrap .u32 (Int.tmod (Int.tmod (IntKind.wrap .u32 b) 10000) 100*2)))) fun g=>.unI .u8 g fun b=>.nds [.val (.int .i64 (wrap .i64 (a-2))),a,.S d c f] (.need (0<=wrap .i64 (a-2)/\wrap .i64 (a-2)<(↑c:Int)) (.someA d fun e=>.store ((e.add ((wrap .i64 (a-2)).toNat*1)).add 0) (.int .u8 b) (.ag []))))))))) (.sem false (Instr.index 9 (.string { data:=List.toArray (List.append (List.append [48,48,48,49,48,50,48,51,48,52,48,53,48,54,48,55,48,56,48,57,49,48,49,49,49,50,49,51,49,52,49,53,49,54,49,55,49,56,49,57,50,48,50,49,50,50,50,51,50,52] [50,53,50,54,50,55,50,56,50,57,51,48,51,49,51,50,51,51,51,52,51,53,51,54,51,55,51,56,51,57,52,48,52,49,52,50,52,51,52,52,52,53,52,54,52,55,52,56,52,57]) (List.append [53,48,53,49,53,50,53,51,53,52,53,53,53,54,53,55,53,56,53,57,54,48,54,49,54,50,54,51,54,52,54,53,54,54,54,55,54,56,54,57,55,48,55,49,55,50,55,51,55,52] [55,53,55,54,55,55,55,56,55,57,56,48,56,49,56,50,56,51,56,52,56,53,56,54,56,55,56,56,56,57,57,48,57,49,57,50,57,51,57,52,57,53,57,54,57,55,57,56,57,57])) }) (.int .u32 (IntKind.wrap .u32 (Int.tmod (Int.tmod (IntKind.wrap .u32 b) 10000) 100*2)))) fun g=>.unI .u8 g fun i=>.nds [.val (.int .u32 (IntKind.wrap .u32 (IntKind.wrap .u32 (Int.tmod (Int.tmod (IntKind.wrap .u32 b) 10000) 100*2)+1))),.val (.int .u32 (IntKind.wrap .u32 (Int.tmod (Int.tmod (IntKind.wrap .u32 b) 10000) 100*2))),.val (.int .i64 (wrap .i64 (a-2))),a,.S d c f,.val (.int .i64 (wrap .i64 (a-1))),a,.S d c f] (.sem false (Instr.index 9 (.string { data:=List.toArray (List.append (List.append [48,48,48,49,48,50,48,51,48,52,48,53,48,54,48,55,48,56,48,57,49,48,49,49,49,50,49,51,49,52,49,53,49,54,49,55,49,56,49,57,50,48,50,49,50,50,50,51,50,52] [50,53,50,54,50,55,50,56,50,57,51,48,51,49,51,50,51,51,51,52,51,53,51,54,51,55,51,56,51,57,52,48,52,49,52,50,52,51,52,52,52,53,52,54,52,55,52,56,52,57]) (List.append [53,48,53,49,53,50,53,51,53,52,53,53,53,54,53,55,53,56,53,57,54,48,54,49,54,50,54,51,54,52,54,53,54,54,54,55,54,56,54,57,55,48,55,49,55,50,55,51,55,52] [55,53,55,54,55,55,55,56,55,57,56,48,56,49,56,50,56,51,56,52,56,53,56,54,56,55,56,56,56,57,57,48,57,49,57,50,57,51,57,52,57,53,57,54,57,55,57,56,57,57])) }) (.int .u32 (IntKind.wrap .u32 (IntKind.wrap .u32 (Int.tmod (Int.tmod (IntKind.wrap .u32 b) 10000) 100*2)+1)))) fun g=>.unI .u8 g fun k=>.nds [.val (.int .u32 (IntKind.wrap .u32 (Int.tmod (Int.tmod (IntKind.wrap .u32 b) 10000) 100*2))),.val (.int .i64 (wrap .i64 (a-2))),a,.S d c f,.val (.int .i64 (wrap .i64 (a-1))),a,.S d c f] (.need (0<=wrap .i64 (a-1)/\wrap .i64 (a-1)<(↑c:Int)) (.someA d fun e=>.store ((e.add ((wrap .i64 (a-1)).toNat*1)).add 0) (.int .u8 k) (.nds [.val (.int .i64 (wrap .i64 (a-2))),a,.S d c f] (.need (0<=wrap .i64 (a-2)/\wrap .i64 (a-2)<(↑c:Int)) (.someA d fun e=>.store ((e.add ((wrap .i64 (a-2)).toNat*1)).add 0) (.int .u8 i) (.ag []))))))))) (fun j=>.unNil j (.both (.sem false (Instr.index 9 (.string { data:=List.toArray (List.append (List.append [48,48,48,49,48,50,48,51,48,52,48,53,48,54,48,55,48,56,48,57,49,48,49,49,49,50,49,51,49,52,49,53,49,54,49,55,49,56,49,57,50,48,50,49,50,50,50,51,50,52] [50,53,50,54,50,55,50,56,50,57,51,48,51,49,51,50,51,51,51,52,51,53,51,54,51,55,51,56,51,57,52,48,52,49,52,50,52,51,52,52,52,53,52,54,52,55,52,56,52,57]) (List.append [53,48,53,49,53,50,53,51,53,52,53,53,53,54,53,55,53,56,53,57,54,48,54,49,54,50,54,51,54,52,54,53,54,54,54,55,54,56,54,57,55,48,55,49,55,50,55,51,55,52] [55,53,55,54,55,55,55,56,55,57,56,48,56,49,56,50,56,51,56,52,56,53,56,54,56,55,56,56,56,57,57,48,57,49,57,50,57,51,57,52,57,53,57,54,57,55,57,56,57,57])) }) (.int .u32 (IntKind.wrap .u32 (IntKind.wrap .u32 (IntKind.wrap .u32 (Int.tdiv (Int.tmod (IntKind.wrap .u32 b) 10000) 100)*2)+1)))) fun g=>.unI .u8 g fun i=>.nds [.val (.int .u32 (IntKind.wrap .u32 (IntKind.wrap .u32 (Int.tdiv (Int.tmod (IntKind.wrap .u32 b) 10000) 100)*2))),.val (.int .u32 (IntKind.wrap .u32 (IntKind.wrap .u32 (Int.tdiv (Int.tmod (IntKind.wrap .u32 b) 10000) 100)*2))),.val (.int .i64 (wrap .i64 (a-4))),a,.S d c f,.val (.int .i64 (wrap .i64 (a-3))),a,.S d c f] (.need (0<=wrap .i64 (a-3)/\wrap .i64 (a-3)<(↑c:Int)) (.someA d fun e=>.both (.sem false (Instr.index 9 (.string { data:=List.toArray (List.append (List.append [48,48,48,49,48,50,48,51,48,52,48,53,48,54,48,55,48,56,48,57,49,48,49,49,49,50,49,51,49,52,49,53,49,54,49,55,49,56,49,57,50,48,50,49,50,50,50,51,50,52] [50,53,50,54,50,55,50,56,50,57,51,48,51,49,51,50,51,51,51,52,51,53,51,54,51,55,51,56,51,57,52,48,52,49,52,50,52,51,52,52,52,53,52,54,52,55,52,56,52,57]) (List.append [53,48,53,49,53,50,53,51,53,52,53,53,53,54,53,55,53,56,53,57,54,48,54,49,54,50,54,51,54,52,54,53,54,54,54,55,54,56,54,57,55,48,55,49,55,50,55,51,55,52] [55,53,55,54,55,55,55,56,55,57,56,48,56,49,56,50,56,51,56,52,56,53,56,54,56,55,56,56,56,57,57,48,57,49,57,50,57,51,57,52,57,53,57,54,57,55,57,56,57,57])) }) (.int .u32 (IntKind.wrap .u32 (IntKind.wrap .u32 (Int.tdiv (Int.tmod (IntKind.wrap .u32 b) 10000) 100)*2)))) fun g=>.unI .u8 g fun k=>.need (0<=wrap .i64 (a-3)/\wrap .i64 (a-3)<(↑c:Int)) (.someA d fun l=>.ne (.pointer (some (l.add ((wrap .i64 (a-3)).toNat*1)))) (.pointer (some (e.add ((wrap .i64 (a-3)).toNat*1)))) (.nds [.val (.int .u32 (IntKind.wrap .u32 (IntKind.wrap .u32 (Int.tdiv (Int.tmod (IntKind.wrap .u32 b) 10000) 100)*2))),.val (.int .i64 (wrap .i64 (a-4))),a,.S d c f,.val (.int .i64 (wrap .i64 (a-3))),a,.S d c f] (.store ((e.add ((wrap .i64 (a-3)).toNat*1)).add 0) (.int .u8 i) (.nds [.val (.int .i64 (wrap .i64 (a-4))),a,.S d c f] (.need (0<=wrap .i64 (a-4)/\wrap .i64 (a-4)<(↑c:Int)) (.someA d fun e=>.store ((e.add ((wrap .i64 (a-4)).toNat*1)).add 0) (.int .u8 k) (.ag [.int .i64 (wrap .i64 (a-4)),.int .u32 (IntKind.wrap .u32 (Int.tdiv (IntKind.wrap .u32 b) 10000))])))))))) (.store ((e.add ((wrap .i64 (a-3)).toNat*1)).add 0) (.int .u8 i) (.nds [.val (.int .u32 (IntKind.wrap .u32 (IntKind.wrap .u32 (Int.tdiv (Int.tmod (IntKind.wrap .u32 b) 10000) 100)*2))),.val (.int .i64 (wrap .i64 (a-4))),a,.S d c f] (.sem false (Instr.index 9 (.string { data:=List.toArray (List.append (List.append [48,48,48,49,48,50,48,51,48,52,48,53,48,54,48,55,48,56,48,57,49,48,49,49,49,50,49,51,49,52,49,53,49,54,49,55,49,56,49,57,50,48,50,49,50,50,50,51,50,52] [50,53,50,54,50,55,50,56,50,57,51,48,51,49,51,50,51,51,51,52,51,53,51,54,51,55,51,56,51,57,52,48,52,49,52,50,52,51,52,52,52,53,52,54,52,55,52,56,52,57]) (List.append [53,48,53,49,53,50,53,51,53,52,53,53,53,54,53,55,53,56,53,57,54,48,54,49,54,50,54,51,54,52,54,53,54,54,54,55,54,56,54,57,55,48,55,49,55,50,55,51,55,52] [55,53,55,54,55,55,55,56,55,57,56,48,56,49,56,50,56,51,56,52,56,53,56,54,56,55,56,56,56,57,57,48,57,49,57,50,57,51,57,52,57,53,57,54,57,55,57,56,57,57])) }) (.int .u32 (IntKind.wrap .u32 (IntKind.wrap .u32 (Int.tdiv (Int.tmod (IntKind.wrap .u32 b) 10000) 100)*2)))) fun g=>.unI .u8 g fun k=>.nds [.val (.int .i64 (wrap .i64 (a-4))),a,.S d c f] (.need (0<=wrap .i64 (a-4)/\wrap .i64 (a-4)<(↑c:Int)) (.someA d fun e=>.store ((e.add ((wrap .i64 (a-4)).toNat*1)).add 0) (.int .u8 k) (.ag [.int .i64 (wrap .i64 (a-4)),.int .u32 (IntKind.wrap .u32 (Int.tdiv (IntKind.wrap .u32 b) 10000))]))))))))) (.sem false (Instr.index 9 (.string { data:=List.toArray (List.append (List.append [48,48,48,49,48,50,48,51,48,52,48,53,48,54,48,55,48,56,48,57,49,48,49,49,49,50,49,51,49,52,49,53,49,54,49,55,49,56,49,57,50,48,50,49,50,50,50,51,50,52] [50,53,50,54,50,55,50,56,50,57,51,48,51,49,51,50,51,51,51,52,51,53,51,54,51,55,51,56,51,57,52,48,52,49,52,50,52,51,52,52,52,53,52,54,52,55,52,56,52,57]) (List.append [53,48,53,49,53,50,53,51,53,52,53,53,53,54,53,55,53,56,53,57,54,48,54,49,54,50,54,51,54,52,54,53,54,54,54,55,54,56,54,57,55,48,55,49,55,50,55,51,55,52] [55,53,55,54,55,55,55,56,55,57,56,48,56,49,56,50,56,51,56,52,56,53,56,54,56,55,56,56,56,57,57,48,57,49,57,50,57,51,57,52,57,53,57,54,57,55,57,56,57,57])) }) (.int .u32 (IntKind.wrap .u32 (IntKind.wrap .u32 (Int.tdiv (Int.tmod (IntKind.wrap .u32 b) 10000) 100)*2)))) fun g=>.unI .u8 g fun i=>.nds [.val (.int .u32 (IntKind.wrap .u32 (IntKind.wrap .u32 (IntKind.wrap .u32 (Int.tdiv (Int.tmod (IntKind.wrap .u32 b) 10000) 100)*2)+1))),.val (.int .u32 (IntKind.wrap .u32 (IntKind.wrap .u32 (Int.tdiv (Int.tmod (IntKind.wrap .u32 b) 10000) 100)*2))),.val (.int .i64 (wrap .i64 (a-4))),a,.S d c f,.val (.int .i64 (wrap .i64 (a-3))),a,.S d c f] (.sem false (Instr.index 9 (.string { data:=List.toArray (List.append (List.append [48,48,48,49,48,50,48,51,48,52,48,53,48,54,48,55,48,56,48,57,49,48,49,49,49,50,49,51,49,52,49,53,49,54,49,55,49,56,49,57,50,48,50,49,50,50,50,51,50,52] [50,53,50,54,50,55,50,56,50,57,51,48,51,49,51,50,51,51,51,52,51,53,51,54,51,55,51,56,51,57,52,48,52,49,52,50,52,51,52,52,52,53,52,54,52,55,52,56,52,57]) (List.append [53,48,53,49,53,50,53,51,53,52,53,53,53,54,53,55,53,56,53,57,54,48,54,49,54,50,54,51,54,52,54,53,54,54,54,55,54,56,54,57,55,48,55,49,55,50,55,51,55,52] [55,53,55,54,55,55,55,56,55,57,56,48,56,49,56,50,56,51,56,52,56,53,56,54,56,55,56,56,56,57,57,48,57,49,57,50,57,51,57,52,57,53,57,54,57,55,57,56,57,57])) }) (.int .u32 (IntKind.wrap .u32 (IntKind.wrap .u32 (IntKind.wrap .u32 (Int.tdiv (Int.tmod (IntKind.wrap .u32 b) 10000) 100)*2)+1)))) fun g=>.unI .u8 g fun k=>.nds [.val (.int .u32 (IntKind.wrap .u32 (IntKind.wrap .u32 (Int.tdiv (Int.tmod (IntKind.wrap .u32 b) 10000) 100)*2))),.val (.int .i64 (wrap .i64 (a-4))),a,.S d c f,.val (.int .i64 (wrap .i64 (a-3))),a,.S d c f] (.need (0<=wrap .i64 (a-3)/\wrap .i64 (a-3)<(↑c:Int)) (.someA d fun e=>.store ((e.add ((wrap .i64 (a-3)).toNat*1)).add 0) (.int .u8 k) (.nds [.val (.int .i64 (wrap .i64 (a-4))),a,.S d c f] (.need (0<=wrap .i64 (a-4)/\wrap .i64 (a-4)<(↑c:Int)) (.someA d fun e=>.store ((e.add ((wrap .i64 (a-4)).toNat*1)).add 0) (.int .u8 i) (.ag [.int .i64 (wrap .i64 (a-4)),.int .u32 (IntKind.wrap .u32 (Int.tdiv (IntKind.wrap .u32 b) 10000))])))))))))) (fun j=>.unNil j (.rn [a,.int .u32 (IntKind.wrap .u32 (Int.tdiv (IntKind.wrap .u32 b) 10000))])) fun n o=>.fail)))) else .ag [a,.int .u32 (IntKind.wrap .u32 b)]) (fun j=>.pi j fun b j=>.popI .u32 j fun i j=>.unNil j (bif decide (b>=2) then .need ((100:Int)≠0) (.need ((100:Int)≠0) (.both (.sem false (Instr.index 9 (.string { data:=List.toArray (List.append (List.append [48,48,48,49,48,50,48,51,48,52,48,53,48,54,48,55,48,56,48,57,49,48,49,49,49,50,49,51,49,52,49,53,49,54,49,55,49,56,49,57,50,48,50,49,50,50,50,51,50,52] [50,53,50,54,50,55,50,56,50,57,51,48,51,49,51,50,51,51,51,52,51,53,51,54,51,55,51,56,51,57,52,48,52,49,52,50,52,51,52,52,52,53,52,54,52,55,52,56,52,57]) (List.append [53,48,53,49,53,50,53,51,53,52,53,53,53,54,53,55,53,56,53,57,54,48,54,49,54,50,54,51,54,52,54,53,54,54,54,55,54,56,54,57,55,48,55,49,55,50,55,51,55,52] [55,53,55,54,55,55,55,56,55,57,56,48,56,49,56,50,56,51,56,52,56,53,56,54,56,55,56,56,56,57,57,48,57,49,57,50,57,51,57,52,57,53,57,54,57,55,57,56,57,57])) }) (.int .u32 (IntKind.wrap .u32 (IntKind.wrap .u32 (Int.tmod i 100*2)+1)))) fun g=>.unI .u8 g fun k=>.nds [.val (.int .u32 (IntKind.wrap .u32 (Int.tmod i 100*2))),.val (.int .u32 (IntKind.wrap .u32 (Int.tmod i 100*2))),.val (.int .i64 (wrap .i64 (b-2))),b,.S d c f,.val (.int .i64 (wrap .i64 (b-1))),b,.S d c f] (.need (0<=wrap .i64 (b-1)/\wrap .i64 (b-1)<(↑c:Int)) (.someA d fun e=>.both (.sem false (Instr.index 9 (.string { data:=List.toArray (List.append (List.append [48,48,48,49,48,50,48,51,48,52,48,53,48,54,48,55,48,56,48,57,49,48,49,49,49,50,49,51,49,52,49,53,49,54,49,55,49,56,49,57,50,48,50,49,50,50,50,51,50,52] [50,53,50,54,50,55,50,56,50,57,51,48,51,49,51,50,51,51,51,52,51,53,51,54,51,55,51,56,51,57,52,48,52,49,52,50,52,51,52,52,52,53,52,54,52,55,52,56,52,57]) (List.append [53,48,53,49,53,50,53,51,53,52,53,53,53,54,53,55,53,56,53,57,54,48,54,49,54,50,54,51,54,52,54,53,54,54,54,55,54,56,54,57,55,48,55,49,55,50,55,51,55,52] [55,53,55,54,55,55,55,56,55,57,56,48,56,49,56,50,56,51,56,52,56,53,56,54,56,55,56,56,56,57,57,48,57,49,57,50,57,51,57,52,57,53,57,54,57,55,57,56,57,57])) }) (.int .u32 (IntKind.wrap .u32 (Int.tmod i 100*2)))) fun g=>.unI .u8 g fun m=>.need (0<=wrap .i64 (b-1)/\wrap .i64 (b-1)<(↑c:Int)) (.someA d fun l=>.ne (.pointer (some (l.add ((wrap .i64 (b-1)).toNat*1)))) (.pointer (some (e.add ((wrap .i64 (b-1)).toNat*1)))) (.nds [.val (.int .u32 (IntKind.wrap .u32 (Int.tmod i 100*2))),.val (.int .i64 (wrap .i64 (b-2))),b,.S d c f,.val (.int .i64 (wrap .i64 (b-1))),b,.S d c f] (.store ((e.add ((wrap .i64 (b-1)).toNat*1)).add 0) (.int .u8 k) (.nds [.val (.int .i64 (wrap .i64 (b-2))),b,.S d c f] (.need (0<=wrap .i64 (b-2)/\wrap .i64 (b-2)<(↑c:Int)) (.someA d fun e=>.store ((e.add ((wrap .i64 (b-2)).toNat*1)).add 0) (.int .u8 m) (bif decide (wrap .i64 (b-2)>0) then .need ((0:Int)<=0/\0<(↑c:Int)) (.someA d fun e=>.store ((e.add 0).add 0) (.int .u8 (IntKind.wrap .u8 (IntKind.wrap .u32 (48+IntKind.wrap .u32 (Int.tdiv i 100))))) (.rt (.tuple #[]))) else .rt (.tuple #[]))))))))) (.store ((e.add ((wrap .i64 (b-1)).toNat*1)).add 0) (.int .u8 k) (.nds [.val (.int .u32 (IntKind.wrap .u32 (Int.tmod i 100*2))),.val (.int .i64 (wrap .i64 (b-2))),b,.S d c f] (.sem false (Instr.index 9 (.string { data:=List.toArray (List.append (List.append [48,48,48,49,48,50,48,51,48,52,48,53,48,54,48,55,48,56,48,57,49,48,49,49,49,50,49,51,49,52,49,53,49,54,49,55,49,56,49,57,50,48,50,49,50,50,50,51,50,52] [50,53,50,54,50,55,50,56,50,57,51,48,51,49,51,50,51,51,51,52,51,53,51,54,51,55,51,56,51,57,52,48,52,49,52,50,52,51,52,52,52,53,52,54,52,55,52,56,52,57]) (List.append [53,48,53,49,53,50,53,51,53,52,53,53,53,54,53,55,53,56,53,57,54,48,54,49,54,50,54,51,54,52,54,53,54,54,54,55,54,56,54,57,55,48,55,49,55,50,55,51,55,52] [55,53,55,54,55,55,55,56,55,57,56,48,56,49,56,50,56,51,56,52,56,53,56,54,56,55,56,56,56,57,57,48,57,49,57,50,57,51,57,52,57,53,57,54,57,55,57,56,57,57])) }) (.int .u32 (IntKind.wrap .u32 (Int.tmod i 100*2)))) fun g=>.unI .u8 g fun m=>.nds [.val (.int .i64 (wrap .i64 (b-2))),b,.S d c f] (.need (0<=wrap .i64 (b-2)/\wrap .i64 (b-2)<(↑c:Int)) (.someA d fun e=>.store ((e.add ((wrap .i64 (b-2)).toNat*1)).add 0) (.int .u8 m) (bif decide (wrap .i64 (b-2)>0) then .need ((0:Int)<=0/\0<(↑c:Int)) (.someA d fun e=>.store ((e.add 0).add 0) (.int .u8 (IntKind.wrap .u8 (IntKind.wrap .u32 (48+IntKind.wrap .u32 (Int.tdiv i 100))))) (.rt (.tuple #[]))) else .rt (.tuple #[])))))))))) (.sem false (Instr.index 9 (.string { data:=List.toArray (List.append (List.append [48,48,48,49,48,50,48,51,48,52,48,53,48,54,48,55,48,56,48,57,49,48,49,49,49,50,49,51,49,52,49,53,49,54,49,55,49,56,49,57,50,48,50,49,50,50,50,51,50,52] [50,53,50,54,50,55,50,56,50,57,51,48,51,49,51,50,51,51,51,52,51,53,51,54,51,55,51,56,51,57,52,48,52,49,52,50,52,51,52,52,52,53,52,54,52,55,52,56,52,57]) (List.append [53,48,53,49,53,50,53,51,53,52,53,53,53,54,53,55,53,56,53,57,54,48,54,49,54,50,54,51,54,52,54,53,54,54,54,55,54,56,54,57,55,48,55,49,55,50,55,51,55,52] [55,53,55,54,55,55,55,56,55,57,56,48,56,49,56,50,56,51,56,52,56,53,56,54,56,55,56,56,56,57,57,48,57,49,57,50,57,51,57,52,57,53,57,54,57,55,57,56,57,57])) }) (.int .u32 (IntKind.wrap .u32 (Int.tmod i 100*2)))) fun g=>.unI .u8 g fun k=>.nds [.val (.int .u32 (IntKind.wrap .u32 (IntKind.wrap .u32 (Int.tmod i 100*2)+1))),.val (.int .u32 (IntKind.wrap .u32 (Int.tmod i 100*2))),.val (.int .i64 (wrap .i64 (b-2))),b,.S d c f,.val (.int .i64 (wrap .i64 (b-1))),b,.S d c f] (.sem false (Instr.index 9 (.string { data:=List.toArray (List.append (List.append [48,48,48,49,48,50,48,51,48,52,48,53,48,54,48,55,48,56,48,57,49,48,49,49,49,50,49,51,49,52,49,53,49,54,49,55,49,56,49,57,50,48,50,49,50,50,50,51,50,52] [50,53,50,54,50,55,50,56,50,57,51,48,51,49,51,50,51,51,51,52,51,53,51,54,51,55,51,56,51,57,52,48,52,49,52,50,52,51,52,52,52,53,52,54,52,55,52,56,52,57]) (List.append [53,48,53,49,53,50,53,51,53,52,53,53,53,54,53,55,53,56,53,57,54,48,54,49,54,50,54,51,54,52,54,53,54,54,54,55,54,56,54,57,55,48,55,49,55,50,55,51,55,52] [55,53,55,54,55,55,55,56,55,57,56,48,56,49,56,50,56,51,56,52,56,53,56,54,56,55,56,56,56,57,57,48,57,49,57,50,57,51,57,52,57,53,57,54,57,55,57,56,57,57])) }) (.int .u32 (IntKind.wrap .u32 (IntKind.wrap .u32 (Int.tmod i 100*2)+1)))) fun g=>.unI .u8 g fun m=>.nds [.val (.int .u32 (IntKind.wrap .u32 (Int.tmod i 100*2))),.val (.int .i64 (wrap .i64 (b-2))),b,.S d c f,.val (.int .i64 (wrap .i64 (b-1))),b,.S d c f] (.need (0<=wrap .i64 (b-1)/\wrap .i64 (b-1)<(↑c:Int)) (.someA d fun e=>.store ((e.add ((wrap .i64 (b-1)).toNat*1)).add 0) (.int .u8 m) (.nds [.val (.int .i64 (wrap .i64 (b-2))),b,.S d c f] (.need (0<=wrap .i64 (b-2)/\wrap .i64 (b-2)<(↑c:Int)) (.someA d fun e=>.store ((e.add ((wrap .i64 (b-2)).toNat*1)).add 0) (.int .u8 k) (bif decide (wrap .i64 (b-2)>0) then .need ((0:Int)<=0/\0<(↑c:Int)) (.someA d fun e=>.store ((e.add 0).add 0) (.int .u8 (IntKind.wrap .u8 (IntKind.wrap .u32 (48+IntKind.wrap .u32 (Int.tdiv i 100))))) (.rt (.tuple #[]))) else .rt (.tuple #[]))))))))))) else bif decide (b>0) then .need ((0:Int)<=0/\0<(↑c:Int)) (.someA d fun e=>.store ((e.add 0).add 0) (.int .u8 (IntKind.wrap .u8 (IntKind.wrap .u32 (48+i)))) (.rt (.tuple #[]))) else .rt (.tuple #[]))) (fun j=>.pi j fun b j=>.popI .u32 j fun b j=>.unNil j (.rt (.tuple #[]))) fun n o=>.fail)) (fun j=>.popI .u64 j fun b j=>.pi j fun b j=>.unNil j (.rt (.tuple #[]))) fun n o=>.fail
theorem w3784(ap:Option Addr)(an ac:Nat)(u:Int):FX X 200 #[.slice ap an ac,.int .u64 u] h A (n3784 ap an ac u):=fk [] [⟨0,[(1,.int .u64),(4,.int .i64)],[],[],[],[]⟩] [⟨10,[],[],[],[],[]⟩,⟨9,[],[],[],[],[]⟩,⟨8,[],[],[],[],[]⟩,⟨18,[],[],[],[],[]⟩,⟨20,[(4,.int .i64),(12,.int .u32)],[],[],[],[]⟩] Tryz.f200
theorem w3794:FX X 219 #[a] h A (.need ((0:Int)<=18) (.rt (.int .i64 (Int.fdiv (wrap .i64 (a*78913)) (2^18))))):=fk [] [] [] Tryz.f219
theorem w3795{a:Bool}:FX X 221 #[a] h A (bif a then .rt (.int .i64 1) else .rt (.int .i64 0)):=fk [] [] [] Tryz.f221
theorem w3771{b:ByteArray}:FX X 156 #[.string b] h A (.cT 186 #[.string b] fun a c=>.ui a fun d=>.unCons c fun a c=>.unNil c (.sem false (Sem.bind (eqGuard BinOp.neq 83 (Operand.tmp 11) (Operand.const .nilIface) a .nilIface) fun g=>binOp BinOp.neq 83 a .nilIface) fun f=>.unB f fun e=>bif e then .cl 187 #[.string { data:=#[65,116,111,105] },.string b,.int .i64 0,.int .i64 0,a] fun a=>.rt (.tuple #[d,a]) else .rt (.tuple #[d,.nilIface]))):=fk [] [] [] Tryz.f156
theorem w3780{d:ByteArray}:FX X 186 #[.string d] h A (.sem false (Builtin.len_ #[9] 3 #[.string d]) fun b=>.ui b fun c=>.blk (bif decide (0<c) then .ag [.bool (decide (c<19))] else .ag [false]) (fun a=>.popB a fun j a=>.unNil a (bif j then .blk (.sem false (Instr.index 9 (.string d) (.int .i64 0)) fun b=>.unI .u8 b fun c=>bif c==45 then .sem false (Instr.sliceAt 9 (.string d) (some (.int .i64 1)) none none) fun i=>.unStr i fun d=>.sem false (Builtin.len_ #[9] 3 #[.string d]) fun b=>.ui b fun c=>bif decide (c<1) then .rn [.string d,.int .i64 0,.iface 303 (.int .i64 2)] else .ag [.string d,.int .i64 0,.nilIface] else .sem false (Instr.index 9 (.string d) (.int .i64 0)) fun b=>.unI .u8 b fun c=>bif c==43 then .sem false (Instr.sliceAt 9 (.string d) (some (.int .i64 1)) none none) fun i=>.unStr i fun d=>.sem false (Builtin.len_ #[9] 3 #[.string d]) fun b=>.ui b fun c=>bif decide (c<1) then .rn [.string d,.int .i64 0,.iface 303 (.int .i64 2)] else .ag [.string d,.int .i64 0,.nilIface] else .ag [.string d,.int .i64 0,.nilIface]) (fun a=>.popStr a fun o a=>.pi a fun c a=>.popV a fun b a=>.unNil a (.sem false (convert 9 78 (.string o)) fun p=>.unS p fun g k q=>.loop [c,b,.int .i64 0,.int .i64 0] (fun a=>.pi a fun c a=>.popV a fun b a=>.pi a fun f a=>.pi a fun e a=>.unNil a (bif decide (e<(↑k:Int)) then .need (0<=e/\e<(↑k:Int)) (.someA g fun g=>.loadI .u8 (g.add (e.toNat*1)) fun l=>bif decide (IntKind.wrap .u8 (l-48)>9) then .rn [.int .i64 0,.iface 303 (.int .i64 2),f,e] else .ag [c,b,.int .i64 (wrap .i64 (wrap .i64 (f*10)+wrap .i64 (IntKind.wrap .u8 (l-48)))),.int .i64 (wrap .i64 (e+1))]) else .bk [c,b,f,e])) (fun a=>.pi a fun c a=>.popV a fun b a=>.pi a fun c a=>.pi a fun f a=>.unNil a (.sem false (Instr.index 9 (.string d) (.int .i64 0)) fun b=>.unI .u8 b fun e=>bif e==45 then .sem false (Op.unary UnOp.neg (.int .i64 c)) fun b=>.rt (.tuple #[b,.nilIface]) else .rt (.tuple #[c,.nilIface]))) (fun a=>.pi a fun c a=>.popV a fun b a=>.pi a fun f a=>.pi a fun e a=>.unNil a (.rt (.tuple #[c,b]))) fun m n=>.fail)) (fun a=>.popStr a fun d a=>.pi a fun c a=>.popV a fun b a=>.unNil a (.rt (.tuple #[c,b]))) fun m n=>.fail else .cT 211 #[.string d,.int .i64 10,.int .i64 0] fun b a=>.ui b fun c=>.unCons a fun b a=>.unNil a (.rt (.tuple #[c,b])))) (fun a=>.popB a fun j a=>.unNil a (.rt (.tuple #[.int .i64 0,.nilIface]))) fun m n=>.fail):=fk [] [⟨0,[(2,.int .i64),(3,.any),(6,.int .i64),(49,.int .i64)],[],[],[],[]⟩] [⟨8,[(0,.str),(2,.int .i64),(3,.any)],[],[],[],[]⟩,⟨2000030,[(30,.bool)],[],[],[],[]⟩] Tryz.f186
end Go.Y
end
section
namespace Go.TM.Tp
open Go.Lib (decDigits)
def Yh:Bs:=[48,49,50,51,52,53,54,55,56,57,97,98,99,100,101,102,103,104,105,106,107,108,109,110,111,112,113,114,115,116,117,118,119,120,121,122]
def two(n:Nat):Bs:=[UInt8.ofNat (48+n / 10),UInt8.ofNat (48+n%10)]
def J4:Bs:=List.append (List.append [48,48,48,49,48,50,48,51,48,52,48,53,48,54,48,55,48,56,48,57,49,48,49,49,49,50,49,51,49,52,49,53,49,54,49,55,49,56,49,57,50,48,50,49,50,50,50,51,50,52] [50,53,50,54,50,55,50,56,50,57,51,48,51,49,51,50,51,51,51,52,51,53,51,54,51,55,51,56,51,57,52,48,52,49,52,50,52,51,52,52,52,53,52,54,52,55,52,56,52,57]) (List.append [53,48,53,49,53,50,53,51,53,52,53,53,53,54,53,55,53,56,53,57,54,48,54,49,54,50,54,51,54,52,54,53,54,54,54,55,54,56,54,57,55,48,55,49,55,50,55,51,55,52] [55,53,55,54,55,55,55,56,55,57,56,48,56,49,56,50,56,51,56,52,56,53,56,54,56,55,56,56,56,57,57,48,57,49,57,50,57,51,57,52,57,53,57,54,57,55,57,56,57,57])
theorem dig_one':∀ n<10,(Yh.take (n+1)).drop n=[UInt8.ofNat (48+n)]:=by decide
theorem dig_one(n:Nat)(h:n<10):(Yh.take (n+1)).drop n=decDigits n:=by rw[dig_one' n h,Hs h]
theorem small_len:J4.length=200:=by decide
theorem small_two:∀ n<100,(J4.take (2*n+2)).drop (2*n)=two n:=by decide
theorem dig_two(n:Nat)(h:n<100)(a:10<=n):two n=decDigits n:=by
 rw[Ht (by omega),Hs (by omega)];rfl
end Go.TM.Tp
namespace Go.Y.Txt
open Go.TM.Tp
open Go.Lib (decDigits)
attribute [local irreducible] T.wp CV FWK
variable {h:LH}
theorem c3782(n:Nat)(a:n<100):Pu Tryz.prog 198 #[n] h (.string (str (decDigits n))):=by
 refine w3782 Qk ?_;have w1:wrap .i64 ((n:Int)+1)=((n+1:Nat):Int):=by rw[Qh (by omega) (by omega)];rfl
 have w2:wrap .i64 ((n:Int)*2)=((2*n:Nat):Int):=by rw[Qh (by omega) (by omega)];omega
 have w3:wrap .i64 (((2*n:Nat):Int)+2)=((2*n+2:Nat):Int):=by rw[Qh (by omega) (by omega)];omega
 rw[w1,w2,w3];refine t_if (fun e=>?_) (fun e=>?_)
 ·refine Us (l:=Yh) undS (by omega) (by simp[Yh];omega) ?_;refine Qj ?_;refine gZ ?_;rw[dig_one n (by omega)];exact Qa ⟨rfl,rfl⟩
 ·refine Us (l:=J4) undS (by omega) (by rw[small_len];omega) ?_;refine Qj ?_;refine gZ ?_;rw[small_two n a,dig_two n a (by omega)];exact Qa ⟨rfl,rfl⟩
theorem c3794(n:Nat)(a:n<=64):Pu Tryz.prog 219 #[n] h (.int .i64 ((n*78913 / 2^18:Nat):Int)):=by
 refine w3794 Qk ?_;refine gT (by decide) ?_;refine Qa ⟨?_,rfl⟩;rw[Qh (by omega) (by omega),Int.fdiv_eq_ediv_of_nonneg _ (by omega)];congr 1
theorem c3795(b:Bool):Pu Tryz.prog 221 #[.bool b] h (.int .i64 (if b then 1 else 0)):=by
 refine w3795 Qk ?_;refine Ql (fun e=>?_) (fun e=>?_)
 ·rw[e];exact Qa ⟨rfl,rfl⟩
 ·rw[e];exact Qa ⟨rfl,rfl⟩
end Go.Y.Txt
end
section
namespace Go.Y
set_option maxHeartbeats 0
set_option linter.unusedVariables false
variable {X:XP} {h:LH} {A:Value->LH->Prop}
variable {a b c d e f g i j k l m:Int}{n o p q r s t u v w x y z:Nat}{B C D E F G H I J K L M:Option Addr}
theorem w2115:FX X 220 #[.int .u64 a] h A (.blk (bif decide (a>=4294967296) then .need ((0:Int)<=32) (.ag [.int .u64 (Int.fdiv a (2^32)),.int .i64 32]) else .ag [.int .u64 a,.int .i64 0]) (fun b=>.popI .u64 b fun c b=>.pi b fun e b=>.unNil b (.blk (bif decide (c>=65536) then .need ((0:Int)<=16) (.ag [.int .u64 (Int.fdiv c (2^16)),.int .i64 (wrap .i64 (e+16))]) else .ag [.int .u64 c,e]) (fun b=>.popI .u64 b fun c b=>.pi b fun f b=>.unNil b (bif decide (c>=256) then .need ((0:Int)<=8) (.sem false (Instr.index 9 (.string { data:=List.toArray (List.append (List.append [0,1,2,2,3,3,3,3,4,4,4,4,4,4,4,4,5,5,5,5,5,5,5,5,5,5,5,5,5,5,5,5,6,6,6,6,6,6,6,6,6,6,6,6,6,6,6,6,6,6,6,6,6,6,6,6,6,6,6,6,6,6,6,6] [7,7,7,7,7,7,7,7,7,7,7,7,7,7,7,7,7,7,7,7,7,7,7,7,7,7,7,7,7,7,7,7,7,7,7,7,7,7,7,7,7,7,7,7,7,7,7,7,7,7,7,7,7,7,7,7,7,7,7,7,7,7,7,7]) (List.append [8,8,8,8,8,8,8,8,8,8,8,8,8,8,8,8,8,8,8,8,8,8,8,8,8,8,8,8,8,8,8,8,8,8,8,8,8,8,8,8,8,8,8,8,8,8,8,8,8,8,8,8,8,8,8,8,8,8,8,8,8,8,8,8] [8,8,8,8,8,8,8,8,8,8,8,8,8,8,8,8,8,8,8,8,8,8,8,8,8,8,8,8,8,8,8,8,8,8,8,8,8,8,8,8,8,8,8,8,8,8,8,8,8,8,8,8,8,8,8,8,8,8,8,8,8,8,8,8])) }) (.int .u8 (IntKind.wrap .u8 (Int.fdiv c (2^8))))) fun d=>.unI .u8 d fun c=>.rt (.int .i64 (wrap .i64 (wrap .i64 (f+8)+wrap .i64 c)))) else .sem false (Instr.index 9 (.string { data:=List.toArray (List.append (List.append [0,1,2,2,3,3,3,3,4,4,4,4,4,4,4,4,5,5,5,5,5,5,5,5,5,5,5,5,5,5,5,5,6,6,6,6,6,6,6,6,6,6,6,6,6,6,6,6,6,6,6,6,6,6,6,6,6,6,6,6,6,6,6,6] [7,7,7,7,7,7,7,7,7,7,7,7,7,7,7,7,7,7,7,7,7,7,7,7,7,7,7,7,7,7,7,7,7,7,7,7,7,7,7,7,7,7,7,7,7,7,7,7,7,7,7,7,7,7,7,7,7,7,7,7,7,7,7,7]) (List.append [8,8,8,8,8,8,8,8,8,8,8,8,8,8,8,8,8,8,8,8,8,8,8,8,8,8,8,8,8,8,8,8,8,8,8,8,8,8,8,8,8,8,8,8,8,8,8,8,8,8,8,8,8,8,8,8,8,8,8,8,8,8,8,8] [8,8,8,8,8,8,8,8,8,8,8,8,8,8,8,8,8,8,8,8,8,8,8,8,8,8,8,8,8,8,8,8,8,8,8,8,8,8,8,8,8,8,8,8,8,8,8,8,8,8,8,8,8,8,8,8,8,8,8,8,8,8,8,8])) }) (.int .u8 (IntKind.wrap .u8 c))) fun d=>.unI .u8 d fun c=>.rt (.int .i64 (wrap .i64 (f+wrap .i64 c))))) (fun b=>.popI .u64 b fun c b=>.pi b fun c b=>.unNil b (.rt (.int .i64 c))) fun a g=>.fail)) (fun b=>.popI .u64 b fun c b=>.pi b fun c b=>.unNil b (.rt (.int .i64 c))) fun a g=>.fail):=fk [] [] [⟨7,[(0,.int .u64),(2,.int .i64)],[],[],[],[]⟩,⟨4,[(0,.int .u64),(2,.int .i64)],[],[],[],[]⟩] Tryz.f220
end Go.Y
end
section
namespace Go.TM.Tp
open Go.Lib (decDigits)
def len8:Bs:=List.append (List.append [0,1,2,2,3,3,3,3,4,4,4,4,4,4,4,4,5,5,5,5,5,5,5,5,5,5,5,5,5,5,5,5,6,6,6,6,6,6,6,6,6,6,6,6,6,6,6,6,6,6,6,6,6,6,6,6,6,6,6,6,6,6,6,6] [7,7,7,7,7,7,7,7,7,7,7,7,7,7,7,7,7,7,7,7,7,7,7,7,7,7,7,7,7,7,7,7,7,7,7,7,7,7,7,7,7,7,7,7,7,7,7,7,7,7,7,7,7,7,7,7,7,7,7,7,7,7,7,7]) (List.append [8,8,8,8,8,8,8,8,8,8,8,8,8,8,8,8,8,8,8,8,8,8,8,8,8,8,8,8,8,8,8,8,8,8,8,8,8,8,8,8,8,8,8,8,8,8,8,8,8,8,8,8,8,8,8,8,8,8,8,8,8,8,8,8] [8,8,8,8,8,8,8,8,8,8,8,8,8,8,8,8,8,8,8,8,8,8,8,8,8,8,8,8,8,8,8,8,8,8,8,8,8,8,8,8,8,8,8,8,8,8,8,8,8,8,8,8,8,8,8,8,8,8,8,8,8,8,8,8])
def bl8(n:Nat):Nat:=if n=0 then 0 else Nat.log2 n+1
variable {n:Nat}
theorem len8_at:∀ n<256,len8[n]?=some (UInt8.ofNat (bl8 n)):=by decide +kernel
theorem Yi:∀ n<256,bl8 n<=8:=by decide +kernel
def Ws(x:Nat):Nat:=if 256<=x then 8+bl8 (x / 256) else bl8 x
def tens(x:Nat):Nat:=Ws x*78913 / 2^18
theorem tens_small:∀ x<256,100<=x->bl8 x*78913 / 2^18=2:=by decide +kernel
theorem tens_big:∀ q<40,1<=q->(q=1/\(8+bl8 q)*78913 / 2^18=2)\/(2<=q/\q<=31/\(8+bl8 q)*78913 / 2^18=3)\/(32<=q/\(8+bl8 q)*78913 / 2^18=4):=by decide +kernel
theorem tens_ok(x:Nat)(d:x<10000)(c:100<=x):tens x<5/\tens x+(if 10^tens x<=x then 1 else 0)=if x<1000 then 3 else 4:=by
 unfold tens Ws;by_cases h:256<=x
 ·rw[if_pos h];rcases tens_big (x / 256) (by omega) (by omega) with⟨a,b⟩|⟨a,a',b⟩|⟨a,b⟩
  ·rw[b,if_pos (by omega),if_pos (by omega)];omega
  ·rw[b];by_cases e:1000<=x
   ·rw[if_pos (by omega),if_neg (by omega)];omega
   ·rw[if_neg (by omega),if_pos (by omega)];omega
  ·rw[b,if_neg (by omega),if_neg (by omega)];omega
 ·rw[if_neg h,tens_small x (by omega) c,if_pos (by omega),if_pos (by omega)];omega
theorem bits16_le{x:Nat}(h:x<65536):Ws x<=16:=by
 unfold Ws;split
 ·have:=Yi (x / 256) (by omega);omega
 ·have:=Yi x (by omega);omega
theorem U5(h:n<256):IntKind.wrap .u8 (n:Int)=(n:Int):=U6 (by omega)
theorem Zn(h:n<4294967296):IntKind.wrap .u32 (n:Int)=(n:Int):=by
 have a:(2^IntKind.u32.bits:Int)=4294967296:=rfl;simp only[IntKind.wrap,a,show IntKind.u32.signed=false from rfl,Bool.false_and,Bool.false_eq_true,if_false];omega
theorem wrapU64n(h:n<18446744073709551616):IntKind.wrap .u64 (n:Int)=(n:Int):=by
 have a:(2^IntKind.u64.bits:Int)=18446744073709551616:=rfl;simp only[IntKind.wrap,a,show IntKind.u64.signed=false from rfl,Bool.false_and,Bool.false_eq_true,if_false];omega
theorem wrapI64n(h:n<9223372036854775807):wrap .i64 (n:Int)=(n:Int):=Qh (by omega) (by omega)
section
variable {P:Program} {X:XP} {Q:Leaf->LH->Prop}
theorem Kq{h:LH}{K:Value->T}{t:TypeId}{k:IntKind}{l:Bs}{i:Int}{c:UInt8}(j:Nat)(hu:P.underlying t=some .string)(d:i=(j:Int))(hc:l[j]?=some c)(e:(K (.int .u8 (c.toNat:Int))).wp X P Q h):(T.sem false (Instr.index t (.string (str l)) (.int k i)) K).wp X P Q h:=by
 subst d;refine Q9 (A:=fun v h'=>h'=h.get/\v=.int .u8 (c.toNat:Int)) ?_ (by rintro v h' ⟨rfl,rfl⟩;exact e);have a:=(List.getElem?_eq_some_iff.1 hc).1;have b:(str l)[((j:Int)).toNat]?=some c:=by
  rw[Int.toNat_natCast,getElem?_pos (str l) j (by rw[Jy];exact a)];congr 1;have:=(List.getElem?_eq_some_iff.1 hc).2;rw[<- this];show (str l).data[j]=_;simp[str]
 unfold Instr.index;simp only[asIntOf,lwp_bind,Qg,Qc hu];rw[if_pos (by omega),b];exact⟨rfl,rfl⟩
def Wr(el:TypeId)(n r:Nat)(h0 h:LH)(m:List (Nat×Value)):Prop:=But r h0 h/\∃ cs,h.get r=some (true,.cells cs el (0,0))/\cs.size=n/\∀ p∈m,cs[p.1]?=some p.2
theorem Ur{el:TypeId}{n r k:Nat}{h0 h:LH}{m:List (Nat×Value)}{a:Addr}{v:Value}{t:T}(w:Wr el n r h0 h m)(s:a=⟨r,k,none⟩)(x:k<n)(u:∀ p∈m,p.1≠k)(d:isOne v=true)(hc:∀ d,Wr el n r h0 d ((k,v)::m)->t.wp X P Q d):(T.store a v t).wp X P Q h:=by
 obtain⟨b,cs,g,i,j⟩:=w;subst s;refine Z8 g d (Array.getElem?_eq_getElem (by omega:k<cs.size)) fun o c l=>hc o ⟨⟨fun q f=>(c.1 q f).trans (b.1 q f),c.2.1.trans b.2.1,c.2.2.1.trans b.2.2.1,c.2.2.2.trans b.2.2.2⟩,_,l,by simpa using i,fun p e=>?_⟩;rcases List.mem_cons.1 e with rfl|e
 ·rw[Array.getElem?_setIfInBounds_self_of_lt (by omega)]
 ·rw[Array.getElem?_setIfInBounds_ne (Ne.symm (u p e))];exact j p e
end
theorem Gc:∀ n<100,J4[2*n]?=some (UInt8.ofNat (48+n / 10))/\J4[2*n+1]?=some (UInt8.ofNat (48+n%10)):=by decide
def hiD(n:Nat):UInt8:=UInt8.ofNat (48+n / 10)
def loD(n:Nat):UInt8:=UInt8.ofNat (48+n%10)
theorem Yz(a:1000<=n)(b:n<10000):decDigits n=[hiD (n / 100),loD (n / 100),hiD (n%100),loD (n%100)]:=by
 rw[Ht (n:=n) (by omega),Ht (n:=n / 10) (by omega),show n / 10 / 10=n / 100 by omega,<- dig_two (n / 100) (by omega) (by omega)];unfold two hiD loD;rw[show n%100 / 10=n / 10%10 by omega,show n%100%10=n%10 by omega];rfl
theorem Y0(a:100<=n)(b:n<1000):decDigits n=[UInt8.ofNat (48+n / 100),hiD (n%100),loD (n%100)]:=by
 rw[Ht (n:=n) (by omega),Ht (n:=n / 10) (by omega),show n / 10 / 10=n / 100 by omega,Hs (n:=n / 100) (by omega)];unfold hiD loD;rw[show n%100 / 10=n / 10%10 by omega,show n%100%10=n%10 by omega];rfl
def PowT(g:Nat)(h:Cells):Prop:=∀ i<5,h.cell? ⟨g,i,none⟩=some (.int .u64 (10^i:Nat))
theorem PowT.le{g:Nat}{h h':Cells}(b:h.le h')(p:PowT g h):PowT g h':=fun i a=>Qe b (p i a)
end Go.TM.Tp
namespace Go.Y.Txt
open Go.TM.Tp
open Go.Lib (decDigits)
attribute [local irreducible] T.wp CV FWK
theorem k2115{h:LH}(x:Nat)(c:x<65536):Pu Tryz.prog 220 #[.int .u64 (x:Int)] h (.int .i64 (Ws x:Nat)):=by
 refine w2115 Qk ?_;refine Q1 (fun b h'=>b=[.int .u64 (x:Int),.int .i64 0]/\h=h') ?_ ?_
 ·refine t_if (fun e=>by omega) (fun e=>?_);exact Qi ⟨rfl,rfl⟩
 rintro b _ ⟨rfl,rfl⟩;refine gZ ?_;refine Q1 (fun b h'=>b=[.int .u64 (x:Int),.int .i64 0]/\h=h') ?_ ?_
 ·refine t_if (fun e=>by omega) (fun e=>?_);exact Qi ⟨rfl,rfl⟩
 rintro b _ ⟨rfl,rfl⟩;refine yJ (fun e=>?_) (fun e=>?_)
 ·have a:x / 256<256:=by omega
  have hb:=Yi _ a;refine gT (by decide) ?_;refine Kq (l:=len8) (x / 256) undS ?_ (len8_at _ a) ?_
  ·rw[show Int.fdiv (x:Int) (2^8)=((x / 256:Nat):Int) by rw[Int.fdiv_eq_ediv_of_nonneg _ (by decide)];rfl,U5 a]
  refine gZ ?_;refine Qa ⟨?_,rfl⟩;rw[show wrap .i64 (0+8)=8 from rfl,show ((UInt8.ofNat (bl8 (x / 256))).toNat:Int)=((bl8 (x / 256):Nat):Int) by rw[UInt8.toNat_ofNat'];omega,wrapI64n (by omega),Qh (by omega) (by omega)];unfold Ws;rw[if_pos (by omega)];congr 1
  try omega
 ·have a:x<256:=by omega
  have hb:=Yi _ a;refine Kq (l:=len8) x undS (U5 a) (len8_at _ a) ?_;refine gZ ?_;refine Qa ⟨?_,rfl⟩;rw[show ((UInt8.ofNat (bl8 x)).toNat:Int)=((bl8 x:Nat):Int) by rw[UInt8.toNat_ofNat'];omega,wrapI64n (by omega),Qh (by omega) (by omega)];unfold Ws;rw[if_neg (by omega)];congr 1
  try omega
theorem c3783{h:LH}(j:PowT 5 h.get)(x:Nat)(c:100<=x)(d:x<10000):Pu Tryz.prog 199 #[.int .u64 (x:Int)] h (.int .i64 ((decDigits x).length:Nat)):=by
 refine w3783 Qk ?_;have hb:=bits16_le (x:=x) (by omega);obtain⟨t1,t2⟩:=tens_ok x d c;refine t_pu (k2115 x (by omega)) ?_;refine gZ ?_;refine t_pu (c3794 (Ws x) (by omega)) ?_;have a:=j (tens x) t1;have g:0<=((Ws x*78913 / 2^18:Nat):Int)/\((Ws x*78913 / 2^18:Nat):Int)<((20:Nat):Int):=by
  have:Ws x*78913 / 2^18<5:=t1;omega
 refine gZ ?_;refine gL0 (by rw[Int.toNat_natCast,Qo,Nat.mul_one,Nat.zero_add];exact a) ?_;refine t_pu (c3795 _) ?_;refine gZ ?_;refine Qa ⟨?_,rfl⟩;have i:(decDigits x).length=if x<1000 then 3 else 4:=by
  split
  ·rw[Y0 c (by omega)];rfl
  ·rw[Yz (by omega) d];rfl
 have e:(if decide ((x:Int)>=((10^tens x:Nat):Int))=true then (1:Int) else 0)=((if 10^tens x<=x then 1 else 0:Nat):Int):=by
  by_cases h:10^tens x<=x
  ·rw[if_pos h,if_pos (decide_eq_true (Int.ofNat_le.2 h))];rfl
  ·rw[if_neg h,if_neg (fun f=>h (Int.ofNat_le.1 (of_decide_eq_true f)))];rfl
 have b:(if 10^tens x<=x then 1 else 0:Nat)<=1:=by split<;>omega
 rw[e,i,<- t2];revert b;generalize (if 10^tens x<=x then 1 else 0:Nat)=z;intro b;rw[Qh (by omega) (by omega)];rfl
end Go.Y.Txt
end
section
namespace Go.TM
def bools(f:Nat->Bool):Nat->Nat->List Value
 | _,0=>[]
 | i,n+1=>.bool (f i)::bools f (i+1) n
section
variable {P:Program} {X:XP} {Q:Leaf->LH->Prop}
structure ArrS(el:TypeId)(f:Nat->Bool)(n:Nat)(h0 h:LH)(r i:Nat):Prop where
 cells:∃ cs,h.get r=some (true,.cells cs el (0,0))/\cs.size=n/\(∀ j,j<i->cs[j]?=some (.bool (f j)))
 new:h0.get r=none
 le:h0.le h
variable {el:TypeId}{f:Nat->Bool}{n r i:Nat}{h0 h:LH}{a:Addr}{k:T}
theorem ArrS.at(s:ArrS el f n h0 h r i){j:Nat}(c:j<i):h.get.cell? (Addr.add ⟨r,0,none⟩ j)=some (.bool (f j)):=by
 obtain⟨cs,a,d,b⟩:=s.cells;rw[Qo,Nat.zero_add];exact J6 a (b j c)
theorem t_storeN(s:ArrS el f n h0 h r i)(t:i<n)(o:a=Addr.add ⟨r,0,none⟩ i)(p:∀ c,ArrS el f n h0 c r (i+1)->k.wp X P Q c):(T.store a (.bool (f i)) k).wp X P Q h:=by
 obtain⟨cs,c,l,m⟩:=s.cells;rw[o,Qo,Nat.zero_add];refine Z8 c rfl (Array.getElem?_eq_getElem (by omega:i<cs.size)) fun d b hb=>?_;refine p d ⟨⟨_,hb,by simpa using l,fun j u=>?_⟩,s.new,⟨fun q x g=>?_,b.2.1.trans s.le.2.1,b.2.2.1.trans s.le.2.2.1,b.2.2.2.trans s.le.2.2.2⟩⟩
 ·by_cases e:j=i
  ·subst e;rw[Array.getElem?_setIfInBounds_self_of_lt (by omega)]
  ·rw[Array.getElem?_setIfInBounds_ne (Ne.symm e)];exact m j (by omega)
 ·rw[b.1 q (fun e=>by rw[e,s.new]at g;cases g)];exact s.le.1 q x g
theorem t_storeSame{b:Nat}{cs:Array Value}{v:Value}(hb:h.get b=some (true,.cells cs el (0,0)))(p:isOne v=true)(hv:cs[i]?=some v)(r:k.wp X P Q h):(T.store ⟨b,i,none⟩ v k).wp X P Q h:=by
 refine Z8 hb p hv fun f o a=>?_;have c:cs.setIfInBounds i v=cs:=by
  obtain⟨d,he⟩:=Array.getElem?_eq_some_iff.1 hv;apply Array.ext';rw[Array.toList_setIfInBounds];refine List.ext_getElem? fun j=>?_;rw[List.getElem?_set];split
  ·rename_i e;subst e;simp[d,he]
  ·rfl
 have e:f=h:=by
  obtain⟨w,t,y,t1⟩:=f;obtain⟨u,s,x,t0⟩:=h;obtain⟨g,l,m,n⟩:=o;simp only at g l m n hb a;subst l;subst m;subst n;congr 1;funext q;by_cases e:q=b
  ·subst e;rw[a,hb,c]
  ·exact g q e
 rw[e];exact r
theorem t_storeA(s:ArrS el f n h0 h r n)(e:i<n)(d:a=Addr.add ⟨r,0,none⟩ i)(g:k.wp X P Q h):(T.store a (.bool (f i)) k).wp X P Q h:=by
 obtain⟨cs,b,j,c⟩:=s.cells;rw[d,Qo,Nat.zero_add];exact t_storeSame b rfl (c i e) g
end
theorem any_next{l:List UInt8}{i:Nat}{b:UInt8}(hb:l[i]?=some b)(c:Nat):((l.take (i+1)).any fun b=>b.toNat==c)=(((l.take i).any fun b=>b.toNat==c)||decide (c=b.toNat)):=by
 rw[List.take_add_one,hb,List.any_append];simp only[Option.toList_some,List.any_cons,List.any_nil,Bool.or_false];congr 1;by_cases e:c=b.toNat
 ·subst e;simp
 ·simp[e,Ne.symm e]
theorem t_popBs{P:Program}{X:XP}{Q:Leaf->LH->Prop}{h:LH}{f:Nat->Bool}{i n:Nat}{k:Bool->List Value->T}(a:(k (f i) (bools f (i+1) n)).wp X P Q h):(T.popB (bools f i (n+1)) k).wp X P Q h:=a
end Go.TM
end

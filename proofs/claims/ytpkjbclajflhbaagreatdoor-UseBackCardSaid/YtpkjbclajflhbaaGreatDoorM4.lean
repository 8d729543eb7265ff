/- Contracts and laws for the proof, joined by a program. No condition. -/
import Derived.Test.YtpkjbclajflhbaaGreatDoorM3
set_option linter.all false
noncomputable section
open Go Go.Conc Go.TM Go.Proofs
set_option maxRecDepth 100000
open Go.IntKind (wrap)
section
namespace Go.TM.Tp
variable {P:Program} {E:Halt->Cells->Prop} {h:Cells}
variable {r:Nat}{m:Bool}{cs:Array Value}{el src dst:TypeId}{Q:Value->Cells->Prop}
theorem shape_at{fr:Nat×Nat}(hr:h r=some (m,.cells cs el fr)):h.shape? r=some (el,cs.size):=by
 unfold Cells.shape?;rw[hr]
theorem Kk{Q:Option (TypeId×Nat)->Cells->Prop}{fr:Nat×Nat}(hr:h r=some (m,.cells cs el fr)):Qc P (shape r) Q E h↔Q (some (el,cs.size)) h:=by
 constructor
 ·rintro⟨_,a⟩;rw[shape_at hr]at a;exact a
 ·intro a;refine⟨⟨_,hr⟩,?_⟩;rw[shape_at hr];exact a
theorem lwp_seenAt{Q:Addr->Cells->Prop}{a:Addr}{fr:Nat×Nat}(hr:h a.block=some (m,.cells cs el fr))(b:Q a h):Qc P (Conv.seenAt a) Q E h:=by
 unfold Conv.seenAt viewAt;simp only[lwp_bind];rw[Kk hr];simp only[Option.isSome_some,if_true,Qe];exact b
theorem lwp_toUnsafe{t:TypeId}{j:TypeInfo}{fr:Nat×Nat}(e:P.underlying src=some (.pointer t))(b:P.underlying dst=some .unsafePointer)(f:P.info? t=some j)(c:j.size≠0)(hr:h r=some (m,.cells cs el fr))(hc:0<cs.size)(d:Q (.pointer (some ⟨r,0,none⟩)) h) :
  Qc P (convert src dst (.pointer (some ⟨r,0,none⟩))) Q E h:=by
 simp only[convert,lwp_bind,Qa e,Qa b,Conv.unsafePointer];refine lwp_seenAt hr ?_;unfold cellsIn;simp only[lwp_bind];rw[Kk hr];simp only[Qe,Qx f];have a:¬ (0>=cs.size):=by omega
 simp only[a,decide_false,Bool.false_and,Bool.or_false,decide_eq_true_eq,c,if_false,Qe,Bool.false_eq_true,or_false];exact d
theorem lwp_fromUnsafe{u:TypeId}{j:TypeInfo}{fr:Nat×Nat}(d:P.underlying src=some .unsafePointer)(a:P.underlying dst=some (.pointer u))(hu:P.info? u=some j)(hr:h r=some (m,.cells cs el fr))(b:liesAt P P.depth el (cs.size / P.cellsOf el) 0 u 1=true)(c:Q (.pointer (some ⟨r,0,none⟩)) h) :
  Qc P (convert src dst (.pointer (some ⟨r,0,none⟩))) Q E h:=by
 simp only[convert,lwp_bind,Qa d,Qa a,Conv.unsafePointer];refine lwp_seenAt hr ?_;unfold variablesAt;simp only[lwp_bind,Qx hu,Jh];rw[Kk hr];simp only[Qe,b,decide_true,Bool.or_true,or_true,if_true];exact c
end Go.TM.Tp
end
section
namespace Go.TM
variable {h₀ h h':Cells}{p:Option Addr}{k n c:Nat}{vs:List Value}{el:TypeId}
theorem OwnRow.le{el:TypeId}{k:Nat}{h h':Cells}{p:Option Addr}{n c:Nat}{vs:List Value}(j:h.le h')(o:OwnRow el k h p n c vs):OwnRow el k h' p n c vs:=by
 obtain⟨a,i|⟨r,cs,b,d,e,f,g⟩⟩:=o
 ·exact⟨a,.inl i⟩
 ·exact⟨a,.inr ⟨r,cs,b,j _ _ d,e,f,g⟩⟩
def NewIn(h₀:Cells)(p:Option Addr):Prop:=∀ a,p=some a->h₀ a.block=none
theorem NewIn.none{h₀:Cells}:NewIn h₀ none:=fun a h=>by cases h
theorem after_append{d:Option Addr}(hle:h₀.le h)(f:NewIn h₀ p)(g:KeptBut p h h')(c:d=p\/∃ r,d=some ⟨r,0,none⟩/\h r=none):h₀.le h'/\NewIn h₀ d:=by
 refine⟨fun r x hr=>g r x (hle r x hr) fun a b e=>?_,?_⟩
 ·have:=f a b;rw[e,hr]at this;cases this
 ·rcases c with rfl|⟨r,rfl,hr⟩
  ·exact f
  ·intro a b;cases b;cases i:h₀ r with
   | none=>rfl
   | some x=>rw[hle _ _ i]at hr;cases hr
inductive Rows{α:Type}(Enc:α->List Value->Prop):List Value->List α->Prop
 | nil:Rows Enc [] []
 | snoc {vs:List Value} {l:List α} {x:α} {ws:List Value}:Rows Enc vs l->Enc x ws->Rows Enc (vs++ws) (l++[x])
theorem Rows.len{α:Type}{Enc:α->List Value->Prop}(a:∀ x ws,Enc x ws->ws.length=k){l:List α}(r:Rows Enc vs l):vs.length=l.length*k:=by
 induction r with
 | nil=>simp
 | snoc r he b=>simp[b,a _ _ he,Nat.add_mul]
theorem Rows.at{α:Type}{Enc:α->List Value->Prop}{k:Nat}(g:∀ x ws,Enc x ws->ws.length=k){vs:List Value}{l:List α}(r:Rows Enc vs l):∀ (i:Nat) x,l[i]?=some x->∃ ws,Enc x ws/\∀ (j:Nat) w,ws[j]?=some w->vs[i*k+j]?=some w:=by
 induction r with
 | nil=>intro i x h;simp at h
 | snoc r he n =>
  rename_i vs l y ws;intro i x a;have hlen:=r.len g;by_cases b:i<l.length
  ·rw[List.getElem?_append_left b]at a;obtain⟨us,f,m⟩:=n i x a;refine⟨us,f,fun j w c=>?_⟩;have e:j<us.length:=(List.getElem?_eq_some_iff.1 c).1;rw[g _ _ f]at e;have:i*k+j<vs.length:=by
    rw[hlen]
    calc i*k+j<i*k+k:=by omega
     _=(i+1)*k:=by rw[Nat.add_mul];omega
     _<=l.length*k:=Nat.mul_le_mul_right _ b
   rw[List.getElem?_append_left this];exact m j w c
  ·have d:i=l.length:=by
    have:=(List.getElem?_eq_some_iff.1 a).1;simp at this;omega
   subst d;rw[List.getElem?_append_right (Nat.le_refl _),Nat.sub_self]at a;simp at a;subst a;refine⟨ws,he,fun j w c=>?_⟩;rw[List.getElem?_append_right (by omega),hlen];rw[show l.length*k+j-l.length*k=j by omega];exact c
theorem Rows.sl{α:Type}{E:Cells->Addr->α->Prop}{Enc:α->List Value->Prop}{l:List α}(e:∀ x ws,Enc x ws->ws.length=k)(d:0<k)(s:∀ a x ws,Enc x ws->(∀ (j:Nat) w,ws[j]?=some w->h'.cell? (a.add j)=some w)->E h' a x)
 (own:OwnRow el k h' p n c vs)(r:Rows Enc vs l)(hb:l.length<4611686018427387904):Sl E k h' p n l:=by
 have hlen:=r.len e;obtain⟨o,q⟩:=own;have f:n=l.length:=Nat.eq_of_mul_eq_mul_right d (o.symm.trans hlen);refine⟨f,hb,fun i x g=>?_⟩;obtain⟨ws,h,m⟩:=r.at e i x g;rcases q with⟨rfl,rfl,rfl⟩|⟨b,cs,rfl,hr,t,v,hv⟩
 ·have:l=[]:=List.eq_nil_of_length_eq_zero f.symm;subst this;simp at g
 ·refine⟨_,rfl,s _ _ _ h fun j w u=>?_⟩;rw[Ql,Ql,Nat.zero_add];simp only[Cells.cell?,hr,Option.isSome_none,Bool.false_eq_true,if_false];exact hv _ _ (m j w u)
def IntEnc(x:Int)(ws:List Value):Prop:=ws=[.int .i64 x]
theorem IntEnc.len:∀ x ws,IntEnc x ws->ws.length=1:=by rintro x _ rfl;rfl
theorem IntEnc.e:∀ a x ws,IntEnc x ws->(∀ (j:Nat) w,ws[j]?=some w->h'.cell? (a.add j)=some w)->IntE h' a x:=by
 rintro a x _ rfl hc;exact hc 0 _ rfl
structure Growing{α:Type}(Enc:α->List Value->Prop)(el:TypeId)(k:Nat)(h₀ h:Cells)(p:Option Addr)(n c:Nat)(l:List α):Prop where
 row:∃ vs,OwnRow el k h p n c vs/\Rows Enc vs l
 new:NewIn h₀ p
theorem Growing.nil{α:Type}{Enc:α->List Value->Prop}{el:TypeId}{k:Nat}{h₀ h:Cells}:Growing Enc el k h₀ h none 0 0 []:=⟨⟨[],OwnRow.nil,.nil⟩,NewIn.none⟩
theorem Growing.le{α:Type}{Enc:α->List Value->Prop}{el:TypeId}{k:Nat}{h₀ h h':Cells}{p:Option Addr}{n c:Nat}{l:List α}(d:h.le h')(g:Growing Enc el k h₀ h p n c l):Growing Enc el k h₀ h' p n c l:=by
 obtain⟨vs,a,b⟩:=g.row;exact⟨⟨vs,a.le d,b⟩,g.new⟩
theorem Growing.mv{α:Type}{Enc:α->List Value->Prop}{m:Nat}{h h':LH}{l:List α}(hm:∃ es c,h.get m=some (true,.map es c))(j:Mv m h h')(g:Growing Enc el k h₀ h.get p n c l):Growing Enc el k h₀ h'.get p n c l:=by
 obtain⟨vs,⟨f,b⟩,i⟩:=g.row;refine⟨⟨vs,⟨f,?_⟩,i⟩,g.new⟩;rcases b with b|⟨r,cs,d,a,e⟩
 ·exact .inl b
 ·refine .inr ⟨r,cs,d,j.keep _ _ ?_ a,e⟩;rintro rfl;obtain⟨es,o,hm⟩:=hm;rw[hm]at a;cases a
theorem Growing.count{α:Type}{Enc:α->List Value->Prop}{l:List α}(e:∀ x ws,Enc x ws->ws.length=k)(a:0<k)(g:Growing Enc el k h₀ h p n c l):n=l.length:=by
 obtain⟨vs,b,d⟩:=g.row;exact Nat.eq_of_mul_eq_mul_right a (b.1.symm.trans (d.len e))
theorem Growing.sl{α:Type}{E:Cells->Addr->α->Prop}{Enc:α->List Value->Prop}{el:TypeId}{k:Nat}{h₀ h:Cells}{p:Option Addr}{n c:Nat}{l:List α}(i:∀ x ws,Enc x ws->ws.length=k)(b:0<k)(f:∀ a x ws,Enc x ws->(∀ (j:Nat) w,ws[j]?=some w->h.cell? (a.add j)=some w)->E h a x)
 (g:Growing Enc el k h₀ h p n c l)(hb:l.length<4611686018427387904):Sl E k h p n l:=by
 obtain⟨vs,d,e⟩:=g.row;exact e.sl i b f d hb
section
variable {P:Program} {X:XP} {Q:Leaf->LH->Prop}
theorem D1{α:Type}{Enc:α->List Value->Prop}{h h₀:LH}{k:Value->T}{ts:Array TypeId}{ty q t el I:TypeId}{s d:Nat}{z:Value}{p:Option Addr}{n c H:Nat}{b:Addr}{l:List α}{x:α}{ws:List Value}(h0:ts[0]?=some q)(u:ts[1]?=some t)(hu:P.underlying q=some (.slice el))(D:P.underlying t=some (.slice I))
 (w:(P.info? el).map (fun i=>(i.size,i.bytes,i.zero))=some (s,d,some z))(m:z.cells.size=s)(hb:d<=1024)(C:n+1<=2^30)(g:Growing Enc el s h₀.get h.get p n c l)(hle:h₀.le h)(he:Enc x ws)(B:ws.length=s)(hc:∀ (j:Nat) v,ws[j]?=some v->h.get.cell? (b.add j)=some v)(one:∀ v∈ws,isOne v=true)
 (A:∀ f e h',h₀.le h'->(∀ r y,(∀ a,p=some a->a.block≠r)->h.get r=some y->h'.get r=some y)->Growing Enc el s h₀.get h'.get f (n+1) e (l++[x])->(k (.slice f (n+1) e)).wp X P Q h'):(T.sem false (Builtin.append_ ts ty #[.slice p n c,.slice (some b) 1 H]) k).wp X P Q h:=by
 obtain⟨vs,o,r⟩:=g.row;refine t_append h0 u hu D w m hb C o (by rw[B,Nat.one_mul]) hc one (by omega) fun f e h' a b c=>?_;obtain⟨F,G⟩:=after_append hle.1 g.new b c;refine A f e _ ⟨F,hle.2⟩ (fun r y hr E=>b r y E hr) ⟨⟨vs++ws,a,.snoc r he⟩,G⟩
end
end Go.TM
end
section
namespace Go.Y
set_option maxHeartbeats 0
set_option linter.unusedVariables false
variable {X:XP} {h:LH} {A:Value->LH->Prop}
variable {a b c d e f g i j k l m:Int}{n o p q r s t u v w x y z:Nat}{B C D E F G H I J K L M:Option Addr}
theorem w3715{e:ByteArray}:FX X 35 #[.pointer B,.string e] h A (.cl 84 #[.pointer B] fun b=>.unTup b fun g=>.unNil g (.someA B fun c=>.loadS (c.add 1) fun i a d=>.sem false (Builtin.append_ #[78,9] 78 #[.slice i a d,.string e]) fun b=>.unS b fun c a d=>.someA B fun f=>.store ((f.add 1).add 0) (.slice c a d) (.sem false (Builtin.len_ #[9] 3 #[.string e]) fun b=>.ui b fun a=>.rt (.tuple #[a,.nilIface])))):=fk [] [] [] Tryz.f35
theorem w3716{j:ByteArray}:FX X 36 #[.slice B n o,.string j] h A (bif (↑n:Int)==0 then .rt (.string { data:=#[] }) else bif (↑n:Int)==1 then .need ((0:Int)<=0/\0<(↑n:Int)) (.someA B fun e=>.loadStr (e.add 0) fun d=>.rt (.string d)) else .blk (.sem false (Builtin.len_ #[9] 3 #[.string j]) fun c=>.ui c fun b=>bif decide (b>0) then .sem false (Builtin.len_ #[9] 3 #[.string j]) fun c=>.ui c fun b=>.need (wrap .i64 ((↑n:Int)-1)≠0) (bif decide (b>=wrap .i64 (Int.tdiv 9223372036854775807 (wrap .i64 ((↑n:Int)-1)))) then .fail else .sem false (Builtin.len_ #[9] 3 #[.string j]) fun c=>.ui c fun b=>.ag [.int .i64 (wrap .i64 (0+wrap .i64 (b*wrap .i64 ((↑n:Int)-1))))]) else .ag [.int .i64 0]) (fun a=>.pi a fun b a=>.unNil a (.loop [b,.int .i64 0] (fun a=>.pi a fun b a=>.pi a fun g a=>.unNil a (bif decide (g<(↑n:Int)) then .need (0<=g/\g<(↑n:Int)) (.someA B fun e=>.loadStr (e.add (g.toNat*1)) fun d=>.sem false (Builtin.len_ #[9] 3 #[.string d]) fun c=>.ui c fun f=>bif decide (f>wrap .i64 (9223372036854775807-b)) then .fail else .sem false (Builtin.len_ #[9] 3 #[.string d]) fun c=>.ui c fun p=>.ag [.int .i64 (wrap .i64 (b+p)),.int .i64 (wrap .i64 (g+1))]) else .bk [b,g])) (fun a=>.pi a fun b a=>.pi a fun g a=>.unNil a (.new 80 #[.pointer none,.slice none 0 0] fun i=>.cl 85 #[.pointer (some ⟨i,0,none⟩),b] fun c=>.unTup c fun m=>.unNil m (.need ((0:Int)<=0/\0<(↑n:Int)) (.someA B fun e=>.loadStr (e.add 0) fun d=>.cT 35 #[.pointer (some ⟨i,0,none⟩),.string d] fun c a=>.ui c fun b=>.unCons a fun c a=>.unNil a (.sem false (Instr.sliceAt 81 (.slice B n o) (some (.int .i64 1)) none none) fun q=>.unS q fun e b r=>.loop [.int .i64 0] (fun a=>.pi a fun f a=>.unNil a (bif decide (f<(↑b:Int)) then .need (0<=f/\f<(↑b:Int)) (.someA e fun e=>.loadStr (e.add (f.toNat*1)) fun d=>.cT 35 #[.pointer (some ⟨i,0,none⟩),.string j] fun c a=>.ui c fun b=>.unCons a fun c a=>.unNil a (.cT 35 #[.pointer (some ⟨i,0,none⟩),.string d] fun c a=>.ui c fun b=>.unCons a fun c a=>.unNil a (.ag [.int .i64 (wrap .i64 (f+1))]))) else .bk [f])) (fun a=>.pi a fun b a=>.unNil a (.cl 41 #[.pointer (some ⟨i,0,none⟩)] fun c=>.unStr c fun d=>.rt (.string d))) (fun a=>.pi a fun b a=>.unNil a (.rt (.string { data:=#[] }))) fun k l=>.fail))))) (fun a=>.pi a fun b a=>.pi a fun b a=>.unNil a (.rt (.string { data:=#[] }))) fun k l=>.fail)) (fun a=>.pi a fun b a=>.unNil a (.rt (.string { data:=#[] }))) fun k l=>.fail):=fk [] [⟨1,[(5,.int .i64),(41,.int .i64)],[],[],[],[]⟩,⟨3,[(65,.int .i64)],[],[],[],[]⟩] [⟨11,[(5,.int .i64)],[],[],[],[]⟩] Tryz.f36
theorem w3720:FX X 40 #[.pointer B] h A (.someA B fun a=>.loadS (a.add 1) fun d b c=>.rt (.int .i64 (↑b:Int))):=fk [] [] [] Tryz.f40
theorem w3721:FX X 41 #[.pointer B] h A (.someA B fun b=>.loadS (b.add 1) fun e d c=>.someA B fun a=>.loadS (a.add 1) fun j f i=>.sem false (Builtin.unsafeSliceData_ #[78] 162 #[.slice e d c]) fun g=>.nd (.int .i64 (↑f:Int)) (.loadS (a.add 1) fun e d c=>.ne (.slice e d c) (.slice j f i) (.nO (a.add 1) (.someA B fun k=>.nq k a (.nds [.val (.pointer B),.O (b.add 1)] (.someA B fun l=>.nq l b (.nd (.pointer B) (.sem false (Builtin.unsafeString_ #[162,3] 9 #[g,.int .i64 (↑f:Int)]) fun g=>.unStr g fun o=>.loadS (a.add 1) fun e d c=>.ne (.slice e d c) (.slice j f i) (.nO (a.add 1) (.someA B fun m=>.nq m a (.nds [.val (.pointer B),.O (b.add 1)] (.someA B fun n=>.nq n b (.nd (.pointer B) (.rt (.string o))))))))))))))):=fk [] [] [] Tryz.f41
theorem w3739:FX X 84 #[.pointer B] h A (.someA B fun a=>.loadP (a.add 0) fun c=>.sem false (Sem.bind (eqGuard BinOp.eql 77 (Operand.tmp 5) (Operand.const (.pointer none)) (.pointer c) (.pointer none)) fun d=>binOp BinOp.eql 77 (.pointer c) (.pointer none)) fun b=>.unB b fun f=>bif f then .sem false (convert 77 231 (.pointer B)) fun b=>.unP b fun a=>.callv false (.func (Fn.func 146) #[] #[]) #[.pointer a] fun b=>.unP b fun a=>.sem false (convert 231 77 (.pointer a)) fun b=>.unP b fun a=>.someA B fun e=>.store ((e.add 0).add 0) (.pointer a) (.rt (.tuple #[])) else .someA B fun a=>.loadP (a.add 0) fun c=>.sem false (Sem.bind (eqGuard BinOp.neq 77 (Operand.tmp 17) (Operand.tmp 18) (.pointer c) (.pointer B)) fun d=>binOp BinOp.neq 77 (.pointer c) (.pointer B)) fun b=>.unB b fun B=>bif B then .fail else .rt (.tuple #[])):=fk [] [] [] Tryz.f84
theorem w3740:FX X 85 #[.pointer B,a] h A (.cl 84 #[.pointer B] fun b=>.unTup b fun f=>.unNil f (.blk (bif decide (a<0) then .fail else .ag []) (fun j=>.unNil j (.someA B fun d=>.loadS (d.add 1) fun i n e=>.someA B fun c=>.loadS (c.add 1) fun q g m=>.sem false (Builtin.cap_ #[78] 3 #[.slice i n e]) fun b=>.ui b fun o=>.nds [a,.val (.int .i64 (↑g:Int))] (.loadS (c.add 1) fun i p e=>.ne (.slice i p e) (.slice q g m) (.nO (c.add 1) (.someA B fun k=>.nq k c (.nds [.val (.pointer B),.O (d.add 1)] (.someA B fun l=>.nq l d (.nd (.pointer B) (bif decide (wrap .i64 (o-(↑g:Int))<a) then .cl 147 #[.pointer B,a] fun b=>.unTup b fun f=>.unNil f (.rt (.tuple #[])) else .rt (.tuple #[])))))))))) (fun j=>.unNil j (.rt (.tuple #[]))) fun r s=>.fail)):=fk [] [] [⟨3,[],[],[],[],[]⟩] Tryz.f85
theorem w3766:FX X 147 #[.pointer B,a] h A (.someA B fun b=>.loadS (b.add 1) fun d x e=>.someA B fun c=>.loadS (c.add 1) fun k f i=>.sem false (Builtin.cap_ #[78] 3 #[.slice d x e]) fun g=>.ui g fun j=>.nd (.int .i64 (↑f:Int)) (.loadS (c.add 1) fun d y e=>.ne (.slice d y e) (.slice k f i) (.nO (c.add 1) (.someA B fun n=>.nq n c (.nds [.val (.pointer B),a,.O (b.add 1)] (.someA B fun o=>.nq o b (.nd (.pointer B) (.callv false (.func (Fn.func 172) #[] #[]) #[.int .i64 (wrap .i64 (wrap .i64 (2*j)+a))] fun g=>.unS g fun p z e=>.nds [.val (.int .i64 (wrap .i64 (2*j))),.val (.int .i64 (↑f:Int))] (.loadS (c.add 1) fun d C u=>.ne (.slice d C u) (.slice k f i) (.nO (c.add 1) (.someA B fun q=>.nq q c (.nds [.val (.pointer B),a,.O (b.add 1)] (.someA B fun r=>.nq r b (.nd (.pointer B) (.sem false (Instr.sliceAt 78 (.slice p z e) none (some (.int .i64 (↑f:Int))) none) fun E=>.unS E fun l m e=>.nd (.int .i64 (wrap .i64 (2*j))) (.loadS (c.add 1) fun d D v=>.ne (.slice d D v) (.slice k f i) (.nO (c.add 1) (.someA B fun s=>.nq s c (.nds [.val (.pointer B),a,.O (b.add 1)] (.someA B fun t=>.nq t b (.nd (.pointer B) (.someA B fun b=>.loadS (b.add 1) fun d a w=>.sem false (Builtin.copy_ #[78,78] 3 #[.slice l m e,.slice d a w]) fun g=>.someA B fun b=>.store ((b.add 1).add 0) (.slice l m e) (.rt (.tuple #[])))))))))))))))))))))))):=fk [] [] [] Tryz.f147
theorem w3726{a:ByteArray}:FX X 47 #[.string a] h A (.new 9 #[.string a] fun b=>.rt (.func (Fn.func 93) #[] #[.pointer (some ⟨b,0,none⟩)])):=fk [] [] [] Tryz.f47
theorem w3743{k:Value}{c:Addr}:FX X 93 #[k,.pointer (some c)] h A (.loop [] (fun j=>.unNil j (.loadStr c fun b=>.sem false (Builtin.len_ #[9] 3 #[.string b]) fun d=>.ui d fun a=>bif decide (a>0) then .loadStr c fun b=>.cI 94 #[.string b,.int .u8 10] fun a=>bif decide (a>=0) then .loadStr c fun b=>.loadStr c fun g=>.both (.sem false (Instr.sliceAt 9 (.string b) none (some (.int .i64 (wrap .i64 (a+1)))) none) fun e=>.unStr e fun b=>.nds [.val (.int .i64 (wrap .i64 (a+1))),a] (.loadStr c fun l=>.ne (.string l) (.string g) (.nd a (.both (.sem false (Instr.sliceAt 9 (.string g) (some (.int .i64 (wrap .i64 (a+1)))) none none) fun e=>.unStr e fun i=>.nds [a,a,a] (.store (c.add 0) (.string i) (.callv false k #[.string b] fun d=>.unB d fun f=>bif !f then .rn [] else .ag []))) (.nds [.val (.int .i64 (wrap .i64 (a+1))),a] (.loadStr c fun i=>.ne (.string i) (.string g) (.sem false (Instr.sliceAt 9 (.string g) (some (.int .i64 (wrap .i64 (a+1)))) none none) fun e=>.unStr e fun m=>.nd a (.store (c.add 0) (.string m) (.callv false k #[.string b] fun d=>.unB d fun f=>bif !f then .rn [] else .ag []))))))))) (.sem false (Instr.sliceAt 9 (.string g) (some (.int .i64 (wrap .i64 (a+1)))) none none) fun e=>.unStr e fun l=>.nds [a,.val (.int .i64 (wrap .i64 (a+1))),a] (.loadStr c fun i=>.ne (.string i) (.string b) (.sem false (Instr.sliceAt 9 (.string b) none (some (.int .i64 (wrap .i64 (a+1)))) none) fun e=>.unStr e fun b=>.nds [a,a,a] (.store (c.add 0) (.string l) (.callv false k #[.string b] fun d=>.unB d fun f=>bif !f then .rn [] else .ag []))))) else .loadStr c fun b=>.store (c.add 0) (.string { data:=#[] }) (.callv false k #[.string b] fun d=>.unB d fun f=>bif !f then .rn [] else .ag []) else .bk [])) (fun j=>.unNil j (.rt (.tuple #[]))) (fun j=>.unNil j (.rt (.tuple #[]))) fun n o=>.fail):=fk [] [⟨0,[],[],[],[],[]⟩] [] Tryz.f93
theorem w3728{a:ByteArray}{b:ByteArray}:FX X 49 #[.string a,.string b] h A (.cl 103 #[.string a,.string b] fun c=>.unStr c fun a=>.rt (.string a)):=fk [] [] [] Tryz.f49
theorem w3752{a:ByteArray}{b:ByteArray}:FX X 103 #[.string a,.string b] h A (.cB 157 #[.string a,.string b] fun d=>bif d then .sem false (Builtin.len_ #[9] 3 #[.string a]) fun c=>.ui c fun e=>.sem false (Builtin.len_ #[9] 3 #[.string b]) fun c=>.ui c fun f=>.sem false (Instr.sliceAt 9 (.string a) none (some (.int .i64 (wrap .i64 (e-f)))) none) fun g=>.unStr g fun a=>.rt (.string a) else .rt (.string a)):=fk [] [] [] Tryz.f103
theorem w3744{c:ByteArray}{d:ByteArray}:FX X 95 #[.string c,.string d] h A (.cT 152 #[.string c,.string d] fun a b=>.unStr a fun c=>.unCons b fun a b=>.unStr a fun f=>.unCons b fun a b=>.unB a fun e=>.unNil b (.rt (.tuple #[.string c,.string f,e]))):=fk [] [] [] Tryz.f95
theorem w3768{a:ByteArray}{f:ByteArray}:FX X 152 #[.string a,.string f] h A (.cI 175 #[.string a,.string f] fun b=>bif decide (b>=0) then .both (.sem false (Instr.sliceAt 9 (.string a) none (some (.int .i64 b)) none) fun c=>.unStr c fun e=>.nds [.val (.string f),b,.val (.string a)] (.both (.sem false (Builtin.len_ #[9] 3 #[.string f]) fun g=>.ui g fun d=>.nds [b,.val (.string a)] (.both (.sem false (Instr.sliceAt 9 (.string a) (some (.int .i64 (wrap .i64 (b+d)))) none none) fun c=>.unStr c fun a=>.nds [b,b] (.rt (.tuple #[.string e,.string a,true]))) (.nds [.val (.int .i64 (wrap .i64 (b+d))),b,.val (.string a)] (.sem false (Instr.sliceAt 9 (.string a) (some (.int .i64 (wrap .i64 (b+d)))) none none) fun c=>.unStr c fun a=>.nd b (.rt (.tuple #[.string e,.string a,true])))))) (.nds [.val (.string f),b,.val (.string a)] (.sem false (Builtin.len_ #[9] 3 #[.string f]) fun g=>.ui g fun d=>.nds [b,.val (.string a)] (.sem false (Instr.sliceAt 9 (.string a) (some (.int .i64 (wrap .i64 (b+d)))) none none) fun c=>.unStr c fun a=>.nd b (.rt (.tuple #[.string e,.string a,true]))))))) (.sem false (Builtin.len_ #[9] 3 #[.string f]) fun g=>.ui g fun d=>.nds [b,.val (.string a),b,.val (.string a)] (.both (.sem false (Instr.sliceAt 9 (.string a) none (some (.int .i64 b)) none) fun c=>.unStr c fun e=>.nds [.val (.int .i64 (wrap .i64 (b+d))),b,.val (.string a)] (.both (.sem false (Instr.sliceAt 9 (.string a) (some (.int .i64 (wrap .i64 (b+d)))) none none) fun c=>.unStr c fun a=>.nds [b,b] (.rt (.tuple #[.string e,.string a,true]))) (.nds [.val (.int .i64 (wrap .i64 (b+d))),b,.val (.string a)] (.sem false (Instr.sliceAt 9 (.string a) (some (.int .i64 (wrap .i64 (b+d)))) none none) fun c=>.unStr c fun a=>.nd b (.rt (.tuple #[.string e,.string a,true])))))) (.sem false (Instr.sliceAt 9 (.string a) (some (.int .i64 (wrap .i64 (b+d)))) none none) fun c=>.unStr c fun e=>.nds [b,b,.val (.string a)] (.sem false (Instr.sliceAt 9 (.string a) none (some (.int .i64 b)) none) fun c=>.unStr c fun a=>.nds [b,b] (.rt (.tuple #[.string a,.string e,true])))))) else .rt (.tuple #[.string a,.string { data:=#[] },false])):=fk [] [] [] Tryz.f152
theorem w3745{a:ByteArray}{d:ByteArray}:FX X 96 #[.string a,.string d] h A (.cT 153 #[.string a,.string d] fun b c=>.unStr b fun a=>.unCons c fun b c=>.unB b fun e=>.unNil c (.rt (.tuple #[.string a,e]))):=fk [] [] [] Tryz.f96
theorem w3769{a:ByteArray}{b:ByteArray}:FX X 153 #[.string a,.string b] h A (.cB 157 #[.string a,.string b] fun d=>bif !d then .rt (.tuple #[.string a,false]) else .sem false (Builtin.len_ #[9] 3 #[.string a]) fun c=>.ui c fun e=>.sem false (Builtin.len_ #[9] 3 #[.string b]) fun c=>.ui c fun f=>.sem false (Instr.sliceAt 9 (.string a) none (some (.int .i64 (wrap .i64 (e-f)))) none) fun g=>.unStr g fun a=>.rt (.tuple #[.string a,true])):=fk [] [] [] Tryz.f153
theorem w3772{b:ByteArray}{c:ByteArray}:FX X 157 #[.string b,.string c] h A (.sem false (Builtin.len_ #[9] 3 #[.string b]) fun a=>.ui a fun d=>.sem false (Builtin.len_ #[9] 3 #[.string c]) fun a=>.ui a fun f=>bif decide (d>=f) then .sem false (Builtin.len_ #[9] 3 #[.string b]) fun a=>.ui a fun d=>.sem false (Builtin.len_ #[9] 3 #[.string c]) fun a=>.ui a fun g=>.sem false (Instr.sliceAt 9 (.string b) (some (.int .i64 (wrap .i64 (d-g)))) none none) fun i=>.unStr i fun b=>.sem false (Sem.bind (eqGuard BinOp.eql 9 (Operand.tmp 17) (Operand.tmp 18) (.string b) (.string c)) fun j=>binOp BinOp.eql 9 (.string b) (.string c)) fun a=>.unB a fun e=>.rt (.bool e) else .rt (.bool false)):=fk [] [] [] Tryz.f157
theorem w3746{a:ByteArray}{b:ByteArray}:FX X 97 #[.string a,.string b] h A (.cl 154 #[.string a,.string b,.int .i64 0,.int .i64 (-1)] fun f=>.unS f fun c e d=>.rt (.slice c e d)):=fk [] [] [] Tryz.f97
theorem w3770{d:ByteArray}{j:ByteArray}:FX X 154 #[.string d,.string j,a,b] h A (bif b==0 then .rt (.slice none 0 0) else .sem false (Sem.bind (eqGuard BinOp.eql 9 (Operand.tmp 14) (Operand.const (.string { data:=#[] })) (.string j) (.string { data:=#[] })) fun t=>binOp BinOp.eql 9 (.string j) (.string { data:=#[] })) fun f=>.unB f fun o=>bif o then .cl 176 #[.string d,b] fun f=>.unS f fun e b k=>.rt (.slice e b k) else .blk (bif decide (b<0) then .cI 177 #[.string d,.string j] fun b=>.ag [.int .i64 (wrap .i64 (b+1))] else .ag [b]) (fun c=>.pi c fun b c=>.unNil c (.sem false (Builtin.len_ #[9] 3 #[.string d]) fun f=>.ui f fun i=>.sem false (Instr.makeSlice 81 (.int .i64 (if wrap .i64 (i+1)<b then wrap .i64 (i+1) else b)) (.int .i64 (if wrap .i64 (i+1)<b then wrap .i64 (i+1) else b))) fun f=>.unS f fun e m k=>.loop [.string d,.int .i64 0] (fun c=>.popStr c fun d c=>.pi c fun g c=>.unNil c (bif decide (g<wrap .i64 ((if wrap .i64 (i+1)<b then wrap .i64 (i+1) else b)-1)) then .cI 178 #[.string d,.string j] fun b=>bif decide (b<0) then .bk [.string d,g] else .sem false (Instr.sliceAt 9 (.string d) none (some (.int .i64 (wrap .i64 (b+a)))) none) fun l=>.unStr l fun q=>.need (0<=g/\g<(↑m:Int)) (.someA e fun e=>.store ((e.add (g.toNat*1)).add 0) (.string q) (.sem false (Builtin.len_ #[9] 3 #[.string j]) fun f=>.ui f fun p=>.sem false (Instr.sliceAt 9 (.string d) (some (.int .i64 (wrap .i64 (b+p)))) none none) fun l=>.unStr l fun d=>.ag [.string d,.int .i64 (wrap .i64 (g+1))])) else .bk [.string d,g])) (fun c=>.popStr c fun d c=>.pi c fun b c=>.unNil c (.need (0<=b/\b<(↑m:Int)) (.someA e fun n=>.store ((n.add (b.toNat*1)).add 0) (.string d) (.sem false (Instr.sliceAt 81 (.slice e m k) none (some (.int .i64 (wrap .i64 (b+1)))) none) fun l=>.unS l fun e b k=>.rt (.slice e b k))))) (fun c=>.popStr c fun d c=>.pi c fun b c=>.unNil c (.rt (.slice none 0 0))) fun r s=>.fail)) (fun c=>.pi c fun b c=>.unNil c (.rt (.slice none 0 0))) fun r s=>.fail):=fk [] [⟨0,[(0,.str),(10,.int .i64)],[],[],[],[]⟩] [⟨7,[(3,.int .i64)],[],[],[],[]⟩] Tryz.f154
theorem w3776{d:ByteArray}{g:ByteArray}:FX X 175 #[.string d,.string g] h A (.sem false (Builtin.len_ #[9] 3 #[.string g]) fun c=>.ui c fun b=>.blk (.blk (bif b==0 then .ag [true] else .sem false (Sem.bind (eqGuard BinOp.eql 9 (Operand.tmp 20) (Operand.tmp 21) (.string g) (.string d)) fun u=>binOp BinOp.eql 9 (.string g) (.string d)) fun c=>.unB c fun i=>.ag [i]) (fun a=>.popB a fun i a=>.unNil a (bif i then .rn [.int .i64 0] else bif b==1 then .sem false (Instr.index 9 (.string g) (.int .i64 0)) fun c=>.unI .u8 c fun b=>.cI 151 #[.string d,.int .u8 b] fun b=>.rn [b] else .sem false (Builtin.len_ #[9] 3 #[.string d]) fun c=>.ui c fun r=>bif decide (b>=r) then .rn [.int .i64 (-1)] else .li { block:=4,off:=0 } fun p=>bif decide (b<=p) then .sem false (Builtin.len_ #[9] 3 #[.string d]) fun c=>.ui c fun b=>bif decide (b<=64) then .callv false (.func (Fn.func 202) #[] #[]) #[.string d,.string g] fun c=>.ui c fun b=>.rn [b] else .ag [.int .i64 0] else .ag [.int .i64 0])) (fun a=>.popB a fun i a=>.unNil a (.rn [.int .i64 0])) fun n o=>.fail) (fun a=>.pi a fun r a=>.unNil a (.sem false (Instr.index 9 (.string g) (.int .i64 0)) fun c=>.unI .u8 c fun p=>.sem false (Instr.index 9 (.string g) (.int .i64 1)) fun c=>.unI .u8 c fun v=>.sem false (Builtin.len_ #[9] 3 #[.string d]) fun c=>.ui c fun t=>.loop [r,.int .i64 0,.int .i64 0] (fun a=>.pi a fun q a=>.pi a fun j a=>.pi a fun f a=>.unNil a (bif decide (j<wrap .i64 (wrap .i64 (t-b)+1)) then .blk (.sem false (Instr.index 9 (.string d) (.int .i64 j)) fun c=>.unI .u8 c fun m=>bif m != p then .sem false (Instr.sliceAt 9 (.string d) (some (.int .i64 (wrap .i64 (j+1)))) (some (.int .i64 (wrap .i64 (wrap .i64 (t-b)+1)))) none) fun k=>.unStr k fun d=>.cI 151 #[.string d,.int .u8 p] fun b=>bif decide (b<0) then .rn [.int .i64 (-1),j] else .ag [q,.int .i64 (wrap .i64 (j+wrap .i64 (b+1)))] else .ag [q,j]) (fun a=>.pi a fun m a=>.pi a fun e a=>.unNil a (.blk (.sem false (Instr.index 9 (.string d) (.int .i64 (wrap .i64 (e+1)))) fun c=>.unI .u8 c fun l=>bif l==v then .sem false (Instr.sliceAt 9 (.string d) (some (.int .i64 e)) (some (.int .i64 (wrap .i64 (e+b)))) none) fun k=>.unStr k fun d=>.sem false (Sem.bind (eqGuard BinOp.eql 9 (Operand.tmp 90) (Operand.tmp 91) (.string d) (.string g)) fun u=>binOp BinOp.eql 9 (.string d) (.string g)) fun c=>.unB c fun i=>bif i then .rn [e] else .ag [m] else .ag [m]) (fun a=>.pi a fun l a=>.unNil a (.blk (.li { block:=4,off:=0 } fun s=>bif decide (b<=s) then .cI 203 #[.int .i64 (wrap .i64 (e+1))] fun b=>.ag [.bool (decide (wrap .i64 (f+1)>b))] else .ag [false]) (fun a=>.popB a fun i a=>.unNil a (bif i then .sem false (Instr.sliceAt 9 (.string d) (some (.int .i64 (wrap .i64 (e+1)))) none none) fun k=>.unStr k fun d=>.callv false (.func (Fn.func 202) #[] #[]) #[.string d,.string g] fun c=>.ui c fun b=>bif decide (b>=0) then .rn [.int .i64 (wrap .i64 (b+wrap .i64 (e+1))),.int .i64 (wrap .i64 (e+1)),.int .i64 (wrap .i64 (f+1))] else .rn [.int .i64 (-1),.int .i64 (wrap .i64 (e+1)),.int .i64 (wrap .i64 (f+1))] else .li { block:=4,off:=0 } fun s=>bif decide (b>s) then .need ((0:Int)<=4) (bif decide (wrap .i64 (f+1)>=wrap .i64 (4+Int.fdiv (wrap .i64 (e+1)) (2^4))) then bif decide (wrap .i64 (e+1)<wrap .i64 (wrap .i64 (t-b)+1)) then .sem false (Instr.sliceAt 9 (.string d) (some (.int .i64 (wrap .i64 (e+1)))) none none) fun k=>.unStr k fun d=>.cI 204 #[.string d,.string g] fun b=>bif decide (b<0) then .rn [.int .i64 (-1),.int .i64 (wrap .i64 (e+1)),.int .i64 (wrap .i64 (f+1))] else .rn [.int .i64 (wrap .i64 (wrap .i64 (e+1)+b)),.int .i64 (wrap .i64 (e+1)),.int .i64 (wrap .i64 (f+1))] else .ag [l,.int .i64 (wrap .i64 (e+1)),.int .i64 (wrap .i64 (f+1))] else .ag [l,.int .i64 (wrap .i64 (e+1)),.int .i64 (wrap .i64 (f+1))]) else .ag [l,.int .i64 (wrap .i64 (e+1)),.int .i64 (wrap .i64 (f+1))])) (fun a=>.popB a fun i a=>.unNil a (.rn [l,.int .i64 (wrap .i64 (e+1)),.int .i64 (wrap .i64 (f+1))])) fun n o=>.fail)) (fun a=>.pi a fun b a=>.unNil a (.rn [b,e,f])) fun n o=>.fail)) (fun a=>.pi a fun b a=>.pi a fun m a=>.unNil a (.rn [b,m,f])) fun n o=>.fail else .bk [q,j,f])) (fun a=>.pi a fun b a=>.pi a fun b a=>.pi a fun b a=>.unNil a (.rt (.int .i64 (-1)))) (fun a=>.pi a fun b a=>.pi a fun q a=>.pi a fun j a=>.unNil a (.rt (.int .i64 b))) fun n o=>.fail)) (fun a=>.pi a fun b a=>.unNil a (.rt (.int .i64 b))) fun n o=>.fail):=fk [] [⟨1,[(4,.int .i64),(8,.int .i64),(10,.int .i64)],[],[],[],[]⟩] [⟨2000016,[(16,.bool)],[],[],[],[]⟩,⟨2000107,[(107,.bool)],[],[],[],[]⟩,⟨23,[(4,.int .i64)],[],[],[],[]⟩,⟨21,[(4,.int .i64),(8,.int .i64)],[],[],[],[]⟩,⟨10,[(4,.int .i64)],[],[],[],[]⟩] Tryz.f175
theorem w3778{c:ByteArray}{e:ByteArray}:FX X 177 #[.string c,.string e] h A (.sem false (Builtin.len_ #[9] 3 #[.string e]) fun d=>.ui d fun b=>bif b==0 then .cI 205 #[.string c] fun b=>.rt (.int .i64 (wrap .i64 (b+1))) else .sem false (Builtin.len_ #[9] 3 #[.string e]) fun d=>.ui d fun b=>bif b==1 then .sem false (Instr.index 9 (.string e) (.int .i64 0)) fun d=>.unI .u8 d fun b=>.callv false (.func (Fn.func 207) #[] #[]) #[.string c,.int .u8 b] fun d=>.ui d fun b=>.rt (.int .i64 b) else .loop [.string c,.int .i64 0,.int .i64 0] (fun a=>.popStr a fun c a=>.pi a fun b a=>.pi a fun f a=>.unNil a (.cI 178 #[.string c,.string e] fun g=>bif g==-1 then .rn [.string c,f,f] else .sem false (Builtin.len_ #[9] 3 #[.string e]) fun d=>.ui d fun i=>.sem false (Instr.sliceAt 9 (.string c) (some (.int .i64 (wrap .i64 (g+i)))) none none) fun j=>.unStr j fun c=>.ag [.string c,b,.int .i64 (wrap .i64 (f+1))])) (fun a=>.popStr a fun c a=>.pi a fun b a=>.pi a fun f a=>.unNil a (.rt (.int .i64 b))) (fun a=>.popStr a fun c a=>.pi a fun b a=>.pi a fun f a=>.unNil a (.rt (.int .i64 b))) fun k l=>.fail):=fk [] [⟨0,[(0,.str),(4,.int .i64),(5,.int .i64)],[],[],[],[]⟩] [] Tryz.f177
theorem w3779{a:ByteArray}{b:ByteArray}:FX X 178 #[.string a,.string b] h A (.cI 175 #[.string a,.string b] fun c=>.rt (.int .i64 c)):=fk [] [] [] Tryz.f178
end Go.Y
end
section
namespace Go.TM.Tp
section
variable {P:Program} {E:Halt->Cells->Prop} {h:Cells}
theorem Dh{Q:Bool->Cells->Prop}{t te:TypeId}{j:TypeInfo}{d:Nat}{a b:Option Addr}(g:P.underlying t=some (.pointer te))(f:P.info? te=some j)(h0:j.size≠0)(c:a=none\/b=none\/a=b)(e:Q (decide (a=b)) h):Qc P (Op.equalIn (d+1) t (.pointer a) (.pointer b)) Q E h:=by
 unfold Op.equalIn;simp only[lwp_bind,Qa g];cases a with
 | none =>
  simp only[Qe];cases b<;>simpa using e
 | some a =>
  cases b with
  | none=>simp only[Qe];simpa using e
  | some b =>
   have:a=b:=by
    rcases c with h|h|h
    ·cases h
    ·cases h
    ·exact Option.some.inj h
   subst this;simp only[lwp_bind,Qx f];rw[if_pos h0];unfold sameAddr;simp only[beq_self_eq_true,if_true,Qe];simpa using e
end
section
variable {X:XP} {P:Program} {Q:Leaf->LH->Prop}
variable {h:LH}{K:Value->T}{t te:TypeId}{x y:Operand}{a b:Option Addr}
theorem t_eqP{j:TypeInfo}(f:P.underlying t=some (.pointer te))(d:P.info? te=some j)(h0:j.size≠0)(c:a=none\/b=none\/a=b)(e:(K (.bool (decide (a=b)))).wp X P Q h) :
  (T.sem false (Sem.bind (eqGuard .eql t x y (.pointer a) (.pointer b)) fun _=>binOp .eql t (.pointer a) (.pointer b)) K).wp X P Q h:=by
 refine Q6 (A:=fun w h'=>w=.bool (decide (a=b))/\h'=h.get) (Qt _ _ ?_) (by rintro w h' ⟨rfl,rfl⟩;exact e);unfold eqGuard;simp only[Bool.not_true,Bool.false_eq_true,if_false,Qe];unfold binOp;simp only[lwp_bind];exact Dh f d h0 c ⟨rfl,rfl⟩
theorem t_neP{j:TypeInfo}(f:P.underlying t=some (.pointer te))(d:P.info? te=some j)(h0:j.size≠0)(c:a=none\/b=none\/a=b)(e:(K (.bool (!decide (a=b)))).wp X P Q h) :
  (T.sem false (Sem.bind (eqGuard .neq t x y (.pointer a) (.pointer b)) fun _=>binOp .neq t (.pointer a) (.pointer b)) K).wp X P Q h:=by
 refine Q6 (A:=fun w h'=>w=.bool (!decide (a=b))/\h'=h.get) (Qt _ _ ?_) (by rintro w h' ⟨rfl,rfl⟩;exact e);unfold eqGuard;simp only[Bool.not_true,Bool.false_eq_true,if_false,Qe];unfold binOp;simp only[lwp_bind];exact Dh f d h0 c ⟨rfl,rfl⟩
end
end Go.TM.Tp
end
namespace Go.TM
section
variable {P:Program}
variable {f:FuncId}{first args cap hargs:Array Value}{s:Script}{h:LH}{a k:Cells}{c:Nat}{v:Value}{last:Bool}{Q:Value->LH->Prop}
theorem spawn_wk{hc:Cells}(e:s≠[])(m:(first++args)++cap=hargs)(c:FWK XW P .deferred f hargs ⟨hc,[],[],s⟩ fun _ _=>False) :
  Wk P (G (baseOf P [deferOf (.func (.func f) first cap) args]) []) ⟨hc,[],[],s⟩:=by
 obtain⟨⟨fn,n,hb,b⟩,j⟩:=c;have hgo:=j false _ (wk_closed P) [baseOf P []] (.inr ⟨rfl,rfl⟩) (fun _ _ _ _ _ _ _ o=>o.elim) rfl e;have k:fn.body.isNone=false:=by cases h:fn.body<;>simp_all
 refine .step (N:=fun g h=>g=G (Frame.enter P f hargs .deferred) [baseOf P []]/\h=⟨hc,[],[],s⟩) e ?_ ?_
 ·intro w d;refine⟨_,w,#[],hc,?_,Tr.refl d,by simp,rfl,rfl⟩;have a:(callFunc f hargs).runT P w #[]=(.ok (.enter f hargs) w,#[]):=by
   show ((program).bind _).runT P w #[]=_;simp only[program,Sem.bind,Sem.runT,n,b,k,Bool.false_eq_true,if_false];rfl
  have p:(callFunc f hargs).run P w=.ok (.enter f hargs) w:=by rw[<- Sem.runT_fst _ _ _ #[],a]
  have q:(callFunc f hargs).events P w #[]=#[]:=by show ((callFunc f hargs).runT P w #[]).2=_;rw[a]
  have hinv:invoke (deferOf (.func (.func f) first cap) args).target (deferOf (.func (.func f) first cap) args).args=callFunc f hargs:=by rw[<- m];rfl
  have i:((deferOf (.func (.func f) first cap) args).target matches .nil)=false:=rfl;have l:∀ fr cs,callDeferred P fr cs none (deferOf (.func (.func f) first cap) args) w=.go (G (Frame.enter P f hargs .deferred) (fr::cs)) w (seen P fr.fn #[]):=by
   intro fr cs;unfold callDeferred;simp only[hinv,i,Bool.false_and,Bool.false_eq_true,if_false,a];rfl
  show unwind P false (baseOf P [deferOf (.func (.func f) first cap) args]) [] none w=_;unfold unwind;simp only[baseOf,deferOf];exact l _ _
 ·rintro _ _ ⟨rfl,rfl⟩;exact hgo
theorem spawnW{Q:LH->Prop}(F:Nat->Bool)(hc:Cells)(s:Script)(g:s≠[])(q:(first++args)++cap=hargs)(l:∀ r x,hc r=some x->x.1=false/\freezeC F h.get r=some x)
 (j:[]∉h.pend)(i:∀ y∈s,y.1∈h.chans)(c:FWK XW P .deferred f hargs ⟨hc,[],[],s⟩ fun _ _=>False)(o:Q { h with get:=freezeC F h.get,pend:=h.pend++[s] }):SpawnW XT P (.func (.func f) first cap) args h Q:=by
 intro main R p fr cs _ _ m k d t;obtain⟨rfl,_,n,_,_⟩:=p.2;refine n fr cs (h.add k) (fun r=>F r&&(h.get r).isSome) hc _ s ⟨m⟩ ?_ g j i (spawn_wk g q c) ?_
 ·intro r x u;obtain⟨a,b⟩:=l r x u;refine⟨a,?_⟩;show freezeC _ (h.get.add k) r=_;rw[Wl];exact Qj b
 ·have e:freezeC (fun r=>F r&&(h.get r).isSome) (h.add k).get=(freezeC F h.get).add k:=Wl F h.get k;rw[e];refine t { h with get:=freezeC F h.get,pend:=h.pend++[s] } ?_ o;intro r;rcases d r with hr|hr
  ·left;simp only[freezeC,hr]
  ·exact .inr hr
theorem drop_add(b:k c=none):dropC (a.add k) c=(dropC a c).add k:=by
 funext r;unfold dropC Cells.add;by_cases e:r=c
 ·subst e;simp[b]
 ·simp[e]
theorem upd_add{x:Bool×Obj}:(a.add k).upd c x=(a.upd c x).add k:=by
 funext r;unfold Cells.upd Cells.add;by_cases e:r=c<;>simp[e]
theorem Disj.drop(d:Disj a k)(c:Nat):Disj (dropC a c) k:=by
 intro r;rcases d r with hr|hr
 ·left;unfold dropC;split
  ·rfl
  ·exact hr
 ·exact .inr hr
theorem SpawnW.opened{Q:LH->Prop}(e:[]∉h.pend)(c s:Nat)(j:h.get c=some (true,.chan 0 #[] false s s false))(l:SpawnW XT P v args { h with get:=dropC h.get c,chans:=c::h.chans } Q):SpawnW XT P v args h Q:=by
 intro main R i fr cs b a g k d m;have f:k c=none:=by
  rcases d c with h'|h'
  ·rw[j]at h';cases h'
  ·exact h'
 refine i.2.2.2.2.1 _ (h.add k) c s e (Qj j) ?_;have:=l main R i fr cs b a g k (d.drop c) m;unfold LH.add at this ⊢;simp only[drop_add f];exact this
theorem commW_recv{cases:Array CommCase}{shape:CommShape}(recv:∀ (k:Nat) (i:CommCase),cases[k]?=some i->∃ c z,i=rcase c z/\c∈h.chans)(some_:h.pend≠[])
 (heads:∀ s∈h.pend,∃ (c:Nat) (φ:Value->Cells->Prop) (t:Script) (k:Nat) (z:Value),s=(c,φ)::t/\cases[k]?=some (rcase c z))
 (n:∀ pre φ s post (k:Nat) c v hv z,h.pend=pre++((c,φ)::s)::post->cases[k]?=some (rcase c z)->Disj h.get hv->(∀ r x,hv r=some x->x.1=true)->φ v hv ->
   Q (commResult cases shape (k:Nat) v true) { h with get:=h.get.add hv,pend:=pre++cons' s post }):CommW XT P last cases shape h Q:=by
 intro main R o fr cs _ _ _ f k d p;obtain⟨rfl,m,_,_,_⟩:=o.2;refine m fr cs cases shape (h.add k) ⟨f,recv,some_,heads⟩ ?_;intro pre φ s post j c v hv z q a l b g;have d1:Disj h.get hv:=l.of_add_left;have d2:Disj k hv:=Qz d l;have e:((h.get.add hv).add k)=((h.get.add k).add hv):=Q4 d2.symm;have:=p _ { h with get:=h.get.add hv,pend:=pre++cons' s post } (Disj.add d d2.symm) (n pre φ s post j c v hv z q a d1 b g);unfold LH.add at this;simp only[e]at this;exact this
theorem CommW.closed{cases:Array CommCase}{shape:CommShape}
 (p:CommW XT P last cases shape h fun v h'=>Q v h'\/∃ c∈h'.chans,h'.pend=[]/\∀ s,h'.get c=none->Q v { h' with get:=h'.get.upd c (true,.chan 0 #[] false s s false),chans:=h'.chans.filter (·≠c) }):CommW XT P last cases shape h Q:=by
 intro main R n fr cs g f q l k d o;refine p main R n fr cs g f q l k d ?_;rintro v h' m (j|⟨c,hc,t,j⟩)
 ·exact o v h' m j
 ·refine n.2.2.2.2.2 _ (h'.add k) c hc t ?_;intro a s;have b:h'.get c=none:=by
   cases u:h'.get c with
   | none=>rfl
   | some x=>rw[show (h'.add k).get c=some x from Qj u]at a;cases a
  have i:k c=none:=by
   have:=a;rw[show (h'.add k).get c=k c from Qv b]at this;exact this
  have d2:Disj (h'.get.upd c (true,.chan 0 #[] false s s false)) k:=by
   intro r;by_cases e:r=c
   ·right;rw[e];exact i
   ·rw[Qm _ _ e];exact m r
  have:=o v _ d2 (j s b);unfold LH.add at this ⊢;simp only[upd_add];exact this
theorem commW_send{z:Value}{φ:Value->Cells->Prop}{hv hr:Cells}(todo:h.todo=(c,φ)::s)(get:h.get=hv.add hr)(disj:Disj hv hr)(own:∀ r x,hv r=some x->x.1=true)
 (val:φ v hv)(p:s=[]->last=true)(m:s≠[]->Q undef { h with get:=hr,todo:=s }):CommW XW P last #[scase c v z] .send h Q:=by
 intro main R n fr cs f b a i k d o;obtain⟨rfl,l⟩:=n.2;have j:Sends P fr cs h c z v φ s hv hr:=⟨f,i,todo,get,disj,own,val⟩
 exact l fr cs (h.add k) c z v φ s hv (hr.add k) b (j.frame d) (fun e=>a (p e)) fun g=>o undef { h with get:=hr,todo:=s } (j.rest d) (m g)
end
section
variable {P:Program} {X:XP} {Q:Leaf->LH->Prop} {h:LH}
variable {t el:TypeId}{s b c n:Nat}{z:Option Value}{K:Value->T}{x y:Operand}{a:Option Addr}
theorem t_spawn{v:Value}{args:Array Value}{k:T}(a:SpawnW X P v args h fun h'=>k.wp X P Q h'):(T.spawn v args k).wp X P Q h:=a
theorem U2{last:Bool}{cases:Array CommCase}{shape:CommShape}{k:Value->T}(hc:CommW X P last cases shape h fun v h'=>(k v).wp X P Q h'):(T.comm last cases shape k).wp X P Q h:=hc
theorem t_makeChan{d:ChanDir}(hu:P.underlying t=some (.chan d el))(a:(P.info? el).map (fun i=>(i.size,i.bytes,i.zero))=some (s,b,z))
 (c:∀ r,h.get r=none->(K (.chan (some r))).wp X P Q { h with get:=h.get.upd r (true,.chan 0 #[] false 0 0 false) }):(T.sem false (Instr.makeChan t (.int .i64 0)) K).wp X P Q h:=by
 obtain⟨inf,g1,_,_,_⟩:=Zj a;refine Q6 (A:=fun v h'=>∃ r,h.get r=none/\v=.chan (some r)/\h'=h.get.upd r (true,.chan 0 #[] false 0 0 false)) ?_ (by rintro v h' ⟨r,hr,rfl,rfl⟩;exact c r hr);unfold Instr.makeChan;have e:IntKind.i64.max=9223372036854775807:=rfl;simp only[asInt,asIntOf,lwp_bind,Qe,Qa hu,Jl g1];rw[if_neg (by rw[e];omega)];rw[lwp_bind];intro r hr;exact⟨r,hr,rfl,rfl⟩
theorem t_close{ts:Array TypeId}{ty:TypeId}(hc:h.get c=some (true,.chan 0 #[] false s s false))(a:(K (.tuple #[])).wp X P Q { h with get:=h.get.upd c (true,.chan 0 #[] true s s false) }):(T.sem false (Builtin.close_ ts ty #[.chan (some c)]) K).wp X P Q h:=by
 refine Q6 (A:=fun v h'=>v=.tuple #[]/\h'=h.get.upd c (true,.chan 0 #[] true s s false)) ?_ (by rintro v h' ⟨rfl,rfl⟩;exact a);change Qc P (getObj c >>= _) _ _ _;rw[lwp_bind];exact⟨_,_,hc,trivial,⟨_,hc,trivial⟩,rfl,rfl⟩
theorem t_eqNil(hu:P.underlying t=some (.slice el))(d:(K (.bool a.isNone)).wp X P Q h) :
  (T.sem false (Sem.bind (eqGuard .eql t x y (.slice a n c) (.slice none 0 0)) fun _=>binOp .eql t (.slice a n c) (.slice none 0 0)) K).wp X P Q h:=by
 refine Q6 (A:=fun w h'=>w=.bool a.isNone/\h'=h.get) (Qt _ _ ?_) (by rintro w h' ⟨rfl,rfl⟩;exact d);unfold eqGuard;simp only[Bool.not_true,Bool.false_eq_true,if_false,Qe];unfold binOp Op.equal;have b:Op.maxDepth=9999+1:=rfl;rw[lwp_bind,b,Op.equalIn,lwp_bind,Qa hu];cases a<;>exact⟨rfl,rfl⟩
theorem t_neNil(hu:P.underlying t=some (.slice el))(d:(K (.bool a.isSome)).wp X P Q h) :
  (T.sem false (Sem.bind (eqGuard .neq t x y (.slice a n c) (.slice none 0 0)) fun _=>binOp .neq t (.slice a n c) (.slice none 0 0)) K).wp X P Q h:=by
 refine Q6 (A:=fun w h'=>w=.bool a.isSome/\h'=h.get) (Qt _ _ ?_) (by rintro w h' ⟨rfl,rfl⟩;exact d);unfold eqGuard;simp only[Bool.not_true,Bool.false_eq_true,if_false,Qe];unfold binOp Op.equal;have b:Op.maxDepth=9999+1:=rfl;rw[lwp_bind,b,Op.equalIn,lwp_bind,Qa hu];cases a<;>exact⟨rfl,rfl⟩
theorem t_build0(hu:P.underlying t=some (.slice el))(c:(P.info? el).map (fun i=>(i.size,i.bytes,i.zero))=some (s,b,z))
 (d:∀ r,h.get r=none->(K (.slice (some ⟨r,0,none⟩) 0 0)).wp X P Q { h with get:=h.get.upd r (true,.cells #[] el (0,0)) }):(T.sem false (Instr.buildSlice t 0 #[]) K).wp X P Q h:=by
 obtain⟨inf,g1,_,_,_⟩:=Zj c;refine Q6 (A:=fun v h'=>∃ r,h.get r=none/\v=.slice (some ⟨r,0,none⟩) 0 0/\h'=h.get.upd r (true,.cells #[] el (0,0))) ?_ (by rintro v h' ⟨r,hr,rfl,rfl⟩;exact d r hr);unfold Instr.buildSlice;simp only[lwp_bind,Qa hu,Qx g1,Nat.zero_mul,Qe];rw[if_neg (by omega)];simp only[if_true,lwp_bind,Qe];have a:Instr.fill (fun i=>some (i*inf.size,inf.size)) (Array.map (fun x=>(#[]:Array Value)[x%(#[]:Array Value).size]!) (Array.range 0)) (#[]:Array (Nat×Value)).toList=some #[]:=by simp[Instr.fill]
 rw[a];simp only[lwp_bind];exact J7 fun r hr=>⟨r,hr,rfl,rfl⟩
end
section
theorem Addr.add_add'(a:Addr)(x y:Nat):(a.add x).add y=a.add (x+y):=by
 unfold Addr.add;by_cases b:x=0
 ·subst b;simp
 ·by_cases c:y=0
  ·subst c;simp[b]
  ·simp[b,c];omega
section
variable {P:Program} {X:XP} {Q:Leaf->LH->Prop}
theorem OwnRow.le_cap{el:TypeId}{k:Nat}{h:Cells}{p:Option Addr}{n c:Nat}{vs:List Value}(o:OwnRow el k h p n c vs):n<=c:=by
 rcases o.2 with⟨_,a,b⟩|⟨_,_,_,_,_,h,_⟩
 ·omega
 ·exact h
end
end
section
def Ov(h0:Cells)(h h':LH):Prop:=(∀ r x,h0 r≠none->h.get r=some x->h'.get r=some x)/\h'.chans=h.chans/\h'.pend=h.pend/\h'.todo=h.todo
theorem Ov.le_of{h0 h h':LH}(a:h0.le h)(o:Ov h0.get h h'):h0.le h':=⟨fun r x b=>o.1 r x (by rw[b];simp) (a.1 r x b),o.2.1.trans a.2.1,o.2.2.1.trans a.2.2.1,o.2.2.2.trans a.2.2.2⟩
def But(m:Nat)(h h':LH):Prop:=(∀ r,r≠m->h'.get r=h.get r)/\h'.chans=h.chans/\h'.pend=h.pend/\h'.todo=h.todo
theorem But.ov{m:Nat}{h0:Cells}{h h':LH}(b:But m h h')(hm:h0 m=none):Ov h0 h h':=⟨fun r x hr a=>by rw[b.1 r (fun e=>hr (by rw[e];exact hm))];exact a,b.2⟩
theorem Jx{h:Cells}{b i:Nat}{m:Bool}{cs:Array Value}{el:TypeId}{a:Nat×Nat}{v:Value}(hb:h b=some (m,.cells cs el a))(hv:cs[i]?=some v):h.cell? ⟨b,i,none⟩=some v:=by
 unfold Cells.cell?;rw[hb];exact hv
section
variable {X:XP} {P:Program} {Q:Leaf->LH->Prop}
variable {h:LH}{el:TypeId}{cs:Array Value}
theorem H8{k:Nat->T}(b:∀ r a,h.le a->h.get r=none->a.get r=some (true,.cells cs el (0,0))->(k r).wp X P Q a):(T.new el cs k).wp X P Q h :=
 Z1 fun r hr=>b r _ (Qr hr) hr (Qk _ _ _)
theorem Z0{k:T}{b i:Nat}{v v₀:Value}(hb:h.get b=some (true,.cells cs el (0,0)))(a:isOne v=true)(hv:cs[i]?=some v₀)(c:∀ a:LH,But b h a->a.get b=some (true,.cells (cs.setIfInBounds i v) el (0,0))->k.wp X P Q a):(T.store ⟨b,i,none⟩ v k).wp X P Q h:=by
 refine Hp a ⟨_,hb⟩ (Jx hb hv) (by simp[Cells.frozen?,hb]) (c _ ⟨fun r hr=>?_,rfl,rfl,rfl⟩ ?_)
 ·show h.get.setCell _ _ r=_;unfold Cells.setCell;rw[if_neg hr]
 ·show h.get.setCell _ _ b=_;unfold Cells.setCell;rw[if_pos rfl,hb];rfl
end
end
end Go.TM
section
namespace Go.Y.Txt
open Go.TM.Tp
attribute [local irreducible] T.wp CV FWK
theorem undPB:Tryz.prog.underlying 77=some (.pointer 80):=by kernel_rfl
theorem undUP:Tryz.prog.underlying 231=some .unsafePointer:=by kernel_rfl
theorem infB:(Tryz.prog.info? 80).map (·.size)=some 2:=by kernel_rfl
theorem liesB:liesAt Tryz.prog Tryz.prog.depth 80 (2 / Tryz.prog.cellsOf 80) 0 80 1=true:=by kernel_rfl
theorem infoB:∃ j,Tryz.prog.info? 80=some j/\j.size=2:=by
 have h:=infB;cases e:Tryz.prog.info? 80 with
 | none=>rw[e]at h;cases h
 | some j=>rw[e]at h;exact⟨j,rfl,Option.some.inj h⟩
theorem cv_noEscape{X:XP}{h:LH}(v:Value):CV X Tryz.prog (.func (.func 146) #[] #[]) #[v] h (fun r h'=>r=v/\h'=h):=by
 refine K0 (e:=Extern.AbiNoEscape.same) (fd:=Tryz.f146) (by kernel_rfl) (by kernel_rfl) (by kernel_rfl) (by kernel_rfl) (by kernel_rfl) ?_;show Qc _ (pure v) _ _ _;rw[Qe];exact⟨rfl,rfl⟩
theorem c3739{h:LH}{r:Nat}{p:Option Addr}{v:Value}(hb:h.get r=some (true,.cells #[.pointer p,v] 80 (0,0)))(m:p=none\/p=some ⟨r,0,none⟩) :
  FW X0 Tryz.prog 84 #[.pointer (some ⟨r,0,none⟩)] h fun w h'=>w=.tuple #[]/\But r h h'/\h'.get r=some (true,.cells #[.pointer (some ⟨r,0,none⟩),v] 80 (0,0)):=by
 obtain⟨j,c,l⟩:=infoB;have f:j.size≠0:=by omega
 have hc:0<(#[Value.pointer p,v]:Array Value).size:=Nat.zero_lt_succ _;refine w3739 Qn ?_;have g0:h.get.cell? ((⟨r,0,none⟩ : Addr).add 0)=some (.pointer p):=Jx (i:=0) hb rfl;refine gS2 rfl (gL3 g0 ?_);refine t_eqP undPB c f (.inr (.inl rfl)) ?_;refine yI (fun e=>?_) (fun e=>?_)
 ·have a:p=none:=by simpa using e
  refine Q6 (A:=fun w h'=>w=.pointer (some ⟨r,0,none⟩)/\h'=h.get) ?_ ?_
  ·have d:=lwp_toUnsafe (P:=Tryz.prog) (E:=fun _ _=>False) (Q:=fun w h'=>w=.pointer (some ⟨r,0,none⟩)/\h'=h.get) undPB undUP c f hb hc (And.intro rfl rfl);exact d
  rintro _ _ ⟨rfl,rfl⟩;refine gZ ?_;refine Q7 (cv_noEscape _) ?_;rintro _ _ ⟨rfl,rfl⟩;refine gZ ?_;refine Q6 (A:=fun w h'=>w=.pointer (some ⟨r,0,none⟩)/\h'=h.get) ?_ ?_
  ·have d:=lwp_fromUnsafe (P:=Tryz.prog) (E:=fun _ _=>False) (Q:=fun w h'=>w=.pointer (some ⟨r,0,none⟩)/\h'=h.get) undUP undPB c hb liesB (And.intro rfl rfl);exact d
  rintro _ _ ⟨rfl,rfl⟩;refine gZ ?_;refine Z0 (i:=0) hb rfl (by rfl) fun b k a=>?_;exact Qg ⟨rfl,k,a⟩
 ·have a:p=some ⟨r,0,none⟩:=by
   rcases m with b|b
   ·rw[b]at e;simp at e
   ·exact b
  refine gS2 rfl (gL3 g0 ?_);refine t_neP undPB c f (.inr (.inr a)) ?_;refine gZ ?_;refine Qp (fun g=>by rw[a]at g;simp at g) (fun _=>?_);refine Qg ⟨rfl,⟨fun _ _=>rfl,rfl,rfl,rfl⟩,?_⟩;rw[<- a];exact hb
end Go.Y.Txt
end
namespace Go.TM.Tp
section
open Go.Lib (decDigits)
abbrev Bs:=List UInt8
def cut(c:UInt8):Bs->List Bs
 | []=>[[]]
 | b::l=>if b=c then []::cut c l else (b::(cut c l).headD [])::(cut c l).tail
variable {k:Nat}{l:List Nat}
theorem Kq(c:UInt8):∀ l,cut c l≠[]
 | []=>by simp[cut]
 | b::l=>by unfold cut;split<;>simp
theorem Zg{c:UInt8}:∀ {l:Bs},c∉l->cut c l=[l]
 | [],_=>rfl
 | b::l,h=>by
  have a:b≠c:=fun e=>h (by simp[e]);have d:c∉l:=fun e=>h (by simp[e]);unfold cut;rw[if_neg a,Zg d];rfl
theorem Zr{c:UInt8}:∀ {a l:Bs},c∉a->cut c (a++c::l)=a::cut c l
 | [],l,_=>by simp[cut]
 | b::a,l,h=>by
  have d:b≠c:=fun e=>h (by simp[e]);have f:c∉a:=fun e=>h (by simp[e]);rw[List.cons_append,cut,if_neg d,Zr f];rfl
theorem Zp(c:UInt8):∀ l:Bs,c∉l\/∃ a r,l=a++c::r/\c∉a
 | []=>.inl (by simp)
 | b::l=>by
  by_cases h:b=c
  ·exact .inr ⟨[],l,by simp[h],by simp⟩
  ·rcases Zp c l with d|⟨a,r,rfl,d⟩
   ·exact .inl (by simp[d];exact fun e=>h e.symm)
   ·exact .inr ⟨b::a,r,rfl,by simp[d];exact fun e=>h e.symm⟩
def linesL(t:Bs):List Bs:=if (cut 10 t).getLast?=some [] then (cut 10 t).dropLast else cut 10 t
theorem lines_nil:linesL []=[]:=rfl
theorem lines_one{t:Bs}(h:(10:UInt8)∉t)(h0:t≠[]):linesL t=[t]:=by
 unfold linesL;rw[Zg h];simp[h0]
theorem Hf{a r:Bs}(h:(10:UInt8)∉a):linesL (a++10::r)=a::linesL r:=by
 unfold linesL;rw[Zr h];have b:=Kq 10 r;rw[List.getLast?_cons_of_ne_nil b];split
 ·rw[List.dropLast_cons_of_ne_nil b]
 ·rfl
/-! ### Joined -/
def joinS(c:UInt8):List Bs->Bs
 | []=>[]
 | [a]=>a
 | a::b::l=>a++c::joinS c (b::l)
theorem Hg{c:UInt8}{a:Bs}{l:List Bs}(h:l≠[]):joinS c (a::l)=a++c::joinS c l:=by
 cases l with
 | nil=>exact absurd rfl h
 | cons b l=>rfl
theorem Ub{c:UInt8}:∀ {l:List Bs},l≠[]->(∀ p∈l,c∉p)->cut c (joinS c l)=l
 | [],h,_=>absurd rfl h
 | [a],_,h=>Zg (h a (by simp))
 | a::b::l,_,h=>by
  show cut c (a++c::joinS c (b::l))=_;rw[Zr (h a (by simp)),Ub (by simp) (fun p d=>h p (List.mem_cons_of_mem _ d))]
def lineS(w:Bs)(fs:List Bs):Bs:=w++58::(fs.flatMap fun f=>f++[59])++[10]
theorem flat_join:∀ {l:List Bs},l≠[]->(l.flatMap fun f=>f++[59])=joinS 59 l++[59]:=by
 intro l b
 induction l with
 | nil=>exact absurd rfl b
 | cons a l c =>
  by_cases h0:l=[]
  ·subst h0;simp[joinS]
  ·rw[List.flatMap_cons,c h0,Hg h0];simp
theorem lineS_join{w:Bs}{a:List Bs}(h:a≠[]):lineS w a=w++58::(joinS 59 a++[59,10]):=by
 unfold lineS;rw[flat_join h];simp
def fieldsL(l:Bs):Option (Bs×List Bs) :=
 match cut 58 l with
 | w::p::ps =>
  let r:=joinS 58 (p::ps)
  if w=[] then none else if r.getLast?=some 59 then some (w,cut 59 r.dropLast) else none
 | _=>none
theorem D8(c:UInt8):∀ l:Bs,joinS c (cut c l)=l
 | []=>rfl
 | b::l=>by
  have a:=Kq c l;unfold cut;split
  ·rename_i h;rw[Hg a,D8 c l,h];rfl
  ·have d:=D8 c l;cases e:cut c l with
   | nil=>exact absurd e a
   | cons x y =>
    rw[e]at d;cases y with
    | nil=>simp[joinS]at d ⊢;exact d
    | cons z y=>simp[joinS]at d ⊢;exact d
theorem fields_none{l:Bs}(h:(58:UInt8)∉l):fieldsL l=none:=by
 unfold fieldsL;rw[Zg h]
theorem fields_some{w r:Bs}(h:(58:UInt8)∉w):fieldsL (w++58::r)=if w=[] then none else if r.getLast?=some 59 then some (w,cut 59 r.dropLast) else none:=by
 have b:=Kq 58 r;unfold fieldsL;rw[Zr h];cases e:cut 58 r with
 | nil=>exact absurd e b
 | cons p ps =>
  have:=D8 58 r;rw[e]at this;simp only[this]
/-! ### a -/
def digit(b:UInt8):Bool:=48<=b&&b<=57
def valL(l:Bs):Nat:=l.foldl (fun n b=>10*n+(b.toNat-48)) 0
def numL(l:Bs):Option Nat:=if (1<=l.length/\l.length<=9)/\l.all digit=true/\(l.head?=some 48->l.length=1) then some (valL l) else none
def numsL(l:List Bs):Option (List Nat):=l.mapM numL
theorem numsL_nil:numsL []=some []:=rfl
theorem Ze{a:Bs}{l:List Bs}:numsL (a::l)=(numL a).bind fun n=>(numsL l).bind fun m=>some (n::m):=by
 unfold numsL;rw[List.mapM_cons];rfl
def rangeL(l:Bs):Option (Nat×Nat) :=
 match numsL (cut 45 l) with
 | some [a]=>some (a,a)
 | some [a,b]=>if a=b then none else some (a,b)
 | _=>none
def listL(l:Bs):Option (List Nat):=if l=[] then some [] else numsL (cut 44 l)
/-! ### Written numbers -/
theorem U7(n:Nat):decDigits n≠[]:=by
 rw[decDigits];split<;>simp
theorem W6(h:k<10):(UInt8.ofNat (48+k)).toNat=48+k:=by
 rw[UInt8.toNat_ofNat'];omega
theorem dig_all(n:Nat):(decDigits n).all digit=true:=by
 induction n using Nat.strongRecOn with
 | ind n a =>
  have key:∀ k,k<10->digit (UInt8.ofNat (48+k))=true:=fun k h=>by
   have:=W6 h;simp only[digit,Bool.and_eq_true,decide_eq_true_eq];exact⟨UInt8.le_iff_toNat_le.2 (by rw[this];show 48<=_;omega),UInt8.le_iff_toNat_le.2 (by rw[this];show _<=57;omega)⟩
  rw[decDigits];split
  ·rename_i h;simp only[List.all_cons,List.all_nil,Bool.and_true];exact key n h
  ·rename_i h;rw[List.all_append,a (n / 10) (by omega)];simp only[List.all_cons,List.all_nil,Bool.and_true,Bool.true_and];exact key (n%10) (by omega)
theorem dig_val(n:Nat):valL (decDigits n)=n:=by
 induction n using Nat.strongRecOn with
 | ind n a =>
  rw[decDigits];split
  ·rename_i h;simp only[valL,List.foldl_cons,List.foldl_nil,W6 h];omega
  ·rename_i h;have:=a (n / 10) (by omega);unfold valL at this ⊢;rw[List.foldl_append,this];simp only[List.foldl_cons,List.foldl_nil,W6 (show n%10<10 by omega)];omega
theorem dig_len:∀ {n:Nat},n<10^(k+1)->(decDigits n).length<=k+1:=by
 induction k with
 | zero =>
  intro n h;rw[decDigits,dif_pos (by simpa using h)];simp
 | succ k a =>
  intro n h;rw[decDigits];split
  ·simp
  ·have:n / 10<10^(k+1):=by
    rw[Nat.pow_succ]at h;exact Nat.div_lt_of_lt_mul (by omega)
   have:=a this;simp;omega
theorem dig_head(n:Nat):(decDigits n).head?=some 48->n=0:=by
 induction n using Nat.strongRecOn with
 | ind n d =>
  rw[decDigits];split
  ·rename_i h;intro e;simp only[List.head?_cons,Option.some.injEq]at e;have:=congrArg UInt8.toNat e;rw[W6 h]at this;have f:(48:UInt8).toNat=48:=rfl;omega
  ·rename_i h;intro e;have a:=U7 (n / 10);have c:(decDigits (n / 10)).head?=some 48:=by
    cases b:decDigits (n / 10) with
    | nil=>exact absurd b a
    | cons x y=>rw[b]at e;simpa using e
   have:=d (n / 10) (by omega) c;omega
theorem Dv{n:Nat}(h:n<10^9):numL (decDigits n)=some n:=by
 unfold numL;have a:=U7 n;have b:=dig_len (k:=8) h;have c:1<=(decDigits n).length:=by
  cases e:decDigits n with
  | nil=>exact absurd e a
  | cons x y=>simp
 have d:(decDigits n).head?=some 48->(decDigits n).length=1:=fun e=>by
  have:=dig_head n e;subst this;rw[decDigits,dif_pos (by omega)];rfl
 rw[if_pos ⟨⟨c,b⟩,dig_all n,d⟩,dig_val]
theorem Kd{c:UInt8}(hc:digit c=false)(n:Nat):c∉decDigits n:=by
 intro h;have:=List.all_eq_true.1 (dig_all n) c h;rw[hc]at this;cases this
theorem Hw(h:∀ n∈l,n<10^9):numsL (l.map decDigits)=some l:=by
 induction l with
 | nil=>rfl
 | cons a l c =>
  rw[List.map_cons,Ze,Dv (h a (by simp)),c fun n b=>h n (List.mem_cons_of_mem _ b)];rfl
def dash(a b:Nat):Bs:=if a=b then decDigits a else decDigits a++45::decDigits b
theorem range_dash{a b:Nat}(f:a<10^9)(hb:b<10^9):rangeL (dash a b)=some (a,b):=by
 have d:=Kd (c:=45) (by decide);by_cases h:a=b
 ·subst h;have e:numsL (cut 45 (dash a a))=some [a]:=by
   unfold dash;rw[if_pos rfl,Zg (d a),show [decDigits a]=[a].map decDigits from rfl,Hw (by simpa using f)]
  unfold rangeL;rw[e]
 ·have e:numsL (cut 45 (dash a b))=some [a,b]:=by
   unfold dash;rw[if_neg h,Zr (d a),Zg (d b),show [decDigits a,decDigits b]=[a,b].map decDigits from rfl,Hw (by simp;exact⟨f,hb⟩)]
  unfold rangeL;rw[e];simp[h]
def listS(l:List Nat):Bs:=joinS 44 (l.map decDigits)
theorem joinS_nil{c:UInt8}{l:List Bs}(h0:∀ p∈l,p≠[])(h:joinS c l=[]):l=[]:=by
 cases l with
 | nil=>rfl
 | cons a l =>
  by_cases e:l=[]
  ·subst e;simp[joinS]at h;exact absurd h (h0 a (by simp))
  ·rw[Hg e]at h;simp at h
theorem list_listS(h:∀ n∈l,n<10^9):listL (listS l)=some l:=by
 unfold listL listS;split
 ·rename_i e;have:=joinS_nil (fun p a=>by obtain⟨n,_,rfl⟩:=List.mem_map.1 a;exact U7 n) e;simp at this;rw[this]
 ·rename_i e;have c:l.map decDigits≠[]:=fun b=>e (by rw[b];rfl);rw[Ub c (fun p a=>by obtain⟨n,_,rfl⟩:=List.mem_map.1 a;exact Kd (by decide) n),Hw h]
end
section
theorem U3{l:Bs}{i:Nat}(h:i<l.length):(str l)[i]! = l[i]:=by
 have a:i<(str l).size:=by rw[Js];exact h
 rw[getElem!_pos (str l) i a];show (str l).data[i]=_;simp[str]
theorem idx_none{c:UInt8}{l:Bs}(h:c∉l):((List.range (str l).size).find? fun i=>((str l)[i]!)==c)=none:=by
 rw[List.find?_eq_none];intro i a;rw[List.mem_range,Js]at a;rw[U3 a];simp only[beq_iff_eq];intro e;exact h (e▸List.getElem_mem a)
theorem idx_some{c:UInt8}{a r:Bs}(h:c∉a):((List.range (str (a++c::r)).size).find? fun i=>((str (a++c::r))[i]!)==c)=some a.length:=by
 rw[List.find?_range_eq_some];refine⟨?_,?_,fun j b=>?_⟩
 ·rw[U3 (by simp)];simp
 ·rw[List.mem_range,Js];simp
 ·rw[U3 (by simp;omega),List.getElem_append_left b];simp only[Bool.not_eq_true',beq_eq_false_iff_ne];intro e;exact h (e▸List.getElem_mem b)
def firstI(c:UInt8)(l:Bs):Int:=match (cut c l) with
 | a::_::_=>a.length
 | _=>-1
theorem Hh{c:UInt8}{l:Bs}(h:c∉l):firstI c l = -1:=by unfold firstI;rw[Zg h]
theorem Wb{c:UInt8}{a r:Bs}(h:c∉a):firstI c (a++c::r)=a.length:=by
 unfold firstI;rw[Zr h];have:=Kq c r;cases e:cut c r with
 | nil=>exact absurd e this
 | cons x y=>rfl
theorem lwp_indexByte{P:Program}{l:Bs}{c:UInt8}{Q:Value->Cells->Prop}{E:Halt->Cells->Prop}{h:Cells}(e:Q (.int .i64 (firstI c l)) h):Qc P (Extern.BytealgIndexByte.indexByte #[.string (str l),.int .u8 (c.toNat:Int)]) Q E h:=by
 show Qc P (do
  let b <- Extern.Bytes.bytesOf (.string (str l));let c <- Extern.Bytes.asByte (.int .u8 (c.toNat:Int))
  match (List.range b.size).find? fun i=>(b[i]!)==c with
  | some i=>pure (goInt i)
  | none=>pure (goInt (-1))) Q E h
 simp only[Extern.Bytes.bytesOf,Extern.Bytes.asByte,lwp_bind,Qe];have hc:((c.toNat:Int)).toNat.toUInt8=c:=by simp
 rw[hc];rcases Zp c l with d|⟨a,r,rfl,d⟩
 ·rw[idx_none d];rw[Hh d]at e;exact e
 ·rw[idx_some d];rw[Wb d]at e;exact e
end
end Go.TM.Tp
section
namespace Go.TM
variable {P:Program} {X:XP} {Q:Leaf->LH->Prop}
end Go.TM
namespace Go.TM
variable {P:Program} {X:XP} {Q:Leaf->LH->Prop}
variable {h:LH}{k:Value->T}{t el:TypeId}{n s:Nat}{z:Value}
theorem Zo{b:Nat}{parts:Array (Nat×Value)}(ws:List Value)(hu:P.underlying t=some (.slice el))(d:(P.info? el).map (fun i=>(i.size,i.bytes,i.zero))=some (s,b,some z))(g:n*s<=2^24)(a:n*s≠0)
 (c:Instr.fill (fun i=>some (i*s,s)) ((Array.range (n*s)).map (z.cells[·%z.cells.size]!)) parts.toList=some ws.toArray)
 (f:∀ r h',h.le h'->h.get r=none->(∀ (j:Nat) w,ws[j]?=some w->h'.get.cell? (Addr.add ⟨r,0,none⟩ j)=some w)->(k (.slice (some ⟨r,0,none⟩) n n)).wp X P Q h'):(T.sem false (Instr.buildSlice t n parts) k).wp X P Q h :=
 Zi hu d g a c fun r hr=>f r _ (Qr hr) hr fun j w e=>by
  rw[Ql,Nat.zero_add];exact Qu (by simpa using e)
theorem Gy{α:Type}{Enc:α->List Value->Prop}{h₀:LH}{ts:Array TypeId}{ty:TypeId}{b:Nat}{p:Option Addr}{c B r:Nat}{l:List α}(x:α)(ws:List Value)(h0:ts[0]?=some t)(m:ts[1]?=some t)(hu:P.underlying t=some (.slice el))
 (o:(P.info? el).map (fun i=>(i.size,i.bytes,i.zero))=some (s,b,some z))(d:z.cells.size=s)(hb:b<=1024)(A:n+1<=2^30)(g:Growing Enc el s h₀.get h.get p n c l)(hle:h₀.le h)(he:Enc x ws)(u:ws.length=s)(hc:∀ (j:Nat) w,ws[j]?=some w->h.get.cell? (Addr.add ⟨r,0,none⟩ j)=some w)(one:∀ v∈ws,isOne v=true)
 (q:∀ f e h',h₀.le h'->(∀ r y,(∀ a,p=some a->a.block≠r)->h.get r=some y->h'.get r=some y)->Growing Enc el s h₀.get h'.get f (n+1) e (l++[x])->(k (.slice f (n+1) e)).wp X P Q h'):(T.sem false (Builtin.append_ ts ty #[.slice p n c,.slice (some ⟨r,0,none⟩) 1 B]) k).wp X P Q h :=
 D1 (h₀:=h₀) (x:=x) (ws:=ws) h0 m hu hu o d hb A g hle he u hc one q
end Go.TM
namespace Go.TM
variable {P:Program} {X:XP} {Q:Leaf->LH->Prop}
end Go.TM
end
section
namespace Go.TM
section
variable {P:Program} {X:XP} {Q:Leaf->LH->Prop}
theorem t_sliceLow{h:LH}{K:Value->T}{t el:TypeId}{s b:Nat}{z:Option Value}{p:Option Addr}{n c i:Nat}(hu:P.underlying t=some (.slice el))(d:(P.info? el).map (fun i=>(i.size,i.bytes,i.zero))=some (s,b,z))(e:i<=n)
 (f:(K (.slice (if c=i then p else p.map (·.add (i*s))) (n-i) (c-i))).wp X P Q h):(T.sem false (Instr.sliceAt t (.slice p n c) (some (.int .i64 (i:Int))) none none) K).wp X P Q h:=by
 obtain⟨inf,g1,a,_,_⟩:=Zj d;refine Q6 (A:=fun v h'=>v=.slice (if c=i then p else p.map (·.add (i*s))) (n-i) (c-i)/\h'=h.get) ?_ (by rintro v h' ⟨rfl,rfl⟩;exact f);unfold Instr.sliceAt;simp only[lwp_bind,Qa hu];unfold Instr.slice;simp only[lwp_bind,Qa hu];unfold Instr.sliceBounds Instr.sliceBound;simp only[lwp_bind,Qe,asIntOf,asInt];rw[if_pos (show 0<=(i:Int)/\(i:Int)<=(n:Int) by omega)];simp only[Qe,Qx g1,Int.toNat_natCast,a];exact⟨trivial,trivial⟩
end
theorem Sl.drop{α:Type}{E:Cells->Addr->α->Prop}{k:Nat}{h:Cells}{p:Option Addr}{n:Nat}{l:List α}(s:Sl E k h p n l){c i:Nat}(hc:n<=c):Sl E k h (if c=i then p else p.map (·.add (i*k))) (n-i) (l.drop i):=by
 refine⟨by rw[List.length_drop,s.1],by rw[List.length_drop];have:=s.2.1;omega,fun j x b=>?_⟩;rw[List.getElem?_drop]at b;have f:=(List.getElem?_eq_some_iff.1 b).1;have g:=s.1;obtain⟨a,e,d⟩:=s.2.2 _ x b;rw[if_neg (by omega),e];refine⟨a.add (i*k),rfl,?_⟩;rw[Addr.add_add',<- Nat.add_mul];exact d
theorem Rows.mono{α:Type}{Enc a:α->List Value->Prop}(he:∀ x ws,Enc x ws->a x ws){vs:List Value}{l:List α}(r:Rows Enc vs l):Rows a vs l:=by
 induction r with
 | nil=>exact .nil
 | snoc r h b=>exact b.snoc (he _ _ h)
section
variable {P:Program} {X:XP} {Q:Leaf->LH->Prop}
end
end Go.TM
end
section
namespace Go.Y
attribute [local irreducible] T.wp CV FWK
variable {p:Option Addr}{n i:Nat}
theorem Gi{P:Program}{X:XP}{Q:Leaf->LH->Prop}{h:LH}{K:Value->T}{t el:TypeId}{s b:Nat}{z:Option Value}{c:Nat}(hu:P.underlying t=some (.slice el))(d:(P.info? el).map (fun i=>(i.size,i.bytes,i.zero))=some (s,b,z))(f:i<=c)
 (g:(K (.slice p i c)).wp X P Q h):(T.sem false (Instr.sliceAt t (.slice p n c) none (some (.int .i64 (i:Int))) none) K).wp X P Q h:=by
 obtain⟨inf,g1,a,_,_⟩:=Zj d;refine Q6 (A:=fun v h'=>v=.slice p i c/\h'=h.get) ?_ (by rintro v h' ⟨rfl,rfl⟩;exact g);unfold Instr.sliceAt;simp only[lwp_bind,Qa hu];unfold Instr.slice;simp only[lwp_bind,Qa hu];unfold Instr.sliceBounds Instr.sliceBound;simp only[lwp_bind,Qe,asIntOf];rw[if_pos (show 0<=(i:Int)/\(i:Int)<=(c:Int) by omega)];simp only[Qe,Qx g1,Int.toNat_natCast,a,Nat.zero_mul,Nat.sub_zero];have e:(p.map fun x:Addr=>x.add 0)=p:=by cases p<;>simp[Addr.add]
 rw[e];simp
theorem slTake{α:Type}{E:Cells->Addr->α->Prop}{k:Nat}{h:Cells}{l:List α}(s:Sl E k h p n l)(b:i<=n):Sl E k h p i (l.take i):=by
 have c:=s.1;refine⟨by rw[List.length_take];omega,by rw[List.length_take];have:=s.2.1;omega,fun j x a=>?_⟩;rw[List.getElem?_take]at a;split at a
 ·exact s.2.2 j x a
 ·cases a
end Go.Y
end
section
namespace Go.TM.Tp
theorem Ug(a:Addr):a.add 0=a:=by unfold Addr.add;split<;>simp_all
def BsE(h:Cells)(a:Addr)(l:Bs):Prop:=h.cell? (a.add 0)=some (.string (str l))
theorem BsE.grow:Grow BsE:=fun _ _ _ _ a h=>a _ _ h
def BsEnc(l:Bs)(ws:List Value):Prop:=ws=[.string (str l)]
theorem BsEnc.len:∀ x ws,BsEnc x ws->ws.length=1:=by rintro x _ rfl;rfl
theorem BsEnc.e{h':Cells}:∀ a x ws,BsEnc x ws->(∀ (j:Nat) w,ws[j]?=some w->h'.cell? (a.add j)=some w)->BsE h' a x:=by
 rintro a x _ rfl hc;exact hc 0 _ rfl
theorem bs_one(l:Bs):∀ w∈[Value.string (str l)],isOne w=true:=by
 intro w hw;rw[List.mem_singleton]at hw;rw[hw];rfl
def BsS(h:LH)(p:Option Addr)(n c:Nat)(l:List Bs):Prop:=n<=c/\Sl BsE 1 h.get p n l
theorem BsS.le{h h':LH}{p:Option Addr}{n c:Nat}{l:List Bs}(a:h.le h')(s:BsS h p n c l):BsS h' p n c l:=⟨s.1,s.2.le BsE.grow a.1⟩
theorem BsS.at{h:LH}{p:Option Addr}{n c:Nat}{l:List Bs}(s:BsS h p n c l){i:Nat}{x:Bs}(d:l[i]?=some x):∃ a,p=some a/\h.get.cell? (a.add (i*1))=some (.string (str x)):=by
 obtain⟨a,b,e⟩:=s.2.2.2 i x d;unfold BsE at e;rw[Ug]at e;exact⟨a,b,e⟩
theorem growS{h₀ h:LH}{el:TypeId}{p:Option Addr}{n c:Nat}{l:List Bs}(g:Growing BsEnc el 1 h₀.get h.get p n c l)(a:l.length<2^60):BsS h p n c l:=by
 have b:=g.count BsEnc.len (by omega);have s:Sl BsE 1 h.get p n l:=g.sl BsEnc.len (by omega) BsEnc.e (by omega);obtain⟨_,o,_⟩:=g.row;exact⟨o.le_cap,s⟩
theorem G6(c:UInt8):∀ l:Bs,(cut c l).length<=l.length+1
 | []=>by simp[cut]
 | b::l=>by
  have:=G6 c l;have a:=Kq c l;unfold cut;split
  ·simp;omega
  ·cases e:cut c l with
   | nil=>exact absurd e a
   | cons x y=>rw[e]at this;simp at this ⊢;omega
end Go.TM.Tp
namespace Go.Y.Txt
open Go.TM.Tp
open Go.Lib (decDigits)
attribute [local irreducible] T.wp CV FWK
theorem undS:Tryz.prog.underlying 9=some .string:=by kernel_rfl
theorem undSs:Tryz.prog.underlying 81=some (.slice 9):=by kernel_rfl
theorem infS:(Tryz.prog.info? 9).map (fun i=>(i.size,i.bytes,i.zero))=some (1,16,some (.string ⟨#[]⟩)):=by kernel_rfl
theorem undIs:Tryz.prog.underlying 47=some (.slice 3):=by kernel_rfl
theorem infI:(Tryz.prog.info? 3).map (fun i=>(i.size,i.bytes,i.zero))=some (1,8,some (.int .i64 0)):=by kernel_rfl
theorem t_pushS{X:XP}{Q:Leaf->LH->Prop}{h₀ h:LH}{K:Option Addr->Nat->Nat->T}{p:Option Addr}{n c:Nat}{l:List Bs}(x:Bs)(u:l.length<=2^29)(g:Growing BsEnc 9 1 h₀.get h.get p n c l)(hle:h₀.le h)
 (o:∀ e d h',h₀.le h'->h.get.le h'.get\/True->Growing BsEnc 9 1 h₀.get h'.get e (n+1) d (l++[x])->(K e (n+1) d).wp X Tryz.prog Q h') :
  (T.sem false (Instr.buildSlice 81 1 #[(0,.string (str x))]) fun v=>T.unS v fun a m s=>T.sem false (Builtin.append_ #[81,81] 81 #[.slice p n c,.slice a m s]) fun v=>T.unS v K).wp X Tryz.prog Q h:=by
 have w:=g.count BsEnc.len (by omega);refine Zo [.string (str x)] undSs infS (by decide) (by decide) (by kernel_rfl) ?_;intro r t b _ f;refine gZ ?_;refine Gy (h₀:=h₀) (Enc:=BsEnc) x [.string (str x)] rfl rfl undSs infS rfl (by omega) (by omega) (g.le b.1) (LH.le_trans hle b) rfl rfl f (bs_one x) ?_;intro e d k i q j;refine gZ ?_;exact o e d k i (.inr trivial) j
end Go.Y.Txt
end
section
namespace Go.TM.Tp
theorem wrapU8{n:Int}(h:0<=n/\n<=255):IntKind.wrap .u8 n=n:=by
 have:=Int.emod_eq_of_lt (a:=n) (b:=256) (by omega) (by omega);simp[IntKind.wrap,IntKind.signed,IntKind.bits];omega
theorem Dm{b:UInt8}:digit b=true↔48<=b.toNat/\b.toNat<=57:=by
 unfold digit;rw[Bool.and_eq_true,decide_eq_true_eq,decide_eq_true_eq,UInt8.le_iff_toNat_le,UInt8.le_iff_toNat_le];exact Iff.rfl
theorem val_snoc(l:Bs)(b:UInt8):valL (l++[b])=10*valL l+(b.toNat-48):=by unfold valL;rw[List.foldl_append];rfl
theorem val_lt:∀ {l:Bs},l.all digit=true->valL l<10^l.length:=by
 have key:∀ (l:Bs) (a:Nat),l.all digit=true->l.foldl (fun n b=>10*n+(b.toNat-48)) a<(a+1)*10^l.length:=by
  intro l
  induction l with
  | nil=>intro a _;simp
  | cons b l e =>
   intro a h;simp only[List.all_cons,Bool.and_eq_true]at h;have c:=e (10*a+(b.toNat-48)) h.2;have f:=(Dm.1 h.1).2;have d:10*a+(b.toNat-48)+1<=(a+1)*10:=by omega
   rw[List.foldl_cons,List.length_cons,Nat.pow_succ,Nat.mul_comm (10^l.length) 10,<- Nat.mul_assoc];exact Nat.lt_of_lt_of_le c (Nat.mul_le_mul_right _ d)
 intro l h;have:=key l 0 h;rw[Nat.zero_add,Nat.one_mul]at this;exact this
end Go.TM.Tp
namespace Go.Y.Txt
open Go.TM.Tp
open Go.Lib (decDigits)
attribute [local irreducible] T.wp CV FWK
end Go.Y.Txt
end
section
namespace Go.TM.Tp
open Go.Lib (decDigits)
def text(bs:List Bs):Bs:=bs.flatMap fun b=>b++[10]
variable {n a b d l p:Nat}{m:List Nat}{u:UseFile}
theorem lines_text{bs:List Bs}(h:∀ b∈bs,(10:UInt8)∉b):linesL (text bs)=bs:=by
 induction bs with
 | nil=>rfl
 | cons b bs c =>
  have:text (b::bs)=b++10::text bs:=by simp[text]
  rw[this,Hf (h b (by simp)),c fun x a=>h x (List.mem_cons_of_mem _ a)]
theorem text_ne{b:Bs}{bs:List Bs}:text (b::bs)≠[]:=by simp[text]
theorem lines_text'{bs:List Bs}(h:∀ b∈bs,(10:UInt8)∉b)(h0:∀ b∈bs,b≠[]):linesL (text bs).dropLast=bs:=by
 induction bs with
 | nil=>rfl
 | cons b bs d =>
  have e:text (b::bs)=b++10::text bs:=by simp[text]
  cases bs with
  | nil =>
   have:(text [b]).dropLast=b:=by simp[text]
   rw[this,lines_one (h b (by simp)) (h0 b (by simp))]
  | cons c bs =>
   rw[e,List.dropLast_append_of_ne_nil (by simp),List.dropLast_cons_of_ne_nil text_ne,Hf (h b (by simp)),d (fun x a=>h x (List.mem_cons_of_mem _ a)) (fun x a=>h0 x (List.mem_cons_of_mem _ a))]
def rowS(w:Bs)(fs:List Bs):Bs:=w++58::(fs.flatMap fun f=>f++[59])
theorem Hu(w:Bs)(a:List Bs):lineS w a=rowS w a++[10]:=by simp[lineS,rowS]
theorem Uo(w:Bs)(a:List Bs):rowS w a≠[]:=by simp[rowS]
theorem Un{w:Bs}{b:List Bs}(hw:(10:UInt8)∉w)(d:∀ f∈b,(10:UInt8)∉f):(10:UInt8)∉rowS w b:=by
 unfold rowS;intro h;rcases List.mem_append.1 h with h|h
 ·exact hw h
 ·rcases List.mem_cons.1 h with h|h
  ·exact absurd h (by decide)
  ·obtain⟨f,c,a⟩:=List.mem_flatMap.1 h;rcases List.mem_append.1 a with a|a
   ·exact d f c a
   ·exact absurd (List.mem_singleton.1 a) (by decide)
theorem Ge{w:Bs}{a:List Bs}(h0:w≠[])(hw:(58:UInt8)∉w)(b:a≠[])(c:∀ f∈a,(59:UInt8)∉f):fieldsL (rowS w a)=some (w,a):=by
 unfold rowS;rw[fields_some hw,if_neg h0,flat_join b];simp[Ub b c]
theorem dig_clean{c:UInt8}(hc:digit c=false){l:List Bs}(h:∀ p∈l,∃ n,p=decDigits n):∀ p∈l,c∉p:=fun p a=>by
 obtain⟨n,rfl⟩:=h p a;exact Kd hc n
theorem Dw{c:UInt8}(hc:digit c=false)(h:c≠45)(a b:Nat):c∉dash a b:=by
 unfold dash;split
 ·exact Kd hc a
 ·intro hm;rcases List.mem_append.1 hm with hm|hm
  ·exact Kd hc a hm
  ·rcases List.mem_cons.1 hm with hm|hm
   ·exact h hm
   ·exact Kd hc b hm
theorem joinS_no{c d:UInt8}(h:d≠c):∀ {l:List Bs},(∀ p∈l,d∉p)->d∉joinS c l
 | [],_=>by simp[joinS]
 | [a],e=>e a (by simp)
 | a::b::l,e=>by
  intro hm;rcases List.mem_append.1 hm with hm|hm
  ·exact e a (by simp) hm
  ·rcases List.mem_cons.1 hm with hm|hm
   ·exact h hm
   ·exact joinS_no h (fun p f=>e p (List.mem_cons_of_mem _ f)) hm
theorem Hz{c:UInt8}(hc:digit c=false)(h:c≠44)(l:List Nat):c∉listS l:=by
 unfold listS;exact joinS_no h fun p b=>by obtain⟨n,_,rfl⟩:=List.mem_map.1 b;exact Kd hc n
/-! ### A file of a 5 -/
def wUse:Bs:=[117,115,101]
def wExcuse:Bs:=[101,120,99,117,115,101]
def wPaper:Bs:=[112,97,112,101,114]
def wRequest:Bs:=[114,101,113,117,101,115,116]
inductive LU where
 | use (a b c d:Nat)
 | excuse (a b:Nat)
 | paper (a b l:Nat) (items:List Nat)
 | request (d l:Nat) (items:List Nat)
def LU.place:LU->Nat
 | .use ..=>0
 | .excuse ..=>1
 | .paper ..=>2
 | .request ..=>3
def itemU(w:Bs)(f:List Bs):Option LU :=
 if w=wUse then (match numsL f with|some [a,b,c,d]=>some (.use a b c d)|_=>none)
 else if w=wExcuse then (match f with | [x]=>(rangeL x).map fun p=>.excuse p.1 p.2|_=>none)
 else if w=wPaper then (match f with | [x,y,z]=>(rangeL x).bind fun p=>(numL y).bind fun l=>(listL z).map fun m=>.paper p.1 p.2 l m|_=>none)
 else if w=wRequest then (match f with | [x,y,z]=>(numL x).bind fun d=>(numL y).bind fun l=>(listL z).map fun m=>.request d l m|_=>none)
 else none
def lineU(l:Bs):Option LU:=(fieldsL l).bind fun x=>itemU x.1 x.2
def ints(l:List Nat):List Int:=l.map fun n:Nat=>(n:Int)
def LU.put(u:UseFile):LU->UseFile
 | .use a b c d=>{ u with items:=a,lands:=b,from_:=c,idle:=d }
 | .excuse a b=>{ u with excuses:=u.excuses++[⟨a,b⟩] }
 | .paper a b l m=>{ u with papers:=u.papers++[⟨⟨a,b⟩,l,ints m⟩] }
 | .request d l m=>{ u with requests:=u.requests++[⟨d,l,ints m⟩] }
def noFile:UseFile:=⟨0,0,0,0,[],[],[]⟩
def goU:Nat->Nat->UseFile->List Bs->UseFile×Option Nat
 | _,_,u,[]=>(u,none)
 | n,p,u,b::bs =>
  match lineU b with
  | none=>(u,some (n+1))
  | some x=>if x.place<p\/(x.place=0↔n≠0) then (u,some (n+1)) else goU (n+1) x.place (x.put u) bs
def parseU(t:Bs):UseFile×Nat×Int :=
 if 60000<t.length then (noFile,0,2)
 else match goU 0 0 noFile (linesL t) with
  | (_,some n)=>(noFile,n,3)
  | (u,none)=>if linesL t=[] then (noFile,0,3) else if checkF u≠0 then (noFile,0,checkF u) else (u,0,0)
def di(n:Int):Bs:=decDigits n.toNat
def da(x:Span):Bs:=dash x.first.toNat x.last.toNat
def li(l:List Int):Bs:=listS (l.map Int.toNat)
def rowsU(u:UseFile):List Bs:=rowS wUse [di u.items,di u.lands,di u.from_,di u.idle] ::
 (u.excuses.map fun x=>rowS wExcuse [da x])++(u.papers.map fun p=>rowS wPaper [da p.days,di p.land,li p.items])++(u.requests.map fun r=>rowS wRequest [di r.day,di r.land,li r.items])
def textU(u:UseFile):Bs:=text (rowsU u)
def printU(u:UseFile):Bs×Int:=if checkF u≠0 then ([],checkF u) else if 60000<(textU u).length then ([],2) else (textU u,0)
/-! ### What is written is read as it was -/
theorem Kn{n:Int}(h:0<=n):((n.toNat:Nat):Int)=n:=Int.toNat_of_nonneg h
theorem dig4(a b c d:Nat):∀ p∈[decDigits a,decDigits b,decDigits c,decDigits d],∃ n,p=decDigits n:=fun p e=>by
 simp only[List.mem_cons,List.not_mem_nil,or_false]at e;rcases e with rfl|rfl|rfl|rfl<;>exact⟨_,rfl⟩
theorem item_use{c:Nat}(e:a<10^9)(hb:b<10^9)(hc:c<10^9)(f:d<10^9):lineU (rowS wUse [decDigits a,decDigits b,decDigits c,decDigits d])=some (.use a b c d):=by
 unfold lineU;rw[Ge (by decide) (by decide) (by simp) (dig_clean (by decide) (dig4 a b c d))];show itemU wUse _=_;unfold itemU;rw[if_pos rfl,show [decDigits a,decDigits b,decDigits c,decDigits d]=[a,b,c,d].map decDigits from rfl,Hw (by simp;exact⟨e,hb,hc,f⟩)]
theorem item_excuse(c:a<10^9)(hb:b<10^9):lineU (rowS wExcuse [dash a b])=some (.excuse a b):=by
 unfold lineU;rw[Ge (by decide) (by decide) (by simp) (by simp only[List.mem_singleton,forall_eq];exact Dw (by decide) (by decide) a b)];show itemU wExcuse _=_;unfold itemU;rw[if_neg (by decide),if_pos rfl];simp only[range_dash c hb];rfl
theorem Ut{c:UInt8}{x y z:Bs}(b:c∉x)(d:c∉y)(e:c∉z):∀ p∈[x,y,z],c∉p:=fun p a=>by
 simp only[List.mem_cons,List.not_mem_nil,or_false]at a;rcases a with rfl|rfl|rfl
 ·exact b
 ·exact d
 ·exact e
theorem item_paper(c:a<10^9)(hb:b<10^9)(d:l<10^9)(hm:∀ n∈m,n<10^9):lineU (rowS wPaper [dash a b,decDigits l,listS m])=some (.paper a b l m):=by
 unfold lineU;rw[Ge (by decide) (by decide) (by simp) (Ut (Dw (by decide) (by decide) a b) (Kd (by decide) l) (Hz (by decide) (by decide) m))];show itemU wPaper _=_;unfold itemU;rw[if_neg (by decide),if_neg (by decide),if_pos rfl];simp only[range_dash c hb,Dv d,list_listS hm];rfl
theorem item_request(a:d<10^9)(b:l<10^9)(hm:∀ n∈m,n<10^9):lineU (rowS wRequest [decDigits d,decDigits l,listS m])=some (.request d l m):=by
 unfold lineU;rw[Ge (by decide) (by decide) (by simp) (Ut (Kd (by decide) d) (Kd (by decide) l) (Hz (by decide) (by decide) m))];show itemU wRequest _=_;unfold itemU;rw[if_neg (by decide),if_neg (by decide),if_neg (by decide),if_pos rfl];simp only[Dv a,Dv b,list_listS hm];rfl
def Fits(n:Int):Prop:=0<=n/\n<1000000000
theorem Fits.lt{n:Int}(h:Fits n):n.toNat<10^9:=by unfold Fits at h;omega
def FitsAll(u:UseFile):Prop:=(Fits u.items/\Fits u.lands/\Fits u.from_/\Fits u.idle)/\(∀ x∈u.excuses,Fits x.first/\Fits x.last) /\
 (∀ p∈u.papers,Fits p.days.first/\Fits p.days.last/\Fits p.land/\∀ n∈p.items,Fits n)/\∀ r∈u.requests,Fits r.day/\Fits r.land/\∀ n∈r.items,Fits n
theorem ints_nat{l:List Int}(h:∀ n∈l,Fits n):ints (l.map Int.toNat)=l:=by
 induction l with
 | nil=>rfl
 | cons a l c =>
  have:=c fun n b=>h n (List.mem_cons_of_mem _ b);unfold ints at this ⊢;rw[List.map_cons,List.map_cons,this,Kn (h a (by simp)).1]
theorem nat_lt{l:List Int}(h:∀ n∈l,Fits n):∀ n∈l.map Int.toNat,n<10^9:=fun n a=>by
 obtain⟨z,b,rfl⟩:=List.mem_map.1 a;exact(h z b).lt
theorem go_requests(f:n≠0)(g:p<=3){rs:List Request}(h:∀ r∈rs,Fits r.day/\Fits r.land/\∀ n∈r.items,Fits n)(u:UseFile):goU n p u (rs.map fun r=>rowS wRequest [di r.day,di r.land,li r.items])=({ u with requests:=u.requests++rs },none):=by
 induction rs generalizing n p u with
 | nil=>simp[goU]
 | cons r rs e =>
  obtain⟨a,b,c⟩:=h r (by simp);rw[List.map_cons,goU,show li r.items=listS (r.items.map Int.toNat) from rfl,show di r.day=decDigits r.day.toNat from rfl,show di r.land=decDigits r.land.toNat from rfl,item_request a.lt b.lt (nat_lt c)];simp only[];rw[if_neg (by simp[LU.place];omega),e (by omega) (by simp[LU.place]) (fun x d=>h x (List.mem_cons_of_mem _ d))];simp only[LU.put,Kn a.1,Kn b.1,ints_nat c,List.append_assoc,List.cons_append,List.nil_append]
theorem go_papers(k:n≠0)(l:p<=2){ps:List Paper}{bs:List Bs}(h:∀ p∈ps,Fits p.days.first/\Fits p.days.last/\Fits p.land/\∀ n∈p.items,Fits n)(u:UseFile):∃ a b,a≠0/\b<=2/\goU n p u ((ps.map fun p=>rowS wPaper [da p.days,di p.land,li p.items])++bs)=goU a b { u with papers:=u.papers++ps } bs:=by
 induction ps generalizing n p u with
 | nil=>exact⟨n,p,k,l,by simp⟩
 | cons r ps o =>
  obtain⟨c,d,e,f⟩:=h r (by simp);obtain⟨a,b,g,i,j⟩:=o (n:=n+1) (p:=2) (by omega) (by omega) (fun x m=>h x (List.mem_cons_of_mem _ m)) ((LU.paper r.days.first.toNat r.days.last.toNat r.land.toNat (r.items.map Int.toNat)).put u);refine⟨a,b,g,i,?_⟩;rw[List.map_cons,List.cons_append,goU,show li r.items=listS (r.items.map Int.toNat) from rfl,show di r.land=decDigits r.land.toNat from rfl,show da r.days=dash r.days.first.toNat r.days.last.toNat from rfl,item_paper c.lt d.lt e.lt (nat_lt f)];simp only[];rw[if_neg (by simp[LU.place];omega),show (LU.paper r.days.first.toNat r.days.last.toNat r.land.toNat (r.items.map Int.toNat)).place=2 from rfl,j];simp only[LU.put,Kn c.1,Kn d.1,Kn e.1,ints_nat f,List.append_assoc,List.cons_append,List.nil_append]
theorem go_excuses(i:n≠0)(j:p<=1){xs:List Span}{bs:List Bs}(h:∀ x∈xs,Fits x.first/\Fits x.last)(u:UseFile):∃ a b,a≠0/\b<=1/\goU n p u ((xs.map fun x=>rowS wExcuse [da x])++bs)=goU a b { u with excuses:=u.excuses++xs } bs:=by
 induction xs generalizing n p u with
 | nil=>exact⟨n,p,i,j,by simp⟩
 | cons r xs l =>
  obtain⟨c,d⟩:=h r (by simp);obtain⟨a,b,e,f,g⟩:=l (n:=n+1) (p:=1) (by omega) (by omega) (fun x k=>h x (List.mem_cons_of_mem _ k)) ((LU.excuse r.first.toNat r.last.toNat).put u);refine⟨a,b,e,f,?_⟩;rw[List.map_cons,List.cons_append,goU,show da r=dash r.first.toNat r.last.toNat from rfl,item_excuse c.lt d.lt];simp only[];rw[if_neg (by simp[LU.place];omega),show (LU.excuse r.first.toNat r.last.toNat).place=1 from rfl,g];simp only[LU.put,Kn c.1,Kn d.1,List.append_assoc,List.cons_append,List.nil_append]
theorem go_rows(h:FitsAll u):goU 0 0 noFile (rowsU u)=(u,none):=by
 obtain⟨⟨a,b,c,d⟩,j,k,l⟩:=h;unfold rowsU;rw[List.cons_append,List.cons_append,goU,show [di u.items,di u.lands,di u.from_,di u.idle]=[decDigits u.items.toNat,decDigits u.lands.toNat,decDigits u.from_.toNat,decDigits u.idle.toNat] from rfl,item_use a.lt b.lt c.lt d.lt];simp only[];rw[if_neg (by simp[LU.place]),show (LU.use u.items.toNat u.lands.toNat u.from_.toNat u.idle.toNat).place=0 from rfl,List.append_assoc];obtain⟨s,m,e,o,f⟩:=go_excuses (n:=0+1) (p:=0) (by omega) (by omega) (bs:=(u.papers.map fun p=>rowS wPaper [da p.days,di p.land,li p.items])++(u.requests.map fun r=>rowS wRequest [di r.day,di r.land,li r.items])) j ((LU.use u.items.toNat u.lands.toNat u.from_.toNat u.idle.toNat).put noFile);rw[f];obtain⟨t,p2,g,q,i⟩:=go_papers e (show m<=2 by omega) (bs:=u.requests.map fun r=>rowS wRequest [di r.day,di r.land,li r.items]) k _;rw[i,go_requests g (by omega) l];simp only[LU.put,noFile,Kn a.1,Kn b.1,Kn c.1,Kn d.1,List.nil_append]
theorem rows_no(u:UseFile):∀ b∈rowsU u,(10:UInt8)∉b:=by
 intro b hb;unfold rowsU at hb;rw[List.mem_append,List.mem_append,List.mem_cons]at hb;rcases hb with((rfl|hb)|hb)|hb
 ·exact Un (by decide) (dig_clean (by decide) (dig4 _ _ _ _))
 ·obtain⟨x,_,rfl⟩:=List.mem_map.1 hb;exact Un (by decide) (by simp only[List.mem_singleton,forall_eq];exact Dw (by decide) (by decide) _ _)
 ·obtain⟨x,_,rfl⟩:=List.mem_map.1 hb;exact Un (by decide) (Ut (Dw (by decide) (by decide) _ _) (Kd (by decide) _) (Hz (by decide) (by decide) _))
 ·obtain⟨x,_,rfl⟩:=List.mem_map.1 hb;exact Un (by decide) (Ut (Kd (by decide) _) (Kd (by decide) _) (Hz (by decide) (by decide) _))
theorem rows_ne(u:UseFile):∀ b∈rowsU u,b≠[]:=by
 intro b hb;unfold rowsU at hb;rw[List.mem_append,List.mem_append,List.mem_cons]at hb;rcases hb with((rfl|hb)|hb)|hb
 ·exact Uo _ _
 ·obtain⟨x,_,rfl⟩:=List.mem_map.1 hb;exact Uo _ _
 ·obtain⟨x,_,rfl⟩:=List.mem_map.1 hb;exact Uo _ _
 ·obtain⟨x,_,rfl⟩:=List.mem_map.1 hb;exact Uo _ _
theorem Da(u:UseFile):rowsU u≠[]:=by unfold rowsU;simp
theorem parse_text(h:FitsAll u)(hc:checkF u=0)(a:(textU u).length<=60000):parseU (textU u)=(u,0,0):=by
 unfold parseU;rw[if_neg (by omega),show linesL (textU u)=rowsU u from lines_text (rows_no u),go_rows h];simp only[];rw[if_neg (Da u),if_neg (by simp[hc])]
theorem parse_text'(h:FitsAll u)(hc:checkF u=0)(a:(textU u).length<=60000):parseU (textU u).dropLast=(u,0,0):=by
 unfold parseU;rw[if_neg (by rw[List.length_dropLast];omega),show linesL (textU u).dropLast=rowsU u from lines_text' (rows_no u) (rows_ne u),go_rows h];simp only[];rw[if_neg (Da u),if_neg (by simp[hc])]
end Go.TM.Tp
end
section
namespace Go.TM.Tp
theorem nums_snoc:∀ (l:List Bs) (x:Bs),numsL (l++[x])=(numsL l).bind fun m=>(numL x).map fun n=>m++[n]
 | [],x=>by
  rw[List.nil_append,Ze,numsL_nil];cases numL x<;>rfl
 | a::l,x=>by
  rw[List.cons_append,Ze,Ze,nums_snoc l x];cases numL a with
  | none=>rfl
  | some n=>cases numsL l with
   | none=>rfl
   | some m=>cases numL x<;>rfl
theorem nums_none{x:Bs}(b:numL x=none):∀ {l:List Bs},x∈l->numsL l=none
 | [],h=>by cases h
 | a::l,h=>by
  rw[Ze];rcases List.mem_cons.1 h with rfl|h
  ·rw[b];rfl
  ·rw[nums_none b h];cases numL a<;>rfl
theorem Ww:∀ {l:List Bs} {m:List Nat},numsL l=some m->m.length=l.length
 | [],m,h=>by cases h;rfl
 | a::l,m,h=>by
  rw[Ze]at h;cases c:numL a with
  | none=>rw[c]at h;cases h
  | some n =>
   rw[c]at h;cases b:numsL l with
   | none=>rw[b]at h;cases h
   | some k =>
    rw[b]at h;cases h;simp[Ww b]
end Go.TM.Tp
end
section
namespace Go.TM.Tp
def InS(h:LH)(p:Option Addr)(n c:Nat)(l:List Int):Prop:=n<=c/\Sl IntE 1 h.get p n l
theorem InS.le{h h':LH}{p:Option Addr}{n c:Nat}{l:List Int}(a:h.le h')(s:InS h p n c l):InS h' p n c l:=⟨s.1,s.2.le IntE.grow a.1⟩
theorem InS.at{h:LH}{p:Option Addr}{n c:Nat}{l:List Int}(s:InS h p n c l){i:Nat}{x:Int}(d:l[i]?=some x):∃ a,p=some a/\h.get.cell? (a.add (i*1))=some (.int .i64 x):=by
 obtain⟨a,b,e⟩:=s.2.2.2 i x d;unfold IntE at e;rw[Ug]at e;exact⟨a,b,e⟩
theorem InS.nil{h:LH}:InS h none 0 0 []:=⟨Nat.le_refl _,rfl,by simp,fun i x a=>by simp at a⟩
theorem growI{h₀ h:LH}{el:TypeId}{p:Option Addr}{n c:Nat}{l:List Int}(g:Growing IntEnc el 1 h₀.get h.get p n c l)(a:l.length<2^60):InS h p n c l:=by
 have s:Sl IntE 1 h.get p n l:=g.sl IntEnc.len (by omega) IntEnc.e (by omega);obtain⟨_,o,_⟩:=g.row;exact⟨o.le_cap,s⟩
theorem K1{c:UInt8}:∀ {l x:Bs},x∈cut c l->x.length<=l.length
 | [],x,a=>by simp only[cut,List.mem_singleton]at a;rw[a];exact Nat.le_refl _
 | b::l,x,a=>by
  have d:=Kq c l;unfold cut at a;split at a
  ·rcases List.mem_cons.1 a with a|a
   ·rw[a];exact Nat.zero_le _
   ·exact Nat.le_succ_of_le (K1 a)
  ·rcases List.mem_cons.1 a with a|a
   ·have f:(cut c l).headD []∈cut c l:=by
     cases e:cut c l with
     | nil=>exact absurd e d
     | cons u w=>simp
    rw[a];exact Nat.succ_le_succ (K1 f)
   ·exact Nat.le_succ_of_le (K1 (List.mem_of_mem_tail a))
theorem Zq{α:Type}{l:List α}{i:Nat}{x:α}(h:l[i]?=some x):l.take (i+1)=l.take i++[x]:=by
 rw[List.take_add_one,h];rfl
end Go.TM.Tp
namespace Go.Y.Txt
open Go.TM.Tp
open Go.Lib (decDigits)
attribute [local irreducible] T.wp CV FWK
theorem t_pushN{X:XP}{Q:Leaf->LH->Prop}{h₀ h:LH}{K:Option Addr->Nat->Nat->T}{p:Option Addr}{n c:Nat}{l:List Int}(x:Int)(u:l.length<=2^29)(g:Growing IntEnc 3 1 h₀.get h.get p n c l)(hle:h₀.le h)
 (o:∀ e d h',h₀.le h'->Growing IntEnc 3 1 h₀.get h'.get e (n+1) d (l++[x])->(K e (n+1) d).wp X Tryz.prog Q h') :
  (T.sem false (Instr.buildSlice 47 1 #[(0,.int .i64 x)]) fun v=>T.unS v fun a m s=>T.sem false (Builtin.append_ #[47,47] 47 #[.slice p n c,.slice a m s]) fun v=>T.unS v K).wp X Tryz.prog Q h:=by
 have y:=g.count IntEnc.len (by omega);refine Zo [.int .i64 x] undIs infI (by decide) (by decide) (by kernel_rfl) ?_;intro r t b _ f;refine gZ ?_;refine Gy (h₀:=h₀) (Enc:=IntEnc) x [.int .i64 x] rfl rfl undIs infI rfl (by omega) (by omega) (g.le b.1) (LH.le_trans hle b) rfl rfl f (by intro w hw;rw[List.mem_singleton]at hw;rw[hw];rfl) ?_;intro e d k i q j;refine gZ ?_;exact o e d k i j
end Go.Y.Txt
end
section
namespace Go.TM.Tp
theorem t_neB{X:XP}{P:Program}{Q:Leaf->LH->Prop}{h:LH}{K:Value->T}{t:TypeId}{x y:Operand}{a b:List UInt8}(hu:P.underlying t=some .string)(c:(K (.bool (!decide (a=b)))).wp X P Q h) :
  (T.sem false (Sem.bind (eqGuard .neq t x y (.string (str a)) (.string (str b))) fun _=>binOp .neq t (.string (str a)) (.string (str b))) K).wp X P Q h:=by
 refine Q6 (A:=fun w h'=>h'=h.get/\(K w).wp X P Q h) (Qt _ _ ?_) (by rintro w h' ⟨rfl,hw⟩;exact hw);unfold eqGuard;simp only[Bool.not_true,Bool.not_false,Bool.false_eq_true,if_false,if_true,Qe];unfold binOp;show Qc P (Op.stringOp .neq (str a) (str b)) _ _ _;unfold Op.stringOp;rw[Qe];refine⟨rfl,?_⟩;have e:=str_list (str a) (str b);have:(!((str a).toList==(str b).toList)) = !decide (a=b):=by
  congr 1;by_cases h:a=b
  ·rw[decide_eq_true h,e.2 (by rw[h])]
  ·rw[decide_eq_false h,Bool.eq_false_iff];exact fun h'=>h (str_inj (e.1 h'))
 first
  | exact(congrArg (fun b=>(K (.bool b)).wp X P Q h) this).mpr c
  | (simp only[bne];rw[this];exact c)
end Go.TM.Tp
namespace Go.Y.Txt
open Go.TM.Tp
open Go.Lib (decDigits)
attribute [local irreducible] T.wp CV FWK
end Go.Y.Txt
end
section
namespace Go.TM.Tp
open Go.Lib (decDigits)
def u8V(b:UInt8):Value:=.int .u8 (b.toNat:Int)
variable {P:Program}{a:Addr}{n c:Nat}
theorem lwp_ofBytes{Q:Value->Cells->Prop}{E:Halt->Cells->Prop}{h:Cells}{l:Bs}(hn:l.length=n)(hc:∀ (j:Nat) w,(l.map u8V)[j]?=some w->h.cell? (a.add j)=some w)(hq:Q (.string (str l)) h):Qc P (Conv.bytesToString (.slice (some a) n c)) Q E h:=by
 show Qc P (do
  let mut s:=ByteArray.empty
  for c in <- loadCells a n do
   let .int .u8 n := c | stuck "bytesToString: byte expected"
   s:=s.push (UInt8.ofNat n.toNat)
  pure (.string s)) Q E h
 simp only[lwp_bind];refine Wy (l:=l.map u8V) (by simpa using hn) hc ?_;rw[List.forIn_toArray];have key:∀ (l m:Bs) (Q:ByteArray->Cells->Prop),Q (str (m++l)) h->Qc P (forIn (l.map u8V) (str m) fun c (s:ByteArray)=>match c with
   | .int .u8 n=>(do pure PUnit.unit;pure (ForInStep.yield (s.push (UInt8.ofNat n.toNat))):Sem (ForInStep ByteArray))
   | _ => stuck "bytesToString: byte expected") Q E h := by
  intro l
  induction l with
  | nil=>intro m Q hq;rw[List.append_nil]at hq;exact hq
  | cons b l ih =>
   intro m Q hq;rw[List.map_cons,List.forIn_cons,lwp_bind];have e:(str m).push (UInt8.ofNat ((b.toNat:Int)).toNat)=str (m++[b]):=by
    apply ByteArray.ext;simp[str]
   show Qc P (forIn (l.map u8V) ((str m).push (UInt8.ofNat ((b.toNat:Int)).toNat)) _) Q E h;rw[e];exact ih (m++[b]) Q (by rw[List.append_assoc];exact hq)
 exact key l [] _ hq
theorem t_ofBytes{X:XP}{Q:Leaf->LH->Prop}{h:LH}{K:Value->T}{src dst el:TypeId}{l:Bs}(b:P.underlying src=some (.slice el))(d:P.underlying dst=some .string)(e:P.underlying el=some (.int .u8))(g:l.length=n)(hc:∀ (j:Nat) w,(l.map u8V)[j]?=some w->h.get.cell? (a.add j)=some w)
 (f:(K (.string (str l))).wp X P Q h):(T.sem false (convert src dst (.slice (some a) n c)) K).wp X P Q h:=by
 refine Q6 (A:=fun w h'=>h'=h.get/\w=.string (str l)) ?_ (by rintro w h' ⟨rfl,rfl⟩;exact f);unfold convert;simp only[lwp_bind,Qa b,Qa d,Qa e];exact lwp_ofBytes g hc ⟨rfl,rfl⟩
theorem Dn(h:n<10):decDigits n=[UInt8.ofNat (48+n)]:=by rw[decDigits,dif_pos h]
theorem H2(h:¬ n<10):decDigits n=decDigits (n / 10)++[UInt8.ofNat (48+n%10)]:=by rw[decDigits,dif_neg h]
theorem Ur(x:Span):da x=if x.first.toNat=x.last.toNat then decDigits x.first.toNat else decDigits x.first.toNat++45::decDigits x.last.toNat:=rfl
def lineTo(w:Bs)(fs:List Bs):Bs:=w++58::(fs.flatMap fun f=>f++[59])
theorem join_snoc{c:UInt8}:∀ {l:List Bs} {x:Bs},l≠[]->joinS c (l++[x])=joinS c l++c::x
 | [],_,h=>absurd rfl h
 | [a],x,_=>rfl
 | a::b::l,x,_=>by
  have:=join_snoc (c:=c) (l:=b::l) (x:=x) (by simp);show a++c::joinS c ((b::l)++[x])=_;rw[this];show _=(a++c::joinS c (b::l))++c::x;simp
end Go.TM.Tp
namespace Go.Y.Txt
open Go.TM.Tp
open Go.Lib (decDigits)
attribute [local irreducible] T.wp CV FWK
theorem undBy:Tryz.prog.underlying 78=some (.slice 5):=by kernel_rfl
theorem undU:Tryz.prog.underlying 5=some (.int .u8):=by kernel_rfl
theorem infU:(Tryz.prog.info? 5).map (fun i=>(i.size,i.bytes,i.zero))=some (1,1,some (.int .u8 0)):=by kernel_rfl
end Go.Y.Txt
end
section
namespace Go.TM.Tp
section
variable {P:Program} {h:Cells} {E:Halt->Cells->Prop}
theorem bytes_of(l:Bs):((str l).extract 0 l.length).data.map (fun b=>Value.int .u8 (b.toNat:Int))=(l.map u8V).toArray:=by
 rw[Wh,List.take_length];simp[str,u8V]
theorem lwp_appendStr{Q:Value->Cells->Prop}{ts:Array TypeId}{ty S U el:TypeId}{inf:TypeInfo}{z:Value}{p:Option Addr}{n c:Nat}{vs:List Value}{l:Bs}(h0:ts[0]?=some S)(B:ts[1]?=some U)(hu:P.underlying S=some (.slice el))(M:P.underlying U=some .string)
 (F:P.info? el=some inf)(Z:inf.zero=some z)(L:z.cells.size=1)(w:inf.size=1)(hb:inf.bytes<=1024)(Y:n+l.length<=2^30)(own:OwnRow el 1 h p n c vs)
 (J:∀ A R h',OwnRow el 1 h' A (n+l.length) R (vs++l.map u8V)->KeptBut p h h'->(A=p\/∃ r,A=some ⟨r,0,none⟩/\h r=none)->Q (.slice A (n+l.length) R) h'):Qc P (Builtin.append_ ts ty #[.slice p n c,.string (str l)]) Q E h:=by
 unfold Builtin.append_;rw[h0,B];simp only[List.getElem?_toArray,List.getElem?_cons_zero,List.getElem?_cons_succ];simp only[lwp_bind,Qa hu,Qx F,Qa M,Qe,Bool.false_eq_true,if_false,Bool.not_false,if_true,Builtin.lenOf,Js];obtain⟨f,o⟩:=own;have one:∀ v∈l.map u8V,isOne v=true:=by
  intro v hv;obtain⟨b,_,rfl⟩:=List.mem_map.1 hv;rfl
 by_cases d:n+l.length<=c
 ·simp only[if_pos d,lwp_bind,Builtin.firstCells,Qe,bytes_of];rcases o with⟨rfl,rfl,rfl⟩|⟨r,cs,rfl,hr,s,H,hv⟩
  ·have:l=[]:=List.eq_nil_of_length_eq_zero (by omega);subst this;simp only[Qe];exact J _ _ _ ⟨by simp at f ⊢;exact f,.inl ⟨rfl,rfl,rfl⟩⟩ (fun _ _ M _=>M) (.inl rfl)
  ·simp only[];have hle:n+(l.map u8V).length<=cs.size:=by rw[List.length_map,s];omega
   have C:Addr.add ⟨r,0,none⟩ (n*inf.size)=⟨r,n,none⟩:=by rw[w,Nat.mul_one,Ql,Nat.zero_add]
   rw[C];rw[lwp_bind];refine K8 (l.map u8V) 0 h r n cs el hr (by omega) one ?_;rw[Qe];refine J _ _ _ ⟨by simp[f],.inr ⟨r,_,rfl,Qk _ _ _,?_,d,?_⟩⟩ ?_ (.inl rfl)
   ·rw[size_setMany];exact s
   ·intro j v i;rw[setMany_get (by omega)];by_cases G:j<vs.length
    ·rw[if_neg (by omega)];rw[List.getElem?_append_left G]at i;exact hv j v i
    ·rw[List.getElem?_append_right (by omega)]at i;have X:j-vs.length<(l.map u8V).length:=(List.getElem?_eq_some_iff.1 i).1;rw[if_pos (by omega),<- i];congr 1;omega
   ·intro O x g I;have:O≠r:=fun e=>I _ rfl e.symm;rw[Qm _ _ this];exact g
 ·have u:¬ ((((n+l.length:Nat):Int)>IntKind.i64.max)/\(False\/inf.bytes=0)):=by
   rintro⟨B,_⟩;have e:IntKind.i64.max=9223372036854775807:=rfl;rw[e]at B;omega
  have y:=nextslicecap_le (Nat.lt_of_not_le d);have k:¬ (Builtin.nextslicecap (n+l.length) c*inf.bytes>2^48):=by
   have:=Nat.mul_le_mul y hb;have h2:(2*(n+l.length)+400)*1024<=(2*2^30+400)*1024:=Nat.mul_le_mul_right _ (by omega);have:(2*2^30+400)*1024<=2^48:=by decide
   omega
  simp only[if_neg d,lwp_bind,Jl F,if_neg u,if_neg k,Qe];have D:∀ {K:Nat->Cells->Prop},(∀ a,n+l.length<=a->K a h)->Qc P (choose (Question.appendCap (n+l.length) c el)) K E h:=by
   intro K q;show (if _ then _ else _);split
   ·rename_i W;simp[Question.forced]at W
   ·intro t;exact q _ (Nat.le_add_right _ _)
  refine D fun a C=>?_;have m:∀ {K:Unit->Cells->Prop},K () h->Qc P (askRoom (a*inf.bytes)) K E h:=by
   intro K q;unfold askRoom;split
   ·exact⟨.inl rfl,q⟩
   ·exact q
  refine m ?_;have hold:∀ {K:Array Value->Cells->Prop},(∀ old:Array Value,old.toList=vs->K old h)->Qc P (Builtin.firstCells inf.size n (Value.slice p n c)) K E h:=by
   intro K q;rcases o with⟨rfl,rfl,rfl⟩|⟨r,cs,rfl,hr,s,H,hv⟩
   ·have:vs=[]:=List.eq_nil_of_length_eq_zero (by rw[f]);simp only[Builtin.firstCells,Qe];exact q #[] (by rw[this])
   ·simp only[Builtin.firstCells];refine Wy (l:=vs) (by rw[f,w]) (fun j v i=>?_) (q _ rfl);rw[Ql,Nat.zero_add];simp only[Cells.cell?,hr,Option.isSome_none,Bool.false_eq_true,if_false];exact hv j v i
  refine hold fun old hold=>?_;simp only[Builtin.firstCells,Qe,bytes_of,Jb F Z];refine J7 fun r hr=>?_;have N:(Builtin.zeroCells z.cells (a-(n+l.length))).size=a-(n+l.length):=by simp[Builtin.zeroCells,L]
  refine J _ _ _ ⟨by simp[f],.inr ⟨r,_,rfl,Qk _ _ _,?_,C,?_⟩⟩ ?_ (.inr ⟨r,rfl,hr⟩)
  ·have V:old.size=n:=by rw[<- Array.length_toList,hold,f,Nat.mul_one]
   simp only[Array.size_append,V,N,List.size_toArray,List.length_map];omega
  ·intro j v i;have hlen:j<(vs++l.map u8V).length:=(List.getElem?_eq_some_iff.1 i).1;rw[<- Array.getElem?_toList,Array.toList_append,Array.toList_append,hold,List.getElem?_append_left (by simpa using hlen)];exact i
  ·intro O x g _;have:O≠r:=by rintro rfl;rw[hr]at g;cases g
   rw[Qm _ _ this];exact g
end
section
variable {P:Program} {X:XP} {Q:Leaf->LH->Prop}
variable {h:LH}{K:Value->T}{ty:TypeId}{p:Option Addr}{n c:Nat}
theorem t_appStr{ts:Array TypeId}{k m el:TypeId}{f:Nat}{z:Value}{vs:List Value}{l:Bs}(h0:ts[0]?=some k)(s:ts[1]?=some m)(hu:P.underlying k=some (.slice el))(w:P.underlying m=some .string)
 (t:(P.info? el).map (fun i=>(i.size,i.bytes,i.zero))=some (1,f,some z))(j:z.cells.size=1)(hb:f<=1024)(g:n+l.length<=2^30)(own:OwnRow el 1 h.get p n c vs)
 (u:∀ d e h',OwnRow el 1 h' d (n+l.length) e (vs++l.map u8V)->KeptBut p h.get h'->(d=p\/∃ r,d=some ⟨r,0,none⟩/\h.get r=none)->(K (.slice d (n+l.length) e)).wp X P Q { h with get:=h' }):(T.sem false (Builtin.append_ ts ty #[.slice p n c,.string (str l)]) K).wp X P Q h:=by
 obtain⟨i,g1,o,q,g4⟩:=Zj t;subst q;exact Q6 (A:=fun v h'=>∃ d e,v=.slice d (n+l.length) e/\OwnRow el 1 h' d (n+l.length) e (vs++l.map u8V)/\KeptBut p h.get h'/\(d=p\/∃ r,d=some ⟨r,0,none⟩/\h.get r=none)) (lwp_appendStr h0 s hu w g1 g4 j o hb g own fun d e h' a b c=>⟨d,e,rfl,a,b,c⟩)
  (by rintro v h' ⟨d,e,rfl,a,b,c⟩;exact u d e h' a b c)
theorem t_sliceData{ts:Array TypeId}{e:TypeId}(hu:P.underlying ty=some (.pointer e))(j:∀ a,p=some a->∃ m cs el d,h.get a.block=some (m,.cells cs el d))
 (i:∀ q h',h.le h'->(c≠0->q=p)->(K (.pointer q)).wp X P Q h'):(T.sem false (Builtin.unsafeSliceData_ ts ty #[.slice p n c]) K).wp X P Q h:=by
 refine Q6 (A:=fun v h'=>∃ q,v=.pointer q/\h.get.le h'/\(c≠0->q=p)) ?_ (by rintro v h' ⟨q,rfl,f,g⟩;exact i q { h with get:=h' } ⟨f,rfl,rfl,rfl⟩ g);cases p with
 | none=>exact⟨none,rfl,Cells.le_refl _,fun _=>rfl⟩
 | some a =>
  show Qc P (if c≠0 then pure (Value.pointer (some a)) else do
   if (<- viewAt a.block).isSome then pure (Value.pointer (some a)) else pure (Value.pointer (some ⟨<- newObj (.view a (<- elemOf ty)),0,none⟩))) _ _ _
  by_cases hc:c=0
  ·rw[if_neg (fun h=>h hc)];obtain⟨m,cs,el,d,hr⟩:=j a rfl;unfold viewAt;simp only[lwp_bind,Qe];refine(Kk hr).2 ?_;simp only[Option.isSome_some,if_true,Qe,Option.isSome_none,Bool.false_eq_true,if_false];unfold elemOf;simp only[lwp_bind,Qa hu,Qe];intro r b;exact⟨_,rfl,Z5 _ b,fun h=>absurd hc h⟩
  ·rw[if_pos hc];exact⟨_,rfl,Cells.le_refl _,fun _=>rfl⟩
end
variable {P:Program}
theorem lies_bytes{u:TypeId}{c n:Nat}(b:P.depth≠0)(a:P.cellsOf u=1)(f:n<=c):liesAt P P.depth u (c / P.cellsOf u) 0 u n=true:=by
 obtain⟨d,e⟩:=Nat.exists_eq_succ_of_ne_zero b;have:rowAt P (sameLayout P P.depth · u) P.depth u (c / P.cellsOf u) 0 n=true:=by
  rw[e,a];unfold rowAt;unfold sameLayout;simp[a,f]
 rw[e]at this ⊢;unfold liesAt;rw[e,this,Bool.true_or]
theorem lwp_loadBytes{P:Program}{E:Halt->Cells->Prop}{h:Cells}:∀ (l:Bs) (a:Addr) (acc:Bs) {Q:ByteArray->Cells->Prop},(∀ (j:Nat) w,(l.map u8V)[j]?=some w->h.cell? (a.add j)=some w)->Q (str (acc++l)) h->Qc P (loadBytes a (str acc) l.length) Q E h
 | [],a,acc,Q,_,c=>by
  rw[List.append_nil]at c;exact c
 | b::l,a,acc,Q,hc,c=>by
  show Qc P (load a >>= _) _ _ _;rw[lwp_bind];refine⟨rfl,_,by have:=hc 0 _ rfl;rwa[addr0']at this,?_⟩;show Qc P (loadBytes (a.add 1) ((str acc).push (((b.toNat:Int).toNat).toUInt8)) l.length) Q E h;have e:(str acc).push (((b.toNat:Int).toNat).toUInt8)=str (acc++[b]):=by
   rw[Int.toNat_natCast];apply ByteArray.ext;simp[str,ByteArray.push]
  rw[e];refine lwp_loadBytes l (a.add 1) (acc++[b]) (fun j w d=>?_) (by rw[List.append_assoc];exact c);rw[Addr.add_add',Nat.add_comm];exact hc (j+1) w d
where
 addr0' (a:Addr):a.add 0=a:=by unfold Addr.add;split<;>simp_all
def ButP(q:Option Addr)(h h':LH):Prop:=(∀ r,(∀ a,q=some a->a.block≠r)->h'.get r=h.get r)/\h'.chans=h.chans/\h'.pend=h.pend/\h'.todo=h.todo
theorem ButP.le{q:Option Addr}{h₀ h h':LH}(hle:h₀.le h)(f:NewIn h₀.get q)(b:ButP q h h'):h₀.le h' :=
 ⟨fun r x c=>by rw[b.1 r (fun a d e=>by have:=f a d;rw[e,c]at this;cases this)];exact hle.1 r x c,b.2.1.trans hle.2.1,b.2.2.1.trans hle.2.2.1,b.2.2.2.trans hle.2.2.2⟩
theorem t_unsafeStr{X:XP}{Q:Leaf->LH->Prop}{h:LH}{K:Value->T}{ts:Array TypeId}{ty o el:TypeId}{q:Option Addr}{l:Bs}(h0:ts[0]?=some o)(hu:P.underlying o=some (.pointer el))(s:P.depth≠0)(p:P.cellsOf el=1)(n:l.length<=2^60)
 (y:l≠[]->∃ (r:Nat) (cs:Array Value) (m:Nat×Nat),q=some ⟨r,0,none⟩/\h.get r=some (true,.cells cs el m)/\l.length<=cs.size/\∀ (j:Nat) w,(l.map u8V)[j]?=some w->cs[j]?=some w)
 (x:∀ h',ButP q h h'->(l=[]->h'=h)->(K (.string (str l))).wp X P Q h'):(T.sem false (Builtin.unsafeString_ ts ty #[.pointer q,.int .i64 (l.length:Int)]) K).wp X P Q h:=by
 refine Q6 (A:=fun v h'=>v=.string (str l)/\ButP q h { h with get:=h' }/\(l=[]->h'=h.get)) ?_ (by rintro v h' ⟨rfl,b,e⟩;exact x _ b fun n=>by rw[e n]);have c:IntKind.i64.max=9223372036854775807:=rfl;show Qc P ((pure (l.length:Int):Sem Int) >>= _) _ _ _;rw[lwp_bind,Qe];rw[h0];dsimp only;rw[if_neg (by omega)];rw[if_neg (by rw[c];omega)];by_cases d:l=[]
 ·subst d;cases q with
  | none=>exact⟨rfl,⟨fun _ _=>rfl,rfl,rfl,rfl⟩,fun _=>rfl⟩
  | some a=>exact⟨rfl,⟨fun _ _=>rfl,rfl,rfl,rfl⟩,fun _=>rfl⟩
 ·have hlen:0<l.length:=List.length_pos_iff.2 d;obtain⟨r,cs,m,rfl,hr,f,hc⟩:=y d;simp only[];rw[if_neg (by omega)];unfold elemOf variablesAt;simp only[lwp_bind,Qa hu,Qe,Jh];refine(Kk hr).2 ?_;simp only[Int.toNat_natCast,Qe];rw[if_pos (lies_bytes s p f)];rw[lwp_bind];refine lwp_loadBytes l ⟨r,0,none⟩ [] (fun j w u=>?_) ?_
  ·rw[Ql,Nat.zero_add];simp only[Cells.cell?,hr,Option.isSome_none,Bool.false_eq_true,if_false];exact hc j w u
  rw[List.nil_append,lwp_bind];refine⟨by omega,⟨_,hr,fun i t=>t⟩,rfl,⟨fun k g=>?_,rfl,rfl,rfl⟩,fun e=>absurd e d⟩;have:k≠r:=fun e=>g _ rfl e.symm;show Cells.freeze h.get ⟨r,0,none⟩ l.length k=h.get k;unfold Cells.freeze;rw[if_neg this]
end Go.TM.Tp
end
section
namespace Go.Y
set_option maxHeartbeats 0
set_option linter.unusedVariables false
variable {X:XP} {h:LH} {A:Value->LH->Prop}
variable {a b c d e f g i j k l m:Int}{n o p q r s t u v w x y z:Nat}{B C D E F G H I J K L M:Option Addr}
theorem w3714{d:ByteArray}{g:Addr}:FX X 34 #[.string d,.slice B n o,.pointer (some g)] h A (.sem false (Sem.bind (eqGuard BinOp.add 9 (Operand.tmp 5) (Operand.const (.string { data:=#[58] })) (.string d) (.string { data:=#[58] })) fun e=>binOp BinOp.add 9 (.string d) (.string { data:=#[58] })) fun a=>.unStr a fun b=>.cl 36 #[.slice B n o,.string { data:=#[59] }] fun a=>.unStr a fun f=>.sem false (Sem.bind (eqGuard BinOp.add 9 (Operand.tmp 6) (Operand.tmp 8) (.string b) (.string f)) fun e=>binOp BinOp.add 9 (.string b) (.string f)) fun a=>.unStr a fun b=>.sem false (Sem.bind (eqGuard BinOp.add 9 (Operand.tmp 9) (Operand.const (.string { data:=#[59,10] })) (.string b) (.string { data:=#[59,10] })) fun e=>binOp BinOp.add 9 (.string b) (.string { data:=#[59,10] })) fun a=>.unStr a fun b=>.cT 35 #[.pointer (some g),.string b] fun a c=>.ui a fun i=>.unCons c fun a c=>.unNil c (.rt (.tuple #[]))):=fk [] [] [] Tryz.f34
theorem w3717:FX X 37 #[a] h A (.cl 86 #[a] fun c=>.unStr c fun b=>.rt (.string b)):=fk [] [] [] Tryz.f37
theorem w3718:FX X 38 #[.agg #[a,b]] h A (bif a==b then .cl 37 #[a] fun d=>.unStr d fun c=>.rt (.string c) else .cl 37 #[a] fun d=>.unStr d fun c=>.nds [b,.pp 1 1,.pp 1 0] (.both (.sem false (Sem.bind (eqGuard BinOp.add 9 (Operand.tmp 13) (Operand.const (.string { data:=#[45] })) (.string c) (.string { data:=#[45] })) fun f=>binOp BinOp.add 9 (.string c) (.string { data:=#[45] })) fun d=>.unStr d fun c=>.nds [b,.pp 1 1,.pp 1 0] (.cl 37 #[b] fun d=>.unStr d fun e=>.nds [.pp 1 1,.pp 1 0] (.sem false (Sem.bind (eqGuard BinOp.add 9 (Operand.tmp 14) (Operand.tmp 17) (.string c) (.string e)) fun f=>binOp BinOp.add 9 (.string c) (.string e)) fun d=>.unStr d fun c=>.nds [.pp 1 1,.pp 1 0] (.rt (.string c))))) (.cl 37 #[b] fun d=>.unStr d fun e=>.nds [.pp 1 1,.pp 1 0] (.sem false (Sem.bind (eqGuard BinOp.add 9 (Operand.tmp 13) (Operand.const (.string { data:=#[45] })) (.string c) (.string { data:=#[45] })) fun f=>binOp BinOp.add 9 (.string c) (.string { data:=#[45] })) fun d=>.unStr d fun c=>.nds [.pp 1 1,.pp 1 0] (.sem false (Sem.bind (eqGuard BinOp.add 9 (Operand.tmp 14) (Operand.tmp 17) (.string c) (.string e)) fun f=>binOp BinOp.add 9 (.string c) (.string e)) fun d=>.unStr d fun c=>.nds [.pp 1 1,.pp 1 0] (.rt (.string c))))))):=fk [1] [] [] Tryz.f38
theorem w3719:FX X 39 #[.slice B n o] h A (.loop [.slice none 0 0,.int .i64 0] (fun a=>.popS a fun c b d a=>.pi a fun e a=>.unNil a (bif decide (e<(↑n:Int)) then .need (0<=e/\e<(↑n:Int)) (.someA B fun i=>.li (i.add (e.toNat*1)) fun l=>.cl 37 #[l] fun f=>.unStr f fun g=>.sem false (Instr.buildSlice 81 1 #[(0,.string g)]) fun f=>.unS f fun j m k=>.sem false (Builtin.append_ #[81,81] 81 #[.slice c b d,.slice j m k]) fun f=>.unS f fun c b d=>.ag [.slice c b d,.int .i64 (wrap .i64 (e+1))]) else .bk [.slice c b d,e])) (fun a=>.popS a fun c b d a=>.pi a fun e a=>.unNil a (.cl 36 #[.slice c b d,.string { data:=#[44] }] fun f=>.unStr f fun g=>.rt (.string g))) (fun a=>.popS a fun c b d a=>.pi a fun b a=>.unNil a (.rt (.string { data:=#[] }))) fun p q=>.fail):=fk [] [⟨0,[(3,.slice),(8,.int .i64)],[],[],[],[]⟩] [] Tryz.f39
theorem w3704:FX X 9 #[.agg #[a,b,c,d,.slice B n o,.slice C p q,.slice D r s]] h A (.cI 33 #[.agg #[a,b,c,d,.slice B n o,.slice C p q,.slice D r s]] fun e=>bif e != 0 then .rt (.tuple #[.string { data:=#[] },e]) else .new 80 #[.pointer none,.slice none 0 0] fun j=>.cl 37 #[a] fun f=>.unStr f fun l=>.nds [d,.pp 1 3,c,.pp 1 2,b,.pp 1 1,.pp 1 0,.val (.func (Fn.func 34) #[] #[.pointer (some ⟨j,0,none⟩)])] (.cl 37 #[b] fun f=>.unStr f fun H=>.nds [d,.pp 1 3,c,.pp 1 2,.pp 1 1,.pp 1 0,.val (.func (Fn.func 34) #[] #[.pointer (some ⟨j,0,none⟩)])] (.cl 37 #[c] fun f=>.unStr f fun I=>.nds [d,.pp 1 3,.pp 1 2,.pp 1 1,.pp 1 0,.val (.func (Fn.func 34) #[] #[.pointer (some ⟨j,0,none⟩)])] (.cl 37 #[d] fun f=>.unStr f fun J=>.nds [.pp 1 3,.pp 1 2,.pp 1 1,.pp 1 0,.val (.func (Fn.func 34) #[] #[.pointer (some ⟨j,0,none⟩)])] (.sem false (Instr.buildSlice 81 4 #[(0,.string l),(1,.string H),(2,.string I),(3,.string J)]) fun f=>.unS f fun i e k=>.nds [.pp 1 3,.pp 1 2,.pp 1 1,.pp 1 0,.val (.func (Fn.func 34) #[] #[.pointer (some ⟨j,0,none⟩)])] (.callv false (.func (Fn.func 34) #[] #[.pointer (some ⟨j,0,none⟩)]) #[.string { data:=#[117,115,101] },.slice i e k] fun f=>.unTup f fun t=>.unNil t (.nds [.pp 1 3,.pp 1 2,.pp 1 1,.pp 1 0] (.loop [.int .i64 0] (fun g=>.pi g fun e g=>.unNil g (bif decide (e<(↑n:Int)) then .need (0<=e/\e<(↑n:Int)) (.someA B fun i=>.li ((i.add (e.toNat*2)).add 0) fun w=>.li ((i.add (e.toNat*2)).add 1) fun v=>.cl 38 #[.agg #[w,v]] fun f=>.unStr f fun l=>.sem false (Instr.buildSlice 81 1 #[(0,.string l)]) fun f=>.unS f fun i m k=>.callv false (.func (Fn.func 34) #[] #[.pointer (some ⟨j,0,none⟩)]) #[.string { data:=#[101,120,99,117,115,101] },.slice i m k] fun f=>.unTup f fun t=>.unNil t (.ag [.int .i64 (wrap .i64 (e+1))])) else .bk [e])) (fun g=>.pi g fun e g=>.unNil g (.loop [.int .i64 0] (fun g=>.pi g fun e g=>.unNil g (bif decide (e<(↑p:Int)) then .need (0<=e/\e<(↑p:Int)) (.someA C fun i=>.li ((i.add (e.toNat*4)).add 0) fun w=>.li ((i.add (e.toNat*4)).add 1) fun v=>.li ((i.add (e.toNat*4)).add 2) fun m=>.loadS ((i.add (e.toNat*4)).add 3) fun u x k=>.cl 38 #[.agg #[w,v]] fun f=>.unStr f fun l=>.nds [.S u x k,.pp 10 3,m,.pp 10 2,.pp 10 0,.val (.func (Fn.func 34) #[] #[.pointer (some ⟨j,0,none⟩)])] (.cl 37 #[m] fun f=>.unStr f fun y=>.nds [.S u x k,.pp 10 3,.pp 10 2,.pp 10 0,.val (.func (Fn.func 34) #[] #[.pointer (some ⟨j,0,none⟩)])] (.cl 39 #[.slice u x k] fun f=>.unStr f fun z=>.nds [.pp 10 3,.pp 10 2,.pp 10 0,.val (.func (Fn.func 34) #[] #[.pointer (some ⟨j,0,none⟩)])] (.sem false (Instr.buildSlice 81 3 #[(0,.string l),(1,.string y),(2,.string z)]) fun f=>.unS f fun i G k=>.nds [.pp 10 3,.pp 10 2,.pp 10 0,.val (.func (Fn.func 34) #[] #[.pointer (some ⟨j,0,none⟩)])] (.callv false (.func (Fn.func 34) #[] #[.pointer (some ⟨j,0,none⟩)]) #[.string { data:=#[112,97,112,101,114] },.slice i G k] fun f=>.unTup f fun t=>.unNil t (.nds [.pp 10 3,.pp 10 2,.pp 10 0] (.ag [.int .i64 (wrap .i64 (e+1))]))))))) else .bk [e])) (fun g=>.pi g fun e g=>.unNil g (.loop [.int .i64 0] (fun g=>.pi g fun e g=>.unNil g (bif decide (e<(↑r:Int)) then .need (0<=e/\e<(↑r:Int)) (.someA D fun i=>.li ((i.add (e.toNat*3)).add 0) fun w=>.li ((i.add (e.toNat*3)).add 1) fun v=>.loadS ((i.add (e.toNat*3)).add 2) fun u m k=>.cl 37 #[w] fun f=>.unStr f fun l=>.nds [.S u m k,.pp 12 2,v,.pp 12 1,.pp 12 0,.val (.func (Fn.func 34) #[] #[.pointer (some ⟨j,0,none⟩)])] (.cl 37 #[v] fun f=>.unStr f fun y=>.nds [.S u m k,.pp 12 2,.pp 12 1,.pp 12 0,.val (.func (Fn.func 34) #[] #[.pointer (some ⟨j,0,none⟩)])] (.cl 39 #[.slice u m k] fun f=>.unStr f fun z=>.nds [.pp 12 2,.pp 12 1,.pp 12 0,.val (.func (Fn.func 34) #[] #[.pointer (some ⟨j,0,none⟩)])] (.sem false (Instr.buildSlice 81 3 #[(0,.string l),(1,.string y),(2,.string z)]) fun f=>.unS f fun i x k=>.nds [.pp 12 2,.pp 12 1,.pp 12 0,.val (.func (Fn.func 34) #[] #[.pointer (some ⟨j,0,none⟩)])] (.callv false (.func (Fn.func 34) #[] #[.pointer (some ⟨j,0,none⟩)]) #[.string { data:=#[114,101,113,117,101,115,116] },.slice i x k] fun f=>.unTup f fun t=>.unNil t (.nds [.pp 12 2,.pp 12 1,.pp 12 0] (.ag [.int .i64 (wrap .i64 (e+1))]))))))) else .bk [e])) (fun g=>.pi g fun e g=>.unNil g (.cI 40 #[.pointer (some ⟨j,0,none⟩)] fun e=>bif decide (e>60000) then .rt (.tuple #[.string { data:=#[] },.int .i64 2]) else .cl 41 #[.pointer (some ⟨j,0,none⟩)] fun f=>.unStr f fun l=>.rt (.tuple #[.string l,.int .i64 0]))) (fun g=>.pi g fun e g=>.unNil g (.rt (.tuple #[.string { data:=#[] },.int .i64 0]))) fun E F=>.fail)) (fun g=>.pi g fun e g=>.unNil g (.rt (.tuple #[.string { data:=#[] },.int .i64 0]))) fun E F=>.fail)) (fun g=>.pi g fun e g=>.unNil g (.rt (.tuple #[.string { data:=#[] },.int .i64 0]))) fun E F=>.fail)))))))):=fk [1,8,10,12] [⟨0,[(37,.int .i64)],[1],[],[],[]⟩,⟨2,[(50,.int .i64)],[1],[],[],[]⟩,⟨4,[(70,.int .i64)],[1],[],[],[]⟩] [] Tryz.f9
theorem w3727{f:ByteArray}:FX X 48 #[.string f] h A (.cT 95 #[.string f,.string { data:=#[58] }] fun b a=>.unStr b fun f=>.unCons a fun b a=>.unStr b fun E=>.unCons a fun b a=>.unB b fun e=>.unNil a (.cT 96 #[.string E,.string { data:=#[59] }] fun b a=>.unStr b fun F=>.unCons a fun b a=>.unB b fun C=>.unNil a (.cl 97 #[.string F,.string { data:=#[59] }] fun b=>.unS b fun c d g=>.blk (bif !e then .loadV { block:=0,off:=0 } fun b=>.loadV { block:=0,off:=0 } fun l=>.ne l b (.rn [.nilIface,b]) else bif !C then .loadV { block:=0,off:=0 } fun b=>.loadV { block:=0,off:=0 } fun l=>.ne l b (.rn [.nilIface,b]) else .ag [.nilIface,.nilIface]) (fun a=>.popV a fun b a=>.popV a fun l a=>.unNil a (.blk (.sem false (Sem.bind (eqGuard BinOp.eql 9 (Operand.tmp 44) (Operand.const (.string { data:=#[117,115,101] })) (.string f) (.string { data:=#[117,115,101] })) fun p=>binOp BinOp.eql 9 (.string f) (.string { data:=#[117,115,101] })) fun b=>.unB b fun e=>bif e then .ag [.bool ((↑d:Int)==4)] else .ag [false]) (fun a=>.popB a fun e a=>.unNil a (bif e then .cT 98 #[.slice c d g] fun b a=>.unS b fun c d g=>.unCons a fun b a=>.unNil a (.sem false (Sem.bind (eqGuard BinOp.neq 83 (Operand.tmp 56) (Operand.const .nilIface) b .nilIface) fun p=>binOp BinOp.neq 83 b .nilIface) fun n=>.unB n fun e=>bif e then .rt (.tuple #[.nilIface,b]) else .need ((0:Int)<=0/\0<(↑d:Int)) (.someA c fun q=>.li (q.add 0) fun i=>.need ((0:Int)<=1/\1<(↑d:Int)) (.someA c fun o=>.li (o.add 1) fun j=>.need ((0:Int)<=2/\2<(↑d:Int)) (.someA c fun r=>.li (r.add 2) fun k=>.need ((0:Int)<=3/\3<(↑d:Int)) (.someA c fun c=>.li (c.add 3) fun d=>.rt (.tuple #[.iface 104 (.agg #[i,j,k,d]),.nilIface])))))) else .blk (.sem false (Sem.bind (eqGuard BinOp.eql 9 (Operand.tmp 74) (Operand.const (.string { data:=#[101,120,99,117,115,101] })) (.string f) (.string { data:=#[101,120,99,117,115,101] })) fun p=>binOp BinOp.eql 9 (.string f) (.string { data:=#[101,120,99,117,115,101] })) fun b=>.unB b fun e=>bif e then .ag [.bool ((↑d:Int)==1)] else .ag [false]) (fun a=>.popB a fun e a=>.unNil a (bif e then .need ((0:Int)<=0/\0<(↑d:Int)) (.someA c fun c=>.loadStr (c.add 0) fun f=>.cT 99 #[.string f] fun b a=>.unAgg b fun m=>.pi m fun d y=>.pi y fun i z=>.unNil z (.unCons a fun b a=>.unNil a (.rt (.tuple #[.iface 106 (.agg #[d,i]),b])))) else .blk (.sem false (Sem.bind (eqGuard BinOp.eql 9 (Operand.tmp 93) (Operand.const (.string { data:=#[112,97,112,101,114] })) (.string f) (.string { data:=#[112,97,112,101,114] })) fun p=>binOp BinOp.eql 9 (.string f) (.string { data:=#[112,97,112,101,114] })) fun b=>.unB b fun e=>bif e then .ag [.bool ((↑d:Int)==3)] else .ag [false]) (fun a=>.popB a fun e a=>.unNil a (bif e then .need ((0:Int)<=0/\0<(↑d:Int)) (.someA c fun q=>.loadStr (q.add 0) fun f=>.cT 99 #[.string f] fun b a=>.unAgg b fun m=>.pi m fun i y=>.pi y fun j z=>.unNil z (.unCons a fun b a=>.unNil a (.need ((0:Int)<=1/\1<(↑d:Int)) (.someA c fun o=>.loadStr (o.add 1) fun f=>.cl 100 #[.string f] fun n=>.unTup n fun m=>.unCons m fun w a=>.ui w fun k=>.unCons a fun s a=>.unNil a (.need ((0:Int)<=2/\2<(↑d:Int)) (.someA c fun c=>.loadStr (c.add 2) fun f=>.cl 101 #[.string f] fun x=>.unTup x fun m=>.unCons m fun G a=>.unS G fun c d g=>.unCons a fun H a=>.unNil a (.sem false (Instr.buildSlice 235 3 #[(0,b),(1,s),(2,H)]) fun b=>.unS b fun r v D=>.nds [.val (.iface 108 (.agg #[i,j,k,.slice c d g])),.val (.agg #[i,j,k,.slice c d g]),.val (.agg #[i,j,k,.slice c d g]),.S c d g,k,.val (.agg #[i,j])] (.cl 102 #[.slice r v D] fun b=>.nds [.val (.iface 108 (.agg #[i,j,k,.slice c d g])),.val (.agg #[i,j,k,.slice c d g]),.val (.agg #[i,j,k,.slice c d g]),.S c d g,k,.val (.agg #[i,j])] (.rt (.tuple #[.iface 108 (.agg #[i,j,k,.slice c d g]),b])))))))))) else .blk (.sem false (Sem.bind (eqGuard BinOp.eql 9 (Operand.tmp 133) (Operand.const (.string { data:=#[114,101,113,117,101,115,116] })) (.string f) (.string { data:=#[114,101,113,117,101,115,116] })) fun p=>binOp BinOp.eql 9 (.string f) (.string { data:=#[114,101,113,117,101,115,116] })) fun b=>.unB b fun e=>bif e then .ag [.bool ((↑d:Int)==3)] else .ag [false]) (fun a=>.popB a fun e a=>.unNil a (bif e then .sem false (Instr.sliceAt 81 (.slice c d g) none (some (.int .i64 2)) none) fun I=>.unS I fun q i g=>.cT 98 #[.slice q i g] fun b a=>.unS b fun o j g=>.unCons a fun b a=>.unNil a (.need ((0:Int)<=2/\2<(↑d:Int)) (.someA c fun c=>.loadStr (c.add 2) fun f=>.cl 101 #[.string f] fun n=>.unTup n fun m=>.unCons m fun w a=>.unS w fun c d g=>.unCons a fun s a=>.unNil a (.sem false (Sem.bind (eqGuard BinOp.neq 83 (Operand.tmp 153) (Operand.const .nilIface) b .nilIface) fun p=>binOp BinOp.neq 83 b .nilIface) fun x=>.unB x fun e=>bif e then .rt (.tuple #[.nilIface,b]) else .need ((0:Int)<=0/\0<(↑j:Int)) (.someA o fun r=>.li (r.add 0) fun k=>.need ((0:Int)<=1/\1<(↑j:Int)) (.someA o fun B=>.li (B.add 1) fun v=>.ne s s (.rt (.tuple #[.iface 110 (.agg #[k,v,.slice c d g]),s]))))))) else .loadV { block:=0,off:=0 } fun b=>.loadV { block:=0,off:=0 } fun n=>.ne n b (.rt (.tuple #[.nilIface,b])))) (fun a=>.popB a fun e a=>.unNil a (.rt (.tuple #[b,l]))) fun t u=>.fail)) (fun a=>.popB a fun e a=>.unNil a (.rt (.tuple #[b,l]))) fun t u=>.fail)) (fun a=>.popB a fun e a=>.unNil a (.rt (.tuple #[b,l]))) fun t u=>.fail)) (fun a=>.popB a fun e a=>.unNil a (.rt (.tuple #[b,l]))) fun t u=>.fail)) (fun a=>.popV a fun b a=>.popV a fun l a=>.unNil a (.rt (.tuple #[b,l]))) fun t u=>.fail))):=fk [11,13] [] [⟨2000132,[(132,.bool)],[],[],[],[]⟩,⟨2000092,[(92,.bool)],[],[],[],[]⟩,⟨2000073,[(73,.bool)],[],[],[],[]⟩,⟨2000043,[(43,.bool)],[],[],[],[]⟩,⟨6,[(2,.any),(3,.any)],[],[],[],[]⟩] Tryz.f48
theorem w3747:FX X 98 #[.slice B n o] h A (.loop [.slice none 0 0,.nilIface,.slice none 0 0,.int .i64 0] (fun a=>.popS a fun c e d a=>.popV a fun g a=>.popS a fun i f j a=>.pi a fun b a=>.unNil a (bif decide (b<(↑n:Int)) then .need (0<=b/\b<(↑n:Int)) (.someA B fun l=>.loadStr (l.add (b.toNat*1)) fun x=>.cl 100 #[.string x] fun y=>.unTup y fun t=>.unCons t fun z a=>.ui z fun u=>.unCons a fun k a=>.unNil a (.sem false (Sem.bind (eqGuard BinOp.neq 83 (Operand.tmp 20) (Operand.const .nilIface) k .nilIface) fun F=>binOp BinOp.neq 83 k .nilIface) fun C=>.unB C fun q=>bif q then .rn [.slice none 0 0,k,.slice i f j,b] else .sem false (Instr.buildSlice 47 1 #[(0,.int .i64 u)]) fun D=>.unS D fun m v r=>.sem false (Builtin.append_ #[47,47] 47 #[.slice i f j,.slice m v r]) fun E=>.unS E fun p w s=>.ag [.slice c e d,g,.slice p w s,.int .i64 (wrap .i64 (b+1))])) else .bk [.slice c e d,g,.slice i f j,b])) (fun a=>.popS a fun c e d a=>.popV a fun g a=>.popS a fun c e d a=>.pi a fun f a=>.unNil a (.rt (.tuple #[.slice c e d,.nilIface]))) (fun a=>.popS a fun c e d a=>.popV a fun g a=>.popS a fun i f j a=>.pi a fun b a=>.unNil a (.rt (.tuple #[.slice c e d,g]))) fun G H=>.fail):=fk [] [⟨0,[(2,.slice),(3,.any),(4,.slice),(11,.int .i64)],[],[],[],[]⟩] [] Tryz.f98
theorem w3748{k:ByteArray}:FX X 99 #[.string k] h A (.cl 97 #[.string k,.string { data:=#[45] }] fun b=>.unS b fun d a e=>.cT 98 #[.slice d a e] fun b c=>.unS b fun d a e=>.unCons c fun b c=>.unNil c (.blk (.sem false (Sem.bind (eqGuard BinOp.neq 83 (Operand.tmp 12) (Operand.const .nilIface) b .nilIface) fun m=>binOp BinOp.neq 83 b .nilIface) fun b=>.unB b fun f=>bif f then .nds [true,true,.U,.U,.U,.U,true] (.loadV { block:=0,off:=0 } fun b=>.loadV { block:=0,off:=0 } fun g=>.ne g b (.rn [b,.int .i64 0,.int .i64 0])) else bif decide ((↑a:Int)>2) then .nds [.B (decide ((↑a:Int)>2)),.B (decide ((↑a:Int)>2)),.val (.int .i64 (↑a:Int)),.S d a e] (.nf f false (.nds [.B (decide ((↑a:Int)>2)),.B (decide ((↑a:Int)>2)),.val (.int .i64 (↑a:Int)),.S d a e] (.nf f false (.nds [.U,.U,.U,.U,.B (decide ((↑a:Int)>2)),.B (decide ((↑a:Int)>2)),.val (.int .i64 (↑a:Int)),.S d a e] (.nf f false (.loadV { block:=0,off:=0 } fun b=>.loadV { block:=0,off:=0 } fun g=>.ne g b (.rn [b,.int .i64 0,.int .i64 0]))))))) else bif (↑a:Int)==2 then .need ((0:Int)<=0/\0<(↑a:Int)) (.someA d fun j=>.li (j.add 0) fun i=>.need ((0:Int)<=1/\1<(↑a:Int)) (.someA d fun d=>.li (d.add 1) fun a=>bif i==a then .loadV { block:=0,off:=0 } fun b=>.loadV { block:=0,off:=0 } fun g=>.ne g b (.rn [b,.int .i64 0,.int .i64 0]) else .ag [.nilIface,.int .i64 0,.int .i64 0])) else .nds [.U,.U,.U,.U,.B ((↑a:Int)==2),.val (.int .i64 (↑a:Int)),.S d a e] (.nf (decide ((↑a:Int)>2)) false (.nds [.B (decide ((↑a:Int)>2)),.B (decide ((↑a:Int)>2)),.val (.int .i64 (↑a:Int)),.S d a e] (.nf f false (.ag [.nilIface,.int .i64 0,.int .i64 0]))))) (fun c=>.popV c fun b c=>.pi c fun i c=>.pi c fun n c=>.unNil c (.need ((0:Int)<=0/\0<(↑a:Int)) (.someA d fun j=>.li (j.add 0) fun l=>.need (0<=wrap .i64 ((↑a:Int)-1)/\wrap .i64 ((↑a:Int)-1)<(↑a:Int)) (.someA d fun d=>.li (d.add ((wrap .i64 ((↑a:Int)-1)).toNat*1)) fun a=>.rt (.tuple #[.agg #[l,a],.nilIface]))))) (fun c=>.popV c fun b c=>.pi c fun a c=>.pi c fun i c=>.unNil c (.rt (.tuple #[.agg #[a,i],b]))) fun o p=>.fail)):=fk [2] [] [⟨4,[(3,.any),(12288,.int .i64),(12289,.int .i64)],[],[],[],[]⟩] Tryz.f99
theorem w3749{b:ByteArray}:FX X 100 #[.string b] h A (.sem false (Builtin.len_ #[9] 3 #[.string b]) fun a=>.ui a fun c=>.cB 133 #[c,.int .i64 1,.int .i64 9] fun e=>bif !e then .loadV { block:=0,off:=0 } fun a=>.loadV { block:=0,off:=0 } fun f=>.ne f a (.rt (.tuple #[.int .i64 0,a])) else .cl 155 #[.string b,.string { data:=#[48,49,50,51,52,53,54,55,56,57] }] fun a=>.unStr a fun g=>.sem false (Sem.bind (eqGuard BinOp.neq 9 (Operand.tmp 10) (Operand.const (.string { data:=#[] })) (.string g) (.string { data:=#[] })) fun i=>binOp BinOp.neq 9 (.string g) (.string { data:=#[] })) fun a=>.unB a fun e=>bif e then .loadV { block:=0,off:=0 } fun a=>.loadV { block:=0,off:=0 } fun f=>.ne f a (.rt (.tuple #[.int .i64 0,a])) else .sem false (Instr.index 9 (.string b) (.int .i64 0)) fun a=>.unI .u8 a fun c=>bif c==48 then .sem false (Sem.bind (eqGuard BinOp.neq 9 (Operand.tmp 18) (Operand.const (.string { data:=#[48] })) (.string b) (.string { data:=#[48] })) fun i=>binOp BinOp.neq 9 (.string b) (.string { data:=#[48] })) fun a=>.unB a fun e=>bif e then .loadV { block:=0,off:=0 } fun a=>.loadV { block:=0,off:=0 } fun f=>.ne f a (.rt (.tuple #[.int .i64 0,a])) else .cT 156 #[.string b] fun a d=>.ui a fun c=>.unCons d fun a d=>.unNil d (.rt (.tuple #[c,a])) else .cT 156 #[.string b] fun a d=>.ui a fun c=>.unCons d fun a d=>.unNil d (.rt (.tuple #[c,a]))):=fk [] [] [] Tryz.f100
theorem w3750{b:ByteArray}:FX X 101 #[.string b] h A (.sem false (Sem.bind (eqGuard BinOp.eql 9 (Operand.tmp 4) (Operand.const (.string { data:=#[] })) (.string b) (.string { data:=#[] })) fun i=>binOp BinOp.eql 9 (.string b) (.string { data:=#[] })) fun a=>.unB a fun g=>bif g then .rt (.tuple #[.slice none 0 0,.nilIface]) else .cl 97 #[.string b,.string { data:=#[44] }] fun a=>.unS a fun c e d=>.cT 98 #[.slice c e d] fun a f=>.unS a fun c e d=>.unCons f fun a f=>.unNil f (.rt (.tuple #[.slice c e d,a]))):=fk [] [] [] Tryz.f101
def n3706(d0 : ByteArray) : T := .sem false (Builtin.len_ #[9] 3 #[.string d0]) fun d => .ui d fun i => bif decide (i > 60000) then .rt (.tuple #[.agg #[.int .i64 0, .int .i64 0, .int .i64 0, .int .i64 0, .slice none 0 0, .slice none 0 0, .slice none 0 0], .int .i64 0, .int .i64 2]) else .cl 47 #[.string d0] fun d => .each d [.int .i64 0, .int .i64 0, .int .i64 0, .int .i64 0, .slice none 0 0, .slice none 0 0, .slice none 0 0, .int .i64 0, .int .i64 0, .int .i64 0] (fun r1 a => .unCons r1 fun d z0 => .unStr d fun Y => .unNil z0 (.pi a fun i a => .pi a fun p a => .pi a fun q a => .pi a fun r a => .popS a fun f s g a => .popS a fun k t n a => .popS a fun l u o a => .pi a fun e a => .pi a fun I a => .pi a fun b a => .unNil a (.cl 49 #[.string Y, .string { data := #[10] }] fun d => .unStr d fun Y => .cT 48 #[.string Y] fun d a => .unCons a fun q0 a => .unNil a (.blk (.loadV { block := 0, off := 0 } fun Z => .cl 50 #[q0, Z] fun a0 => .unB a0 fun m => bif m then .nU (.both (.nds [.U,true] (.both (.nds [.U,true,true,true,.val (.int .i64 (wrap .i64 (e + 1)))] (.rn [.int .i64 0, .int .i64 0, .int .i64 0, .int .i64 0, .slice none 0 0, .slice none 0 0, .slice none 0 0, .int .i64 (wrap .i64 (e + 1)), .int .i64 3])) (.nds [true,true,true,.val (.int .i64 (wrap .i64 (e + 1)))] (.rn [.int .i64 0, .int .i64 0, .int .i64 0, .int .i64 0, .slice none 0 0, .slice none 0 0, .slice none 0 0, .int .i64 (wrap .i64 (e + 1)), .int .i64 3])))) (.nds [.U,true,true,true,true,.val (.int .i64 (wrap .i64 (e + 1)))] (.rn [.int .i64 0, .int .i64 0, .int .i64 0, .int .i64 0, .slice none 0 0, .slice none 0 0, .slice none 0 0, .int .i64 (wrap .i64 (e + 1)), .int .i64 3]))) else .callv false (.func (Fn.method "touchmark/use.place") #[d] #[]) #[] fun b0 => .ui b0 fun c => .nd b (bif decide (c < b) then .both (.nds [.U,.B (decide (c < b)),.B (decide (c < b)),b] (.both (.nds [.U,.B (decide (c < b)),.B (decide (c < b)),b,.B (decide (c < b)),.B (decide (c < b)),b,.B (decide (c < b)),.B (decide (c < b)),b,.val (.int .i64 (wrap .i64 (e + 1)))] (.rn [.int .i64 0, .int .i64 0, .int .i64 0, .int .i64 0, .slice none 0 0, .slice none 0 0, .slice none 0 0, .int .i64 (wrap .i64 (e + 1)), .int .i64 3])) (.nds [.B (decide (c < b)),.B (decide (c < b)),b,.B (decide (c < b)),.B (decide (c < b)),b,.B (decide (c < b)),.B (decide (c < b)),b,.val (.int .i64 (wrap .i64 (e + 1)))] (.rn [.int .i64 0, .int .i64 0, .int .i64 0, .int .i64 0, .slice none 0 0, .slice none 0 0, .slice none 0 0, .int .i64 (wrap .i64 (e + 1)), .int .i64 3])))) (.nds [.U,.B (decide (c < b)),.B (decide (c < b)),b,.B (decide (c < b)),.B (decide (c < b)),b,.B (decide (c < b)),.B (decide (c < b)),b,.B (decide (c < b)),.B (decide (c < b)),b,.val (.int .i64 (wrap .i64 (e + 1)))] (.rn [.int .i64 0, .int .i64 0, .int .i64 0, .int .i64 0, .slice none 0 0, .slice none 0 0, .slice none 0 0, .int .i64 (wrap .i64 (e + 1)), .int .i64 3])) else .callv false (.func (Fn.method "touchmark/use.place") #[d] #[]) #[] fun d => .ui d fun v => .nds [.B (wrap .i64 (e + 1) == 1),.val (.int .i64 (wrap .i64 (e + 1))),.B (decide (c < b)),.B (decide (c < b)),b] (bif !(v == 0) == (wrap .i64 (e + 1) == 1) then .nd (.int .i64 (wrap .i64 (e + 1))) (.rn [.int .i64 0, .int .i64 0, .int .i64 0, .int .i64 0, .slice none 0 0, .slice none 0 0, .slice none 0 0, .int .i64 (wrap .i64 (e + 1)), .int .i64 3]) else .ag [i, .int .i64 p, .int .i64 q, .int .i64 r, .slice f s g, .slice k t n, .slice l u o, .int .i64 (wrap .i64 (e + 1)), .int .i64 I]))) (fun a => .pi a fun i a => .pi a fun c a => .pi a fun v a => .pi a fun G a => .popS a fun f B g a => .popS a fun w C y a => .popS a fun x D z a => .pi a fun E a => .pi a fun F a => .unNil a (.callv false (.func (Fn.method "touchmark/use.place") #[d] #[]) #[] fun Z => .ui Z fun H => .sem false (Instr.typeAssert d 98 104 true) fun a0 => .unTup a0 fun j => .unCons j fun b0 a => .unAgg b0 fun j => .pi j fun g0 f1 => .pi f1 fun c0 g1 => .pi g1 fun R i1 => .pi i1 fun J j1 => .unNil j1 (.unCons a fun t0 a => .unB t0 fun m => .unNil a (bif m then .nds [J,.pp 9 3,R,.pp 9 2,c0,.pp 9 1,J,.pp 9 3,R,.pp 9 2,J,.pp 9 3] (.ag [g0, .int .i64 c0, .int .i64 R, .int .i64 J, .slice f B g, .slice w C y, .slice x D z, .int .i64 E, .int .i64 F, .int .i64 H]) else .sem false (Instr.typeAssert d 98 106 true) fun u0 => .unTup u0 fun j => .unCons j fun v0 a => .unAgg v0 fun j => .pi j fun i0 k1 => .pi k1 fun j0 l1 => .unNil l1 (.unCons a fun x0 a => .unB x0 fun m => .unNil a (bif m then .sem false (Instr.buildSlice 22 1 #[(0, .agg #[i0, .int .i64 j0])]) fun d => .unS d fun K S N => .sem false (Builtin.append_ #[22, 22] 22 #[.slice f B g, .slice K S N]) fun d => .unS d fun f U g => .ag [i, .int .i64 c, .int .i64 v, .int .i64 G, .slice f U g, .slice w C y, .slice x D z, .int .i64 E, .int .i64 F, .int .i64 H] else .sem false (Instr.typeAssert d 98 108 true) fun y0 => .unTup y0 fun j => .unCons j fun r0 a => .unAgg r0 fun j => .pi j fun S m1 => .pi m1 fun U o1 => .pi o1 fun k0 a1 => .popS a1 fun K l0 N b1 => .unNil b1 (.unCons a fun s0 a => .unB s0 fun m => .unNil a (bif m then .sem false (Instr.buildSlice 23 1 #[(0, .agg #[S, .int .i64 U, .int .i64 k0, .slice K l0 N])]) fun d => .unS d fun L V O => .sem false (Builtin.append_ #[23, 23] 23 #[.slice w C y, .slice L V O]) fun d => .unS d fun M W Q => .ag [i, .int .i64 c, .int .i64 v, .int .i64 G, .slice f B g, .slice M W Q, .slice x D z, .int .i64 E, .int .i64 F, .int .i64 H] else .sem false (Instr.typeAssert d 98 110 true) fun d => .unTup d fun j => .unCons j fun d a => .unAgg d fun j => .pi j fun V c1 => .pi c1 fun W d1 => .popS d1 fun L m0 O e1 => .unNil e1 (.unCons a fun d a => .unB d fun m => .unNil a (bif m then .sem false (Instr.buildSlice 24 1 #[(0, .agg #[V, .int .i64 W, .slice L m0 O])]) fun d => .unS d fun M o0 Q => .sem false (Builtin.append_ #[24, 24] 24 #[.slice x D z, .slice M o0 Q]) fun d => .unS d fun e0 p0 f0 => .ag [i, .int .i64 c, .int .i64 v, .int .i64 G, .slice f B g, .slice w C y, .slice e0 p0 f0, .int .i64 E, .int .i64 F, .int .i64 H] else .ag [i, .int .i64 c, .int .i64 v, .int .i64 G, .slice f B g, .slice w C y, .slice x D z, .int .i64 E, .int .i64 F, .int .i64 H])))))))))) (fun a => .pi a fun i a => .pi a fun c a => .pi a fun v a => .pi a fun G a => .popS a fun f B g a => .popS a fun w C y a => .popS a fun x D z a => .pi a fun E a => .pi a fun F a => .unNil a (.rn [i, .int .i64 c, .int .i64 v, .int .i64 G, .slice f B g, .slice w C y, .slice x D z, .int .i64 E, .int .i64 F, .int .i64 b])) fun p1 q1 => .fail)))) (fun a => .pi a fun i a => .pi a fun p a => .pi a fun q a => .pi a fun r a => .popS a fun f s g a => .popS a fun k t n a => .popS a fun l u o a => .pi a fun e a => .pi a fun I a => .pi a fun b a => .unNil a (bif e == 0 then .rt (.tuple #[.agg #[.int .i64 0, .int .i64 0, .int .i64 0, .int .i64 0, .slice none 0 0, .slice none 0 0, .slice none 0 0], .int .i64 0, .int .i64 3]) else .cI 33 #[.agg #[i, .int .i64 p, .int .i64 q, .int .i64 r, .slice f s g, .slice k t n, .slice l u o]] fun c => bif c != 0 then .rt (.tuple #[.agg #[.int .i64 0, .int .i64 0, .int .i64 0, .int .i64 0, .slice none 0 0, .slice none 0 0, .slice none 0 0], .int .i64 0, .int .i64 c]) else .rt (.tuple #[.agg #[i, .int .i64 p, .int .i64 q, .int .i64 r, .slice f s g, .slice k t n, .slice l u o], .int .i64 0, .int .i64 0]))) (fun a => .pi a fun i a => .pi a fun p a => .pi a fun q a => .pi a fun r a => .popS a fun f s g a => .popS a fun k t n a => .popS a fun l u o a => .pi a fun e a => .pi a fun I a => .pi a fun b a => .unNil a (bif e == 0 then .rt (.tuple #[.agg #[.int .i64 0, .int .i64 0, .int .i64 0, .int .i64 0, .slice none 0 0, .slice none 0 0, .slice none 0 0], .int .i64 0, .int .i64 3]) else .cI 33 #[.agg #[i, .int .i64 p, .int .i64 q, .int .i64 r, .slice f s g, .slice k t n, .slice l u o]] fun c => bif c != 0 then .rt (.tuple #[.agg #[.int .i64 0, .int .i64 0, .int .i64 0, .int .i64 0, .slice none 0 0, .slice none 0 0, .slice none 0 0], .int .i64 0, .int .i64 c]) else .rt (.tuple #[.agg #[i, .int .i64 p, .int .i64 q, .int .i64 r, .slice f s g, .slice k t n, .slice l u o], .int .i64 0, .int .i64 0]))) (fun a => .pi a fun i a => .pi a fun p a => .pi a fun q a => .pi a fun r a => .popS a fun f s g a => .popS a fun k t n a => .popS a fun l u o a => .pi a fun e a => .pi a fun I a => .pi a fun b a => .unNil a (.rt (.tuple #[.agg #[i, .int .i64 p, .int .i64 q, .int .i64 r, .slice f s g, .slice k t n, .slice l u o], .int .i64 e, .int .i64 I]))) fun p1 q1 => .fail
theorem w3706(text:ByteArray):FX X 11 #[.string text] h A (n3706 text):=fk [2,3,4,5,9,10,11,12] [{ id:=0,slots:=[(12288,.int .i64),(12289,.int .i64),(12290,.int .i64),(12291,.int .i64),(12292,.slice),(12293,.slice),(12294,.slice),(16384,.int .i64),(20480,.int .i64),(24576,.int .i64)],ro:=[],outs:=[],ps:=[.cell (.str)] }] [⟨10,[(12288,.int .i64),(12289,.int .i64),(12290,.int .i64),(12291,.int .i64),(12292,.slice),(12293,.slice),(12294,.slice),(16384,.int .i64),(20480,.int .i64)],[5],[],[],[]⟩] Tryz.f11
theorem w3807:FX X 268 #[.agg #[a,b,c,d]] h A (.rt (.int .i64 0)):=fk [1] [] [] Tryz.f268
theorem w3808:FX X 269 #[.agg #[a,b]] h A (.rt (.int .i64 1)):=fk [1] [] [] Tryz.f269
theorem w3809:FX X 270 #[.agg #[a,b,c,.slice B n o]] h A (.rt (.int .i64 2)):=fk [1] [] [] Tryz.f270
theorem w3810:FX X 271 #[.agg #[a,b,.slice B n o]] h A (.rt (.int .i64 3)):=fk [1] [] [] Tryz.f271
end Go.Y
end
section
namespace Go.Y.Txt
open Go.TM.Tp
attribute [local irreducible] T.wp CV FWK
variable {h:LH}
theorem c3720{r n c:Nat}{p q:Option Addr}(hb:h.get r=some (true,.cells #[.pointer p,.slice q n c] 80 (0,0))):Pu Tryz.prog 40 #[.pointer (some ⟨r,0,none⟩)] h (.int .i64 (n:Int)):=by
 refine w3720 Qn ?_;have g1:h.get.cell? ((⟨r,0,none⟩ : Addr).add 1)=some (.slice q n c):=Jx (i:=1) hb rfl;refine gZ ?_;exact Qg ⟨rfl,rfl⟩
theorem c3807(a b c d:Int):Pu Tryz.prog 268 #[.agg #[a,b,c,d]] h (.int .i64 0):=by
 refine w3807 Qn ?_;exact Qg ⟨rfl,rfl⟩
theorem c3808(a b:Int):Pu Tryz.prog 269 #[.agg #[a,b]] h (.int .i64 1):=by
 refine w3808 Qn ?_;exact Qg ⟨rfl,rfl⟩
theorem c3809(a b d:Int)(p:Option Addr)(n c:Nat):Pu Tryz.prog 270 #[.agg #[a,b,d,.slice p n c]] h (.int .i64 2):=by
 refine w3809 Qn ?_;exact Qg ⟨rfl,rfl⟩
theorem c3810(a b:Int)(p:Option Addr)(n c:Nat):Pu Tryz.prog 271 #[.agg #[a,b,.slice p n c]] h (.int .i64 3):=by
 refine w3810 Qn ?_;exact Qg ⟨rfl,rfl⟩
end Go.Y.Txt
end
section
namespace Go.Y
set_option maxHeartbeats 0
set_option linter.unusedVariables false
variable {X:XP} {h:LH} {A:Value->LH->Prop}
variable {a b c d e f g i j k l m:Int}{n o p q r s t u v w x y z:Nat}{B C D E F G H I J K L M:Option Addr}
theorem w3708:FX X 13 #[.agg #[a,b,c,d,.slice B n o,.slice C p q,.slice D r s],.agg #[e,f,g,i,.slice E t u,.slice F v w,.slice G x y]] h A (.blk (bif a != e then .rn [false] else bif b != f then .rn [false] else bif c != g then .rn [false] else bif d != i then .rn [false] else .cB 55 #[.slice B n o,.slice E t u] fun L=>bif !L then .rn [false] else bif (↑p:Int) != (↑v:Int) then .rn [false] else bif (↑r:Int) != (↑x:Int) then .rn [false] else .ag [false]) (fun k=>.popB k fun L k=>.unNil k (.loop [L,.int .i64 0] (fun k=>.popB k fun L k=>.pi k fun j k=>.unNil k (bif decide (j<(↑p:Int)) then .blk (.need (0<=j/\j<(↑p:Int)) (.someA C fun m=>.li ((m.add (j.toNat*4)).add 0) fun M=>.li ((m.add (j.toNat*4)).add 1) fun N=>.li ((m.add (j.toNat*4)).add 2) fun O=>.loadS ((m.add (j.toNat*4)).add 3) fun U K I=>.need (0<=j/\j<(↑v:Int)) (.someA F fun l=>.li ((l.add (j.toNat*4)).add 0) fun z=>.li ((l.add (j.toNat*4)).add 1) fun H=>.li ((l.add (j.toNat*4)).add 2) fun R=>.loadS ((l.add (j.toNat*4)).add 3) fun Q S J=>.both (.li ((l.add (j.toNat*4)).add 0) fun t0=>.li ((l.add (j.toNat*4)).add 1) fun f0=>.li ((l.add (j.toNat*4)).add 2) fun g0=>.loadS ((l.add (j.toNat*4)).add 3) fun u0 i0 a0=>.ne (.agg #[t0,f0,g0,.slice u0 i0 a0]) (.agg #[z,H,R,.slice Q S J]) (.need (0<=j/\j<(↑v:Int)) (.someA F fun V=>.ne (.pointer (some (V.add (j.toNat*4)))) (.pointer (some (l.add (j.toNat*4)))) (.nds [j,.S F v w,.pp 3 5] (.li ((m.add (j.toNat*4)).add 0) fun j0=>.li ((m.add (j.toNat*4)).add 1) fun k0=>.li ((m.add (j.toNat*4)).add 2) fun l0=>.loadS ((m.add (j.toNat*4)).add 3) fun v0 m0 b0=>.ne (.agg #[j0,k0,l0,.slice v0 m0 b0]) (.agg #[M,N,O,.slice U K I]) (.need (0<=j/\j<(↑p:Int)) (.someA C fun W=>.ne (.pointer (some (W.add (j.toNat*4)))) (.pointer (some (m.add (j.toNat*4)))) (.nds [j,.S C p q,.pp 2 5] (.li ((l.add (j.toNat*4)).add 0) fun o0=>.li ((l.add (j.toNat*4)).add 1) fun p0=>.li ((l.add (j.toNat*4)).add 2) fun q0=>.loadS ((l.add (j.toNat*4)).add 3) fun x0 r0 c0=>.ne (.agg #[o0,p0,q0,.slice x0 r0 c0]) (.agg #[z,H,R,.slice Q S J]) (.need (0<=j/\j<(↑v:Int)) (.someA F fun Y=>.ne (.pointer (some (Y.add (j.toNat*4)))) (.pointer (some (l.add (j.toNat*4)))) (.nds [j,.S F v w,.pp 3 5] (.li ((m.add (j.toNat*4)).add 0) fun s0=>.li ((m.add (j.toNat*4)).add 1) fun d1=>.li ((m.add (j.toNat*4)).add 2) fun e1=>.loadS ((m.add (j.toNat*4)).add 3) fun y0 f1 d0=>.ne (.agg #[s0,d1,e1,.slice y0 f1 d0]) (.agg #[M,N,O,.slice U K I]) (.need (0<=j/\j<(↑p:Int)) (.someA C fun Z=>.ne (.pointer (some (Z.add (j.toNat*4)))) (.pointer (some (m.add (j.toNat*4)))) (.nds [j,.S C p q,.pp 2 5] (.li ((l.add (j.toNat*4)).add 0) fun g1=>.li ((l.add (j.toNat*4)).add 1) fun i1=>.li ((l.add (j.toNat*4)).add 2) fun j1=>.loadS ((l.add (j.toNat*4)).add 3) fun z0 k1 e0=>.ne (.agg #[g1,i1,j1,.slice z0 k1 e0]) (.agg #[z,H,R,.slice Q S J]) (.need (0<=j/\j<(↑v:Int)) (.someA F fun m=>.ne (.pointer (some (m.add (j.toNat*4)))) (.pointer (some (l.add (j.toNat*4)))) (.nds [j,.S F v w,.pp 3 5] (.ag [M,N,O,.slice U K I,z,H,R,.slice Q S J]))))))))))))))))))))) (.li ((l.add (j.toNat*4)).add 0) fun t0=>.li ((l.add (j.toNat*4)).add 1) fun f0=>.li ((l.add (j.toNat*4)).add 2) fun g0=>.loadS ((l.add (j.toNat*4)).add 3) fun u0 i0 a0=>.ne (.agg #[t0,f0,g0,.slice u0 i0 a0]) (.agg #[z,H,R,.slice Q S J]) (.need (0<=j/\j<(↑v:Int)) (.someA F fun V=>.ne (.pointer (some (V.add (j.toNat*4)))) (.pointer (some (l.add (j.toNat*4)))) (.nds [j,.S F v w,.pp 3 5] (.li ((m.add (j.toNat*4)).add 0) fun j0=>.li ((m.add (j.toNat*4)).add 1) fun k0=>.li ((m.add (j.toNat*4)).add 2) fun l0=>.loadS ((m.add (j.toNat*4)).add 3) fun v0 m0 b0=>.ne (.agg #[j0,k0,l0,.slice v0 m0 b0]) (.agg #[M,N,O,.slice U K I]) (.need (0<=j/\j<(↑p:Int)) (.someA C fun W=>.ne (.pointer (some (W.add (j.toNat*4)))) (.pointer (some (m.add (j.toNat*4)))) (.nds [j,.S C p q,.pp 2 5] (.li ((l.add (j.toNat*4)).add 0) fun o0=>.li ((l.add (j.toNat*4)).add 1) fun p0=>.li ((l.add (j.toNat*4)).add 2) fun q0=>.loadS ((l.add (j.toNat*4)).add 3) fun x0 r0 c0=>.ne (.agg #[o0,p0,q0,.slice x0 r0 c0]) (.agg #[z,H,R,.slice Q S J]) (.need (0<=j/\j<(↑v:Int)) (.someA F fun Y=>.ne (.pointer (some (Y.add (j.toNat*4)))) (.pointer (some (l.add (j.toNat*4)))) (.nds [j,.S F v w,.pp 3 5] (.li ((m.add (j.toNat*4)).add 0) fun s0=>.li ((m.add (j.toNat*4)).add 1) fun d1=>.li ((m.add (j.toNat*4)).add 2) fun e1=>.loadS ((m.add (j.toNat*4)).add 3) fun y0 f1 d0=>.ne (.agg #[s0,d1,e1,.slice y0 f1 d0]) (.agg #[M,N,O,.slice U K I]) (.need (0<=j/\j<(↑p:Int)) (.someA C fun Z=>.ne (.pointer (some (Z.add (j.toNat*4)))) (.pointer (some (m.add (j.toNat*4)))) (.nds [j,.S C p q,.pp 2 5] (.li ((l.add (j.toNat*4)).add 0) fun g1=>.li ((l.add (j.toNat*4)).add 1) fun i1=>.li ((l.add (j.toNat*4)).add 2) fun j1=>.loadS ((l.add (j.toNat*4)).add 3) fun z0 k1 e0=>.ne (.agg #[g1,i1,j1,.slice z0 k1 e0]) (.agg #[z,H,R,.slice Q S J]) (.need (0<=j/\j<(↑v:Int)) (.someA F fun m=>.ne (.pointer (some (m.add (j.toNat*4)))) (.pointer (some (l.add (j.toNat*4)))) (.nds [j,.S F v w,.pp 3 5] (.ag [M,N,O,.slice U K I,z,H,R,.slice Q S J])))))))))))))))))))))))) (fun k=>.pi k fun M k=>.pi k fun N k=>.pi k fun O k=>.popS k fun m K I k=>.pi k fun z k=>.pi k fun H k=>.pi k fun R k=>.popS k fun l S J k=>.unNil k (.sem false (Sem.bind (eqGuard BinOp.neq 46 (Operand.tmp 81) (Operand.tmp 83) (.agg #[M,N]) (.agg #[z,H])) fun o1=>binOp BinOp.neq 46 (.agg #[M,N]) (.agg #[z,H])) fun m1=>.unB m1 fun c1=>bif c1 then .rn [false,j] else bif O != R then .rn [false,j] else .cB 30 #[.slice m K I,.slice l S J] fun l1=>bif !l1 then .rn [false,j] else .ag [L,.int .i64 (wrap .i64 (j+1))])) (fun k=>.pi k fun M k=>.pi k fun N k=>.pi k fun O k=>.popS k fun m K I k=>.pi k fun z k=>.pi k fun H k=>.pi k fun R k=>.popS k fun m S I k=>.unNil k (.rn [L,j])) fun a1 b1=>.fail else .bk [L,j])) (fun k=>.popB k fun L k=>.pi k fun j k=>.unNil k (.loop [L,.int .i64 0] (fun k=>.popB k fun L k=>.pi k fun j k=>.unNil k (bif decide (j<(↑r:Int)) then .blk (.need (0<=j/\j<(↑r:Int)) (.someA D fun m=>.li ((m.add (j.toNat*3)).add 0) fun M=>.li ((m.add (j.toNat*3)).add 1) fun N=>.loadS ((m.add (j.toNat*3)).add 2) fun U O I=>.need (0<=j/\j<(↑x:Int)) (.someA G fun l=>.li ((l.add (j.toNat*3)).add 0) fun K=>.li ((l.add (j.toNat*3)).add 1) fun z=>.loadS ((l.add (j.toNat*3)).add 2) fun Q H J=>.both (.li ((l.add (j.toNat*3)).add 0) fun R=>.li ((l.add (j.toNat*3)).add 1) fun S=>.loadS ((l.add (j.toNat*3)).add 2) fun u0 t0 a0=>.ne (.agg #[R,S,.slice u0 t0 a0]) (.agg #[K,z,.slice Q H J]) (.need (0<=j/\j<(↑x:Int)) (.someA G fun V=>.ne (.pointer (some (V.add (j.toNat*3)))) (.pointer (some (l.add (j.toNat*3)))) (.nds [j,.S G x y,.pp 3 6] (.li ((m.add (j.toNat*3)).add 0) fun f0=>.li ((m.add (j.toNat*3)).add 1) fun g0=>.loadS ((m.add (j.toNat*3)).add 2) fun v0 i0 b0=>.ne (.agg #[f0,g0,.slice v0 i0 b0]) (.agg #[M,N,.slice U O I]) (.need (0<=j/\j<(↑r:Int)) (.someA D fun W=>.ne (.pointer (some (W.add (j.toNat*3)))) (.pointer (some (m.add (j.toNat*3)))) (.nds [j,.S D r s,.pp 2 6] (.li ((l.add (j.toNat*3)).add 0) fun j0=>.li ((l.add (j.toNat*3)).add 1) fun k0=>.loadS ((l.add (j.toNat*3)).add 2) fun x0 l0 c0=>.ne (.agg #[j0,k0,.slice x0 l0 c0]) (.agg #[K,z,.slice Q H J]) (.need (0<=j/\j<(↑x:Int)) (.someA G fun Y=>.ne (.pointer (some (Y.add (j.toNat*3)))) (.pointer (some (l.add (j.toNat*3)))) (.nds [j,.S G x y,.pp 3 6] (.li ((m.add (j.toNat*3)).add 0) fun m0=>.li ((m.add (j.toNat*3)).add 1) fun o0=>.loadS ((m.add (j.toNat*3)).add 2) fun y0 p0 d0=>.ne (.agg #[m0,o0,.slice y0 p0 d0]) (.agg #[M,N,.slice U O I]) (.need (0<=j/\j<(↑r:Int)) (.someA D fun Z=>.ne (.pointer (some (Z.add (j.toNat*3)))) (.pointer (some (m.add (j.toNat*3)))) (.nds [j,.S D r s,.pp 2 6] (.li ((l.add (j.toNat*3)).add 0) fun q0=>.li ((l.add (j.toNat*3)).add 1) fun r0=>.loadS ((l.add (j.toNat*3)).add 2) fun z0 s0 e0=>.ne (.agg #[q0,r0,.slice z0 s0 e0]) (.agg #[K,z,.slice Q H J]) (.need (0<=j/\j<(↑x:Int)) (.someA G fun m=>.ne (.pointer (some (m.add (j.toNat*3)))) (.pointer (some (l.add (j.toNat*3)))) (.nds [j,.S G x y,.pp 3 6] (.ag [M,N,.slice U O I,K,z,.slice Q H J]))))))))))))))))))))) (.li ((l.add (j.toNat*3)).add 0) fun R=>.li ((l.add (j.toNat*3)).add 1) fun S=>.loadS ((l.add (j.toNat*3)).add 2) fun u0 t0 a0=>.ne (.agg #[R,S,.slice u0 t0 a0]) (.agg #[K,z,.slice Q H J]) (.need (0<=j/\j<(↑x:Int)) (.someA G fun V=>.ne (.pointer (some (V.add (j.toNat*3)))) (.pointer (some (l.add (j.toNat*3)))) (.nds [j,.S G x y,.pp 3 6] (.li ((m.add (j.toNat*3)).add 0) fun f0=>.li ((m.add (j.toNat*3)).add 1) fun g0=>.loadS ((m.add (j.toNat*3)).add 2) fun v0 i0 b0=>.ne (.agg #[f0,g0,.slice v0 i0 b0]) (.agg #[M,N,.slice U O I]) (.need (0<=j/\j<(↑r:Int)) (.someA D fun W=>.ne (.pointer (some (W.add (j.toNat*3)))) (.pointer (some (m.add (j.toNat*3)))) (.nds [j,.S D r s,.pp 2 6] (.li ((l.add (j.toNat*3)).add 0) fun j0=>.li ((l.add (j.toNat*3)).add 1) fun k0=>.loadS ((l.add (j.toNat*3)).add 2) fun x0 l0 c0=>.ne (.agg #[j0,k0,.slice x0 l0 c0]) (.agg #[K,z,.slice Q H J]) (.need (0<=j/\j<(↑x:Int)) (.someA G fun Y=>.ne (.pointer (some (Y.add (j.toNat*3)))) (.pointer (some (l.add (j.toNat*3)))) (.nds [j,.S G x y,.pp 3 6] (.li ((m.add (j.toNat*3)).add 0) fun m0=>.li ((m.add (j.toNat*3)).add 1) fun o0=>.loadS ((m.add (j.toNat*3)).add 2) fun y0 p0 d0=>.ne (.agg #[m0,o0,.slice y0 p0 d0]) (.agg #[M,N,.slice U O I]) (.need (0<=j/\j<(↑r:Int)) (.someA D fun Z=>.ne (.pointer (some (Z.add (j.toNat*3)))) (.pointer (some (m.add (j.toNat*3)))) (.nds [j,.S D r s,.pp 2 6] (.li ((l.add (j.toNat*3)).add 0) fun q0=>.li ((l.add (j.toNat*3)).add 1) fun r0=>.loadS ((l.add (j.toNat*3)).add 2) fun z0 s0 e0=>.ne (.agg #[q0,r0,.slice z0 s0 e0]) (.agg #[K,z,.slice Q H J]) (.need (0<=j/\j<(↑x:Int)) (.someA G fun m=>.ne (.pointer (some (m.add (j.toNat*3)))) (.pointer (some (l.add (j.toNat*3)))) (.nds [j,.S G x y,.pp 3 6] (.ag [M,N,.slice U O I,K,z,.slice Q H J])))))))))))))))))))))))) (fun k=>.pi k fun M k=>.pi k fun N k=>.popS k fun m O I k=>.pi k fun K k=>.pi k fun z k=>.popS k fun l H J k=>.unNil k (bif M != K then .rn [false,j] else bif N != z then .rn [false,j] else .cB 30 #[.slice m O I,.slice l H J] fun c1=>bif !c1 then .rn [false,j] else .ag [L,.int .i64 (wrap .i64 (j+1))])) (fun k=>.pi k fun M k=>.pi k fun N k=>.popS k fun m O I k=>.pi k fun K k=>.pi k fun z k=>.popS k fun m H I k=>.unNil k (.rn [L,j])) fun a1 b1=>.fail else .bk [L,j])) (fun k=>.popB k fun L k=>.pi k fun j k=>.unNil k (.rt (.bool true))) (fun k=>.popB k fun L k=>.pi k fun j k=>.unNil k (.rt (.bool L))) fun a1 b1=>.fail)) (fun k=>.popB k fun L k=>.pi k fun j k=>.unNil k (.rt (.bool L))) fun a1 b1=>.fail)) (fun k=>.popB k fun L k=>.unNil k (.rt (.bool L))) fun a1 b1=>.fail):=fk [2,3,6,7,9,10] [⟨0,[(4,.bool),(5,.int .i64)],[2,3],[],[],[]⟩,⟨2,[(4,.bool),(8,.int .i64)],[2,3],[],[],[]⟩] [{ id:=7,slots:=[(28672,.int .i64),(28673,.int .i64),(28674,.int .i64),(28675,.slice),(32768,.int .i64),(32769,.int .i64),(32770,.int .i64),(32771,.slice)],ro:=[2,3],outs:=[],pps:=[6,7] },{ id:=13,slots:=[(40960,.int .i64),(40961,.int .i64),(40962,.slice),(45056,.int .i64),(45057,.int .i64),(45058,.slice)],ro:=[2,3],outs:=[],pps:=[9,10] },⟨3,[(4,.bool)],[2,3],[],[],[]⟩] Tryz.f13
end Go.Y
end
section
namespace Go.TM.Tp
open Go.Lib (decDigits)
theorem lineTo_len{B:Nat}{w:Bs}:∀ {a:List Bs},(∀ f∈a,f.length<=B)->(lineTo w a).length<=w.length+1+a.length*(B+1):=by
 intro a h;have key:∀ a:List Bs,(∀ f∈a,f.length<=B)->(a.flatMap fun f=>f++[59]).length<=a.length*(B+1):=by
  intro a
  induction a with
  | nil=>intro _;simp
  | cons f a c =>
   intro h;have d:=c fun x b=>h x (List.mem_cons_of_mem _ b);have e:=h f (by simp);rw[List.flatMap_cons,List.length_append,List.length_append,List.length_cons,List.length_cons,List.length_nil,Nat.succ_mul];omega
 have:=key a h;unfold lineTo;rw[List.length_append,List.length_cons];omega
theorem Dk{B:Nat}{c:UInt8}:∀ {l:List Bs},(∀ f∈l,f.length<=B)->(joinS c l).length<=l.length*(B+1)
 | [],_=>by simp[joinS]
 | [a],h=>by have:=h a (by simp);simp[joinS];omega
 | a::b::l,h=>by
  have e:=Dk (c:=c) (l:=b::l) fun x d=>h x (List.mem_cons_of_mem _ d);have g:=h a (by simp);show (a++c::joinS c (b::l)).length<=(b::l).length.succ*(B+1);rw[List.length_append,List.length_cons,Nat.succ_mul];omega
end Go.TM.Tp
namespace Go.Y.Txt
open Go.TM.Tp
open Go.Lib (decDigits)
attribute [local irreducible] T.wp CV FWK
end Go.Y.Txt
end
namespace Go.Y
section
attribute [local irreducible] T.wp CV FWK
def indexF(x:Int):Nat->List Int->Int
 | _,[]=>-1
 | i,y::l=>if x==y then i else indexF x (i+1) l
variable {h:LH}{p:Option Addr}{n c:Nat}{l:List Int}{z:Addr}{d:Int}{fv:Value}{f:FileC}{u:UseFile}
theorem indexF_ge(x:Int):∀ (l:List Int) (i:Nat),decide (indexF x i l>=0)=l.contains x:=by
 intro l
 induction l with
 | nil=>intro i;rfl
 | cons y l a =>
  intro i;rw[indexF,List.contains_cons];split
  ·rename_i h;rw[h];simp
  ·rename_i h;have h':(x==y)=false:=by simpa using h
   rw[a,h',Bool.false_or]
theorem c106(d:Sl IntE 1 h.get p n l)(x:Int):Pu Tryz.prog 195 #[.slice p n c,x] h (.int .i64 (indexF x 0 l)):=by
 refine w106 Qn ?_;have q:=d.1;have hb:=d.2.1;refine Q1 (fun m vs h'=>h'=h/\∃ i:Nat,vs=[.int .i64 0,.int .i64 i]/\i<=n/\m=n-i/\indexF x 0 l=indexF x i (l.drop i)) ⟨rfl,0,rfl,Nat.zero_le _,rfl,rfl⟩ ?_;rintro Y m vs _ g ⟨rfl,i,rfl,o,rfl,hc⟩;refine yJ (fun e=>?_) (fun e=>?_)
 ·obtain⟨y,a,j,k,f⟩:=d.at (i:=i) (by omega);unfold IntE at f;refine gZ ?_;rw[Jo j,indexF]at hc;refine Qp (fun b=>?_) (fun b=>?_)
  ·refine gZ ?_;refine Qg ⟨?_,rfl⟩;rw[hc,if_pos b]
  ·refine Qi (g (n-(i+1)) _ _ (by omega) ⟨rfl,i+1,?_,by omega,rfl,?_⟩)
   ·rw[Qh (by omega) (by omega)];rfl
   ·rw[hc,if_neg (by simp[b])]
 ·refine gZ ?_;refine Qg ⟨?_,rfl⟩;rw[hc,List.drop_eq_nil_of_le (by omega)];rfl
theorem c100(a:Sl IntE 1 h.get p n l)(x:Int):Pu Tryz.prog 166 #[.slice p n c,x] h (.bool (l.contains x)):=by
 refine w100 Qn ?_;refine t_pu (c106 a x) ?_;refine gZ ?_;refine Qg ⟨?_,rfl⟩;rw[indexF_ge]
theorem c80(c:h.get.cell? z=some (.int .i64 d))(a b:Int):Pu Tryz.prog 132 #[.agg #[a,b],.pointer (some z)] h (.bool (isIn d a b)):=by
 refine w80 Qn ?_;refine gZ ?_;refine t_pu (c81 _ _ _) ?_;refine gZ ?_;exact Qg ⟨rfl,rfl⟩
def placeF{α:Type}(f:α->Bool):Nat->List α->Int
 | _,[]=>-1
 | i,y::l=>if f y then i else placeF f (i+1) l
theorem placeF_ge{α:Type}(f:α->Bool):∀ (l:List α) (i:Nat),decide (placeF f i l>=0)=l.any f:=by
 intro l
 induction l with
 | nil=>intro i;rfl
 | cons y l a =>
  intro i;rw[placeF,List.any_cons];split
  ·rename_i h;rw[h];simp
  ·rename_i h;have h':f y=false:=by simpa using h
   rw[a,h',Bool.false_or]
theorem c98{l:List Span}{g:Span->Bool}(j:Sl SpanE 2 h.get p n l)(s:∀ x h',h.le h'->CV X0 Tryz.prog fv #[.agg #[.int .i64 x.first,.int .i64 x.last]] h' fun r f=>h'.le f/\r=.bool (g x)) :
  Gr Tryz.prog 167 #[.slice p n c,fv] h fun r _=>r=.int .i64 (placeF g 0 l):=by
 refine w98 Qn ?_;have z:=j.1;have hb:=j.2.1;refine Q1 (fun m vs h'=>h.le h'/\∃ i:Nat,vs=[.int .i64 0,.int .i64 i]/\i<=n/\m=n-i/\placeF g 0 l=placeF g i (l.drop i)) ⟨LH.le_refl _,0,rfl,Nat.zero_le _,rfl,rfl⟩ ?_;rintro Y m vs d q ⟨hle,i,rfl,y,rfl,hc⟩;refine yJ (fun o=>?_) (fun o=>?_)
 ·obtain⟨x,a,t,w,u,v⟩:=(j.le SpanE.grow hle.1).at (i:=i) (by omega);refine gZ ?_;refine Q7 (s x d hle) ?_;rintro _ k ⟨b,rfl⟩;refine gZ ?_;rw[Jo t,placeF]at hc;refine Qp (fun e=>?_) (fun e=>?_)
  ·refine gZ ?_;refine Qg ⟨LH.le_trans hle b,?_⟩;rw[hc,if_pos e]
  ·refine Qi (q (n-(i+1)) _ _ (by omega) ⟨LH.le_trans hle b,i+1,?_,by omega,rfl,?_⟩)
   ·rw[Qh (by omega) (by omega)];rfl
   ·rw[hc,if_neg (by simp[e])]
 ·refine gZ ?_;refine Qg ⟨hle,?_⟩;rw[hc,List.drop_eq_nil_of_le (by omega)];rfl
theorem c79{l:List Span}{g:Span->Bool}(d:Sl SpanE 2 h.get p n l)(b:∀ x h',h.le h'->CV X0 Tryz.prog fv #[.agg #[.int .i64 x.first,.int .i64 x.last]] h' fun r a=>h'.le a/\r=.bool (g x)) :
  Gr Tryz.prog 131 #[.slice p n c,fv] h fun r _=>r=.bool (l.any g):=by
 refine w79 Qn ?_;refine t_gr (c98 d b) ?_;rintro _ h' hle rfl;refine gZ ?_;refine Qg ⟨hle,?_⟩;rw[placeF_ge]
def Asks(v:Value)(h:LH)(u:UseFile)(g:Int):Prop:=numbersF u=0->∀ (f:FileC) h',h.le h'->FileR h'.get f u->CV X0 Tryz.prog v #[fileV f u] h' fun r h''=>h'.le h''/\r=.int .i64 g
theorem Asks.le{v:Value}{h h':LH}{u:UseFile}{g:Int}(d:h.le h')(a:Asks v h u g):Asks v h' u g:=fun e f c b=>a e f c (LH.le_trans d b)
theorem c82(a:h.get.cell? z=some (.int .i64 d)):Pu Tryz.prog 134 #[fileV f u,.pointer (some z)] h (.int .i64 (if isDay d then 0 else 1)):=by
 refine w82 Qn ?_;refine gZ ?_;refine t_pu (c84 _) ?_;refine gZ ?_;refine t_pu (c83 _ _) ?_;refine gZ ?_;refine Qg ⟨?_,rfl⟩;unfold isDay;cases isIn d 0 2000<;>rfl
theorem c85(a:IsI (u.lands-1))(b:h.get.cell? z=some (.int .i64 d)):Pu Tryz.prog 137 #[fileV f u,.pointer (some z)] h (.int .i64 (if isIn d 0 (u.lands-1) then 0 else 6)):=by
 refine w85 Qn ?_;refine gZ ?_;refine t_pu (c86 (f:=f) a _) ?_;refine gZ ?_;refine t_pu (c83 _ _) ?_;refine gZ ?_;refine Qg ⟨?_,rfl⟩;cases isIn d 0 (u.lands-1)<;>rfl
theorem c87(a:IsI (u.items-1))(b:h.get.cell? z=some (.int .i64 d)):Pu Tryz.prog 139 #[fileV f u,.pointer (some z)] h (.int .i64 (if isIn d 0 (u.items-1) then 0 else 6)):=by
 refine w87 Qn ?_;refine gZ ?_;rw[Qh a.1 a.2];refine t_pu (c81 _ _ _) ?_;refine gZ ?_;refine t_pu (c83 _ _) ?_;refine gZ ?_;refine Qg ⟨?_,rfl⟩;cases isIn d 0 (u.items-1)<;>rfl
def dayQ(d:Int):Int:=if isDay d then 0 else 1
def landQ(u:UseFile)(d:Int):Int:=if isIn d 0 (u.lands-1) then 0 else 6
def itemQ(u:UseFile)(d:Int):Int:=if isIn d 0 (u.items-1) then 0 else 6
theorem c54(u:UseFile)(d:Int):Gr Tryz.prog 73 #[d] h fun r h'=>(∃ fn a b,r=Value.func fn a b)/\Asks r h' u (dayQ d):=by
 refine w54 Qn ?_;refine Z1 fun r hr=>?_;have c:Cells.cell? (h.get.upd r (true,.cells #[.int .i64 d] 3 (0,0))) ⟨r,0,none⟩=some (.int .i64 d):=Qu rfl;refine Qg ⟨Qr hr,⟨_,_,_,rfl⟩,fun e f h' hle _=>?_⟩;exact Za Qn (by rfl) (Uf (c82 (Qd hle.1 c)))
theorem c58(u:UseFile)(d:Int):Gr Tryz.prog 75 #[d] h fun r h'=>(∃ fn a b,r=Value.func fn a b)/\Asks r h' u (landQ u d):=by
 refine w58 Qn ?_;refine Z1 fun r hr=>?_;have e:Cells.cell? (h.get.upd r (true,.cells #[.int .i64 d] 3 (0,0))) ⟨r,0,none⟩=some (.int .i64 d):=Qu rfl;refine Qg ⟨Qr hr,⟨_,_,_,rfl⟩,fun c f h' hle _=>?_⟩;exact Za Qn (by rfl) (Uf (c85 (Dd c) (Qd hle.1 e)))
theorem c59(u:UseFile)(d:Int):Gr Tryz.prog 76 #[d] h fun r h'=>(∃ fn a b,r=Value.func fn a b)/\Asks r h' u (itemQ u d):=by
 refine w59 Qn ?_;refine Z1 fun r hr=>?_;have e:Cells.cell? (h.get.upd r (true,.cells #[.int .i64 d] 3 (0,0))) ⟨r,0,none⟩=some (.int .i64 d):=Qu rfl;refine Qg ⟨Qr hr,⟨_,_,_,rfl⟩,fun c f h' hle _=>?_⟩;exact Za Qn (by rfl) (Uf (c87 (Df c) (Qd hle.1 e)))
end
section
attribute [local irreducible] T.wp CV FWK
def De(f:FuncId)(args:Array Value)(h:LH)(d m:Nat)(fc:FileC)(u:UseFile)(V:Value->LH->Prop):Prop:=FW X0 Tryz.prog f args h fun r h'=>Mv m h h'/\Desk h'.get d m fc u/\V r h'
variable {h:LH}{f:FileC}{d m c:Nat}{u:UseFile}{es':Array MapEntry}
theorem t_de{X:XP}{Q:Leaf->LH->Prop}{f:FuncId}{args:Array Value}{b:FileC}{k:Value->T}{V:Value->LH->Prop}(c:De f args h d m b u V)(e:∀ v h',Mv m h h'->Desk h'.get d m b u->V v h'->(k v).wp X Tryz.prog Q h'):(T.call false f args k).wp X Tryz.prog Q h :=
 Ji (Hn c) fun v h' a=>e v h' a.1 a.2.1 a.2.2
theorem two119:twoInts Tryz.prog 225=true:=by kernel_rfl
theorem Yi:twoInts Tryz.prog 46=true:=by kernel_rfl
theorem Yn:Wj Tryz.prog 3=true:=by kernel_rfl
theorem Desk.updMap{h:Cells}(k:Desk h d m f u)(he:∀ e∈es'.toList,∃ day:Int,e.key=.agg #[.int .i64 day,.int .i64 u.idle]/\e.val=.agg #[.int .i64 (window u day).first,.int .i64 day]):Rd h (h.upd m (true,.map es' c))/\Desk (h.upd m (true,.map es' c)) d m f u:=by
 have hr:Rd h (h.upd m (true,.map es' c)):=by
  intro a v hc;have b:a.block≠m:=by
   intro e;obtain⟨es,c,hm⟩:=k.isMap;unfold Cells.cell? at hc;rw[e,hm]at hc;cases hc
  unfold Cells.cell? at hc ⊢;rw[Qm _ _ b];exact hc
 exact⟨hr,k.file.rd hr,k.rep.rd hr,fun j g=>hr _ _ (k.counts j g),hr _ _ k.mapp,_,_,Qk _ _ _,he⟩
theorem Mv.updMap:Mv m h { h with get:=h.get.upd m (true,.map es' c) } :=
 ⟨fun r x hr a=>by show Cells.upd _ _ _ r=_;rw[Qm _ _ hr];exact a,fun _ _ _=>⟨es',c,Qk _ _ _⟩,rfl,rfl,rfl⟩
theorem c55(k:Desk h.get d m f u)(H:1<=u.idle/\u.idle<=2000)(day:Int)(N:0<=day/\day<=2000) :
  De 74 #[.pointer (some ⟨d,0,none⟩),.int .i64 day] h d m f u fun r _=>r=.agg #[.int .i64 (window u day).first,day]:=by
 refine w55 Qn ?_;obtain⟨f0,f1,f2,f3,f4,f5,f6⟩:=k.file;have I:=k.mapp;obtain⟨es,c,hm,j⟩:=k.map;have g:∀ e∈es.toList,IsKey Tryz.prog 225 e.key:=fun e he=>by obtain⟨A,b,_⟩:=j e he;exact .inr ⟨two119,A,u.idle,b⟩
 have a:IsKey Tryz.prog 225 (.agg #[day,.int .i64 u.idle]):=.inr ⟨two119,_,_,rfl⟩;have found:∀ e∈es.toList,e.key=.agg #[day,.int .i64 u.idle]->e.val=.agg #[.int .i64 (window u day).first,day]:=by
  intro e he i;obtain⟨A,b,t⟩:=j e he;rw[i]at b;simp only[Value.agg.injEq,Array.mk.injEq,List.cons.injEq,Value.int.injEq,and_true,true_and]at b;rw[t,b]
 refine gZ ?_;refine Jd (fun vs h'=>vs=[.int .i64 0,.int .i64 0]/\h=h') ?_ ?_
 ·refine gZ ?_;refine Zt ?_ ?_
  ·refine D0 Uz Ux ⟨c,hm⟩ a g (fun e he i=>?_) fun z=>?_
   ·rw[found e he i];simp only[if_true];refine yT ?_;refine gZ ?_;exact Qg ⟨Mv.refl,k,rfl⟩
   ·simp only[if_true];refine yF ?_;exact Qi ⟨rfl,rfl⟩
  ·refine gZ ?_;refine D0 Uz Ux ⟨c,hm⟩ a g (fun e he i=>?_) fun z=>?_
   ·rw[found e he i];simp only[if_true];refine yT ?_;refine gZ ?_;exact Qg ⟨Mv.refl,k,rfl⟩
   ·simp only[if_true];refine yF ?_;exact Qi ⟨rfl,rfl⟩
 ·rintro vs _ ⟨rfl,rfl⟩;refine gZ ?_;refine Q1 (fun C vs h'=>h=h'/\∃ (x:Nat) (n:Int),vs=[.int .i64 (u.idle-n),.int .i64 x,.int .i64 day]/\x<=2000/\0<=n/\n<u.idle/\x=C/\firstDay (counts u) u.idle day.toNat 0=firstDay (counts u) u.idle x n)
   ⟨rfl,day.toNat,0,by simp;omega,by omega,by omega,by omega,rfl,rfl⟩ ?_
  rintro Y C vs _ B ⟨rfl,x,n,rfl,O,J,L,rfl,hc⟩;have fin:∀ (w:Int),w=(window u day).first->∀ {K:Value->T} {Q:Leaf->LH->Prop},(∀ h',Mv m h h'->Desk h'.get d m f u->(K undef).wp X0 Tryz.prog Q h')->(T.sem false (Sem.bind (Instr.mapUpdate 217 (.map (some m)) (.agg #[day,.int .i64 u.idle]) (.agg #[.int .i64 w,day])) fun _=>pure (.tuple #[])) K).wp X0 Tryz.prog Q h:=by
   intro w hw K Q G;refine t_mapUpdate Uz ⟨c,hm⟩ a g fun es' M b _ _=>G _ Mv.updMap (Desk.updMap k fun e he=>?_).2;rcases b e he with⟨b,t⟩|b
   ·exact⟨day,b,by rw[t,hw]⟩
   ·exact j e b
  refine yJ (fun E=>?_) (fun E=>?_)
  ·have v:h.get.cell? ((Addr.add ⟨d,0,none⟩ 7).add ((x:Int).toNat*1))=some (.bool (counts u x)):=by
    have F:0+7+(x:Int).toNat*1=7+x:=by omega
    rw[Ql,Ql,F];exact k.counts x (by omega)
   obtain⟨y,rfl⟩ : ∃ y,x=y+1:=⟨x-1,by omega⟩
   refine gZ ?_;rw[firstDay]at hc;refine Qp (fun s=>?_) (fun s=>?_)
   ·have l:(if counts u ((y+1:Nat):Int)=true then n+1 else n)=n+1:=if_pos s;simp only[l]at hc;rw[Qh (by omega) (by omega)];refine Qp (fun o=>?_) (fun o=>?_)
    ·refine gZ ?_;have p:u.idle-n-1=0:=by simpa using o
     rw[if_pos (by omega)]at hc;refine fin _ (by rw[window];exact hc.symm) fun h' hv i=>?_;exact Qg ⟨hv,i,by rw[window,hc]⟩
    ·have p:u.idle-n-1≠0:=by simpa using o
     rw[if_neg (by omega)]at hc;refine Qi (B y _ _ (by omega) ⟨rfl,y,n+1,?_,by omega,by omega,by omega,rfl,hc⟩);have D:u.idle-n-1=u.idle-(n+1):=by omega
     have q:((y+1:Nat):Int)-1=(y:Int):=by omega
     rw[Qh (by omega) (by omega),D,q]
   ·have l:(if counts u ((y+1:Nat):Int)=true then n+1 else n)=n:=if_neg (by rw[s];simp);simp only[l]at hc;refine Qp (fun o=>?_) (fun o=>?_)
    ·exfalso;have p:u.idle-n=0:=by simpa using o
     omega
    ·rw[if_neg (by omega)]at hc;refine Qi (B y _ _ (by omega) ⟨rfl,y,n,?_,by omega,by omega,by omega,rfl,hc⟩);have q:((y+1:Nat):Int)-1=(y:Int):=by omega
     rw[Qh (by omega) (by omega),q]
  ·refine gZ ?_;obtain rfl:x=0:=by omega
   rw[firstDay]at hc;refine fin _ (by rw[window];exact hc.symm) fun h' hv i=>?_;exact Qg ⟨hv,i,by rw[window,hc];rfl⟩
end
section
attribute [local irreducible] T.wp CV FWK
def AskSl(h:LH)(p:Option Addr)(n:Nat)(u:UseFile)(l:List Int):Prop :=
 n=l.length/\l.length<4611686018427387904/\∀ i g,l[i]?=some g->∃ a v,p=some a/\h.get.cell? (a.add (i*1))=some v/\Asks v h u g
def deskOf(f:FileC)(u:UseFile)(m:Nat):Array Value:=match buildV Tryz.prog 220 [(0,fileV f u),(2,.map (some m))] with
 | some (.agg cs)=>cs
 | _=>#[]
variable {h:Cells}{r i:Nat}{m:Bool}{cs:Array Value}{el:TypeId}
theorem deskOf_build(f:FileC)(u:UseFile)(m:Nat):buildV Tryz.prog 220 [(0,fileV f u),(2,.map (some m))]=some (.agg (deskOf f u m)):=by kernel_rfl
theorem deskOf_size(f:FileC)(u:UseFile)(m:Nat):(deskOf f u m).size=2009:=by kernel_rfl
theorem deskOf_0(f:FileC)(u:UseFile)(m:Nat):(deskOf f u m)[0]?=some (.int .i64 u.items):=by kernel_rfl
theorem deskOf_1(f:FileC)(u:UseFile)(m:Nat):(deskOf f u m)[1]?=some (.int .i64 u.lands):=by kernel_rfl
theorem deskOf_2(f:FileC)(u:UseFile)(m:Nat):(deskOf f u m)[2]?=some (.int .i64 u.from_):=by kernel_rfl
theorem deskOf_3(f:FileC)(u:UseFile)(m:Nat):(deskOf f u m)[3]?=some (.int .i64 u.idle):=by kernel_rfl
theorem deskOf_4(f:FileC)(u:UseFile)(m:Nat):(deskOf f u m)[4]?=some (.slice f.p4 f.n4 f.c4):=by kernel_rfl
theorem deskOf_5(f:FileC)(u:UseFile)(m:Nat):(deskOf f u m)[5]?=some (.slice f.p5 f.n5 f.c5):=by kernel_rfl
theorem deskOf_6(f:FileC)(u:UseFile)(m:Nat):(deskOf f u m)[6]?=some (.slice f.p6 f.n6 f.c6):=by kernel_rfl
theorem deskOf_m(f:FileC)(u:UseFile)(m:Nat):(deskOf f u m)[2008]?=some (.map (some m)):=by kernel_rfl
attribute [irreducible] deskOf
def openF(u:UseFile)(l:List Int):Int:=if checkF u≠0 then checkF u else firstF (fun _ x=>x) 0 l
def Opened(h h':LH)(f:FileC)(u:UseFile)(g:Int)(r:Value):Prop :=
 h.le h'/\((g≠0/\r=.tuple #[.pointer none,.int .i64 g])\/(g=0/\∃ d m,r=.tuple #[.pointer (some ⟨d,0,none⟩),.int .i64 0]/\h.get d=none/\h.get m=none/\Desk h'.get d m f u))
theorem setCell_upd{v:Value}(hr:h r=some (m,.cells cs el (0,0))):h.setCell ⟨r,i,none⟩ v=h.upd r (m,.cells (cs.setIfInBounds i v) el (0,0)):=by
 funext b;unfold Cells.setCell Cells.upd;by_cases e:b=r
 ·subst e;simp[hr]
 ·simp[e]
theorem frozen_plain(hr:h r=some (m,.cells cs el (0,0))):h.frozen? ⟨r,i,none⟩=false:=by
 simp[Cells.frozen?,hr]
theorem c53{h:LH}{f:FileC}{u:UseFile}{p:Option Addr}{n c:Nat}{l:List Int}(hp:Parts h.get)(hu:FileR h.get f u)(hw:AskSl h p n u l) :
  FW X0 Tryz.prog 72 #[fileV f u,.slice p n c] h fun r h'=>Opened h h' f u (openF u l) r:=by
 refine w53 Qn ?_;refine t_gr (c26 hp hu) ?_;rintro _ q0 R rfl;refine yI (fun W=>?_) (fun W=>?_)
 ·have w:checkF u≠0:=by simpa using W
  refine Qg ⟨R,.inl ⟨?_,?_⟩⟩
  ·rw[openF,if_pos w];exact w
  ·rw[openF,if_pos w]
 have w:checkF u=0:=by simpa using W
 have k0:=Ke w;have ho:openF u l=firstF (fun _ x=>x) 0 l:=by rw[openF,if_neg (by simp[w])]
 have hn:=hw.1;have hb:=hw.2.1;refine Q1 (fun V vs h'=>h.le h'/\∃ i:Nat,vs=[.pointer none,.int .i64 0,.int .i64 i]/\i<=n/\V=n-i/\openF u l=firstF (fun _ x=>x) i (l.drop i)) ⟨R,0,rfl,Nat.zero_le _,rfl,ho⟩ ?_;rintro Y V vs z hY ⟨hle,i,rfl,U,rfl,hc⟩;refine yJ (fun e1=>?_) (fun e1=>?_)
 ·obtain⟨g,hg⟩ : ∃ g,l[i]?=some g:=⟨l[i]'(by omega),List.getElem?_eq_getElem (by omega)⟩
  obtain⟨a,v,ha,hv,N⟩:=hw.2.2 i g hg;have m0:=Qd hle.1 hv;refine gT (by omega) (gS2 ha (Jq m0 ?_));refine Q7 (N k0 f z hle (hu.le hle.1)) ?_;rintro _ s0 ⟨S,rfl⟩;refine gZ ?_;rw[Jo hg,firstF]at hc;refine Qp (fun X=>?_) (fun X=>?_)
  ·have B:g≠0:=by simpa using X
   refine gZ ?_;rw[if_pos B]at hc;exact Qg ⟨LH.le_trans hle S,.inl ⟨by rw[hc];exact B,by rw[hc]⟩⟩
  ·have B:g=0:=by simpa using X
   rw[if_neg (by simp[B])]at hc;refine Qi (hY (n-(i+1)) _ _ (by omega) ⟨LH.le_trans hle S,i+1,?_,by omega,rfl,hc⟩);rw[Qh (by omega) (by omega)];rfl
 ·refine gZ ?_;rw[List.drop_eq_nil_of_le (by omega),firstF]at hc;refine H9 fun m hm=>?_;refine gZ ?_;have M:z.le _:=Qr (x:=(true,.map #[] 0)) hm;refine t_struct (deskOf_build f u m) ?_;refine Z1 fun d J=>?_;have n0:LH.le _ _:=Qr (x:=(true,.cells (deskOf f u m) 220 (0,0))) J;have O:d≠m:=by
   rintro rfl;change Cells.upd _ _ _ d=none at J;rw[Qk]at J;cases J
  have c0:h.get d=none:=by
   cases hx:h.get d with
   | none=>rfl
   | some x=>rw[(LH.le_trans hle M).1 _ _ hx]at J;cases J
  have j0:h.get m=none:=by
   cases hx:h.get m with
   | none=>rfl
   | some x=>rw[hle.1 _ _ hx]at hm;cases hm
  refine Q1 (fun V vs h'=>∃ (i:Nat) (cs:Array Value),vs=[.int .i64 i]/\i<=2001/\V=2001-i/\z.le h'/\h'.get m=some (true,.map #[] 0)/\h'.get d=some (true,.cells cs 220 (0,0))/\cs.size=2009/\(∀ j,j<7\/j=2008->cs[j]?=(deskOf f u m)[j]?)/\∀ j:Nat,j<i->cs[7+j]?=some (.bool (counts u j)))
   (n:=2001) ⟨0,deskOf f u m,rfl,by omega,by omega,LH.le_trans M n0,?_,Qk _ _ _,deskOf_size _ _ _,fun _ _=>rfl,fun j hj=>by omega⟩ ?_
  ·show Cells.upd _ _ _ m=_;rw[Qm _ _ (Ne.symm O)];exact Qk _ _ _
  rintro Y2 x0 y0 k Z ⟨j,cs,rfl,hj,rfl,F,K,D,l0,q,I⟩;refine yJ (fun e5=>?_) (fun e5=>?_)
  ·refine Z1 fun t y=>?_;have o0:t≠d:=by rintro rfl;rw[D]at y;cases y
   have p0:t≠m:=by rintro rfl;rw[K]at y;cases y
   have w0:k.le _:=Qr (x:=(true,.cells #[.int .i64 0] 3 (0,0))) y;have A:(k.get.upd t (true,.cells #[.int .i64 0] 3 (0,0))) t=some (true,.cells #[.int .i64 0] 3 (0,0)):=Qk _ _ _;refine Hp rfl ⟨_,A⟩ (v₀:=.int .i64 0) (by show Cells.cell? _ _=_;exact Qu rfl) (frozen_plain (i:=0) A) ?_;have P:(k.get.upd t (true,.cells #[.int .i64 0] 3 (0,0))).setCell ⟨t,0,none⟩ (.int .i64 j)=k.get.upd t (true,.cells #[.int .i64 j] 3 (0,0)):=by
    rw[setCell_upd A];funext b;unfold Cells.upd;by_cases e:b=t<;>simp[e]
   have L:(k.get.upd t (true,.cells #[.int .i64 0] 3 (0,0))).setCell (Addr.add ⟨t,0,none⟩ 0) (.int .i64 j)=k.get.upd t (true,.cells #[.int .i64 j] 3 (0,0)):=P;simp only[L];have G:k.le { k with get:=k.get.upd t (true,.cells #[.int .i64 j] 3 (0,0)) }:=Qr y;have hz:Cells.cell? (k.get.upd t (true,.cells #[.int .i64 j] 3 (0,0))) ⟨t,0,none⟩=some (.int .i64 j):=Qu rfl;refine gL0 hz ?_;refine gS2 rfl ?_;refine t_gr (c79 (g:=fun x=>isIn j x.first x.last) (hu.le (LH.le_trans (LH.le_trans hle F) G).1).excuses fun x h' g0=>Za Qn (by rfl) (Uf (c80 (Qd g0.1 hz) _ _))) ?_;rintro _ Q H rfl;have u0:=Qd H.1 hz;have E:=(LH.le_trans G H).1 _ _ D;refine gZ ?_;have b0:Q.get.cell? ⟨d,7+j,none⟩=some (cs[7+j]'(by omega)):=by
    simp only[Cells.cell?,E];simp[show 7+j<cs.size by omega]
   have C:Addr.add (Addr.add (Addr.add ⟨d,0,none⟩ 7) ((j:Int).toNat*1)) 0=⟨d,7+j,none⟩:=by
    have h7:0+7+(j:Int).toNat*1+0=7+j:=by omega
    rw[Ql,Ql,Ql,h7]
   refine Hp rfl ?_ (v₀:=cs[7+j]'(by omega)) ?_ ?_ ?_
   ·rw[C];exact⟨_,E⟩
   ·rw[C];exact b0
   ·rw[C];exact frozen_plain E
   rw[C,setCell_upd E];refine gZ ?_;refine Qi (Z (2001-(j+1)) _ _ (by omega) ⟨j+1,_,?_,by omega,rfl,?_,?_,Qk _ _ _,by rw[Array.size_setIfInBounds];exact l0,?_,?_⟩)
   ·rw[Qh (by omega) (by omega)];rfl
   ·have:=LH.le_trans (LH.le_trans F G) H;refine⟨fun b x hb=>?_,this.2⟩;have a0:b≠d:=by
     rintro rfl;rw[M.1 _ _ hb]at J;cases J
    show Cells.upd _ _ _ b=_;rw[Qm _ _ a0];exact this.1 _ _ hb
   ·show Cells.upd _ _ _ m=_;rw[Qm _ _ (Ne.symm O)];exact(LH.le_trans G H).1 _ _ K
   ·intro i U;rw[Array.getElem?_setIfInBounds_ne (by omega)];exact q i U
   ·intro i U;by_cases e:i=j
    ·subst e;rw[Array.getElem?_setIfInBounds_self,if_pos (by omega)];congr 2;simp only[counts,List.not_any_eq_all_not]
    ·rw[Array.getElem?_setIfInBounds_ne (by omega)];exact I i (by omega)
  ·refine gZ ?_;have o:∀ i v,cs[i]?=some v->k.get.cell? (Addr.add ⟨d,0,none⟩ i)=some v:=by
    intro i v hv;rw[Ql,Nat.zero_add];simp only[Cells.cell?,D];simpa using hv
   have s:∀ i v,cs[i]?=some v->k.get.cell? ⟨d,i,none⟩=some v:=by
    intro i v hv;simp only[Cells.cell?,D];simpa using hv
   refine Qg ⟨LH.le_trans hle F,.inr ⟨hc,d,m,rfl,c0,j0,?_,hu.le (LH.le_trans hle F).1,?_,?_,?_⟩⟩
   ·exact⟨o _ _ ((q 0 (by omega)).trans (deskOf_0 _ _ _)),o _ _ ((q 1 (by omega)).trans (deskOf_1 _ _ _)),o _ _ ((q 2 (by omega)).trans (deskOf_2 _ _ _)),o _ _ ((q 3 (by omega)).trans (deskOf_3 _ _ _)),
     o _ _ ((q 4 (by omega)).trans (deskOf_4 _ _ _)),o _ _ ((q 5 (by omega)).trans (deskOf_5 _ _ _)),o _ _ ((q 6 (by omega)).trans (deskOf_6 _ _ _))⟩
   ·intro i U;exact s _ _ (I i (by omega))
   ·exact s _ _ ((q 2008 (.inr rfl)).trans (deskOf_m _ _ _))
   ·exact⟨_,_,K,fun e he=>by simp at he⟩
end
section
attribute [local irreducible] T.wp CV FWK
variable {h:LH}{X:XP}{Q:Leaf->LH->Prop}{k:Value->T}{u:UseFile}{v0 v1:Value}{g0 g1:Int}{l:List Int}
theorem Mv.le_of{m:Nat}{a h':LH}(hle:h.le a)(hm:h.get m=none)(mv:Mv m a h'):h.le h':=by
 refine⟨fun r x hr=>mv.keep r x ?_ (hle.1 r x hr),mv.same.1.trans hle.2.1,mv.same.2.1.trans hle.2.2.1,mv.same.2.2.trans hle.2.2.2⟩;rintro rfl;rw[hm]at hr;cases hr
theorem asks1(n:∃ fn a b,v0=Value.func fn a b)(l:Asks v0 h u g0)(m:∀ r h',h.le h'->AskSl h' (some ⟨r,0,none⟩) 1 u [g0]->(k (.slice (some ⟨r,0,none⟩) 1 1)).wp X Tryz.prog Q h'):(T.sem false (Instr.buildSlice 216 1 #[(0,v0)]) k).wp X Tryz.prog Q h:=by
 obtain⟨c,f,j,rfl⟩:=n;refine Zi U0 Yd (by decide) (by decide) (cells:=#[.func c f j]) (by kernel_rfl) fun r hr=>?_;have e:h.le _:=Qr (x:=(true,.cells #[.func c f j] 149 (0,0))) hr;refine m r _ e ⟨rfl,by show 1<_;omega,?_⟩;intro i g d;have hc:∀ i v,(#[.func c f j]:Array Value)[i]?=some v->Cells.cell? (h.get.upd r (true,.cells #[.func c f j] 149 (0,0))) (Addr.add ⟨r,0,none⟩ (i*1))=some v:=by
  intro i v hv;rw[Ql,Nat.zero_add,Nat.mul_one];exact Qu hv
 match i,d with
 | 0,d=>simp at d;subst d;exact⟨_,_,rfl,hc 0 _ rfl,l.le e⟩
 | i+1,d=>simp at d
theorem Yg(s:∃ fn a b,v0=Value.func fn a b)(o:Asks v0 h u g0)(t:∃ fn a b,v1=Value.func fn a b)(p:Asks v1 h u g1)(q:∀ r h',h.le h'->AskSl h' (some ⟨r,0,none⟩) 2 u [g0,g1]->(k (.slice (some ⟨r,0,none⟩) 2 2)).wp X Tryz.prog Q h'):(T.sem false (Instr.buildSlice 216 2 #[(0,v0),(1,v1)]) k).wp X Tryz.prog Q h:=by
 obtain⟨c,j,m,rfl⟩:=s;obtain⟨d,l,n,rfl⟩:=t;refine Zi U0 Yd (by decide) (by decide) (cells:=#[.func c j m,.func d l n]) (by kernel_rfl) fun r hr=>?_;have f:h.le _:=Qr (x:=(true,.cells #[.func c j m,.func d l n] 149 (0,0))) hr;refine q r _ f ⟨rfl,by show 2<_;omega,?_⟩;intro i g e;have hc:∀ i v,(#[.func c j m,.func d l n]:Array Value)[i]?=some v->Cells.cell? (h.get.upd r (true,.cells #[.func c j m,.func d l n] 149 (0,0))) (Addr.add ⟨r,0,none⟩ (i*1))=some v:=by
  intro i v hv;rw[Ql,Nat.zero_add,Nat.mul_one];exact Qu hv
 match i,e with
 | 0,e=>simp at e;subst e;exact⟨_,_,rfl,hc 0 _ rfl,o.le f⟩
 | 1,e=>simp at e;subst e;exact⟨_,_,rfl,hc 1 _ rfl,p.le f⟩
 | i+2,e=>simp at e
theorem asks3{v2:Value}{s:Int}(A:∃ fn a b,v0=Value.func fn a b)(t:Asks v0 h u g0)(B:∃ fn a b,v1=Value.func fn a b)(w:Asks v1 h u g1)(C:∃ fn a b,v2=Value.func fn a b)(y:Asks v2 h u s)(z:∀ r h',h.le h'->AskSl h' (some ⟨r,0,none⟩) 3 u [g0,g1,s]->(k (.slice (some ⟨r,0,none⟩) 3 3)).wp X Tryz.prog Q h'):(T.sem false (Instr.buildSlice 216 3 #[(0,v0),(1,v1),(2,v2)]) k).wp X Tryz.prog Q h:=by
 obtain⟨d,l,o,rfl⟩:=A;obtain⟨e,m,p,rfl⟩:=B;obtain⟨f,n,q,rfl⟩:=C;refine Zi U0 Yd (by decide) (by decide) (cells:=#[.func d l o,.func e m p,.func f n q]) (by kernel_rfl) fun r hr=>?_;have j:h.le _:=Qr (x:=(true,.cells #[.func d l o,.func e m p,.func f n q] 149 (0,0))) hr;refine z r _ j ⟨rfl,by show 3<_;omega,?_⟩;intro i g c;have hc:∀ i v,(#[.func d l o,.func e m p,.func f n q]:Array Value)[i]?=some v->Cells.cell? (h.get.upd r (true,.cells #[.func d l o,.func e m p,.func f n q] 149 (0,0))) (Addr.add ⟨r,0,none⟩ (i*1))=some v:=by
  intro i v hv;rw[Ql,Nat.zero_add,Nat.mul_one];exact Qu hv
 match i,c with
 | 0,c=>simp at c;subst c;exact⟨_,_,rfl,hc 0 _ rfl,t.le j⟩
 | 1,c=>simp at c;subst c;exact⟨_,_,rfl,hc 1 _ rfl,w.le j⟩
 | 2,c=>simp at c;subst c;exact⟨_,_,rfl,hc 2 _ rfl,y.le j⟩
 | i+3,c=>simp at c
theorem J4(h:openF u l=0):numbersF u=0/\checkF u=0:=by
 unfold openF at h;split at h
 ·rename_i a;exact absurd h a
 ·rename_i a;have:checkF u=0:=by simpa using a
  exact⟨Ke this,this⟩
theorem firstF_zero:∀ {i:Nat},firstF (fun _ x=>x) i l=0->∀ x∈l,x=0:=by
 induction l with
 | nil=>intro i _ x a;simp at a
 | cons y l d =>
  intro i h x a;unfold firstF at h;split at h
  ·rename_i b;exact absurd h b
  ·rename_i b;have c:y=0:=by simpa using b
   rcases List.mem_cons.1 a with rfl|a
   ·exact c
   ·exact d h x a
theorem Db(h:openF u l=0):∀ x∈l,x=0:=by
 have h0:=(J4 h).2;unfold openF at h;rw[if_neg (by simp[h0])]at h;exact firstF_zero h
theorem dayQ_zero{d:Int}(h:dayQ d=0):0<=d/\d<=2000:=by
 unfold dayQ at h;split at h
 ·rename_i a;simpa[isDay,isIn] using a
 ·cases h
def windowR(u:UseFile)(day:Int):Value:=if openF u [dayQ day]≠0 then .tuple #[.agg #[.int .i64 0,.int .i64 0],.int .i64 (openF u [dayQ day])] else .tuple #[.agg #[.int .i64 (window u day).first,.int .i64 day],.int .i64 0]
theorem c17{f:FileC}(s:Parts h.get)(hu:FileR h.get f u)(day:Int):Gr Tryz.prog 22 #[fileV f u,day] h fun r _=>r=windowR u day:=by
 refine w17 Qn ?_;refine t_gr (c54 u day) ?_;rintro v l i ⟨q,a⟩;refine gZ ?_;refine asks1 q a fun r n j w=>?_;refine gZ ?_;have b:=LH.le_trans i j;refine Ji (c53 (f:=f) (s.le b.1) (hu.le b.1) w) ?_;rintro v o ⟨g,⟨c,rfl⟩|⟨h0,d,m,rfl,x,hm,k⟩⟩
 ·refine gZ ?_;refine Qp (fun _=>?_) (fun e=>absurd (by simpa using e) c);refine Qg ⟨LH.le_trans b g,?_⟩;show _=windowR u day;rw[windowR,if_pos c]
 ·refine yF ?_;have t:=dayQ_zero (Db h0 _ (by simp;rfl));refine t_de (c55 k (Z3 (J4 h0).1).2.2.2 day t) ?_;rintro _ p mv y rfl;refine gZ ?_;refine Qg ⟨LH.le_trans b (Mv.le_of g hm mv),?_⟩;show _=windowR u day;rw[windowR,if_neg (by simpa using h0)]
end
section
attribute [local irreducible] T.wp CV FWK
theorem c88{h:LH}(p:Option Addr)(land item:Int):Gr Tryz.prog 140 #[.pointer p,land,item] h fun r h'=>∃ g i j,r=.func (.func 168) #[] #[.pointer (some g),.pointer (some i),.pointer (some j)] /\
  h'.get.cell? g=some (.pointer p)/\h'.get.cell? i=some (.int .i64 land)/\h'.get.cell? j=some (.int .i64 item):=by
 refine w88 Qn ?_;refine Z1 fun r hr=>?_;refine Z1 fun d a=>?_;refine Z1 fun f b=>?_;have l:h.le _:=Qr (x:=(true,.cells #[.pointer p] 146 (0,0))) hr;have e:=Qr (x:=(true,.cells #[.int .i64 land] 3 (0,0))) a;have c:=Qr (x:=(true,.cells #[.int .i64 item] 3 (0,0))) b;have k:Cells.cell? (h.get.upd r (true,.cells #[.pointer p] 146 (0,0))) ⟨r,0,none⟩=some (.pointer p):=Qu rfl;have c2:Cells.cell? ((h.get.upd r (true,.cells #[.pointer p] 146 (0,0))).upd d (true,.cells #[.int .i64 land] 3 (0,0))) ⟨d,0,none⟩=some (.int .i64 land):=Qu rfl;have c3:Cells.cell? (((h.get.upd r (true,.cells #[.pointer p] 146 (0,0))).upd d (true,.cells #[.int .i64 land] 3 (0,0))).upd f (true,.cells #[.int .i64 item] 3 (0,0))) ⟨f,0,none⟩=some (.int .i64 item):=Qu rfl;exact Qg ⟨LH.le_trans (LH.le_trans l e) c,_,_,_,rfl,Qd c.1 (Qd e.1 k),Qd c.1 c2,c3⟩
def handed(V:Nat->Value)(s:Paper->Bool):List Paper->Nat->List (List Value)
 | [],_=>[]
 | x::l,i=>if s x then [V i]::handed V s l (i+1) else handed V s l (i+1)
theorem handed_len(V:Nat->Value)(s:Paper->Bool):∀ (l:List Paper) (i:Nat),(handed V s l i).length=(l.filter s).length:=by
 intro l
 induction l with
 | nil=>intro i;rfl
 | cons x l a=>intro i;rw[handed,List.filter_cons];split<;>simp[a]
theorem handed_get(V:Nat->Value)(s:Paper->Bool):∀ (l:List Paper) (i k:Nat) xs,(handed V s l i)[k]?=some xs->∃ x j,(l.filter s)[k]?=some x/\l[j]?=some x/\xs=[V (i+j)]:=by
 intro l
 induction l with
 | nil=>intro i k xs h;simp[handed]at h
 | cons x l e =>
  intro i k xs h;rw[handed]at h;rw[List.filter_cons];split at h
  ·rename_i d;rw[if_pos d];cases k with
   | zero=>simp at h;exact⟨x,0,rfl,rfl,by simp[<- h]⟩
   | succ k =>
    obtain⟨y,j,a,b,c⟩:=e (i+1) k xs (by simpa using h);exact⟨y,j+1,by simpa using a,by simpa using b,by rw[c,show i+1+j=i+(j+1) by omega]⟩
  ·rename_i d;rw[if_neg d];obtain⟨y,j,a,b,c⟩:=e (i+1) k xs h;exact⟨y,j+1,a,by simpa using b,by rw[c,show i+1+j=i+(j+1) by omega]⟩
theorem hands99{X:XP}(hX:XOK X){h₀:LH}{d:Nat}{P Q S:Addr}{land item:Int}{p:Option Addr}{n c:Nat}{ps:List Paper}(M:h₀.get.cell? P=some (.pointer (some ⟨d,0,none⟩)))(N:h₀.get.cell? Q=some (.int .i64 land))(O:h₀.get.cell? S=some (.int .i64 item))
 (h5:h₀.get.cell? (Addr.add ⟨d,0,none⟩ 5)=some (.slice p n c))(I:Sl PaperE 4 h₀.get p n ps) :
  ∃ L,L.length=(ps.filter (showsB land item)).length/\(∀ (i:Nat) xs,L[i]?=some xs->∃ x q m c,(ps.filter (showsB land item))[i]?=some x/\xs=[paperV x q m c]/\Sl IntE 1 h₀.get q m x.items) /\
   Hands X Tryz.prog (.func (.func 168) #[] #[.pointer (some P),.pointer (some Q),.pointer (some S)]) h₀ L:=by
 let R:Nat->Value->Prop:=fun i v=>∃ x a q m c,ps[i]?=some x/\p=some a/\v=paperV x q m c/\h₀.get.cell? ((a.add (i*4)).add 0)=some (.int .i64 x.days.first)/\h₀.get.cell? ((a.add (i*4)).add 1)=some (.int .i64 x.days.last)/\h₀.get.cell? ((a.add (i*4)).add 2)=some (.int .i64 x.land)/\h₀.get.cell? ((a.add (i*4)).add 3)=some (.slice q m c)/\Sl IntE 1 h₀.get q m x.items;have hR:∀ i x,ps[i]?=some x->∃ v,R i v:=by
  intro i x r;obtain⟨a,ha,B,u,w,q,m,k,e4,e5⟩:=I.2.2 i x r;exact⟨_,x,a,q,m,k,r,ha,rfl,B,u,w,e4,e5⟩
 let V:Nat->Value:=fun i=>Classical.epsilon (R i);have Z:∀ i x,ps[i]?=some x->R i (V i):=fun i x r=>Classical.epsilon_spec (hR i x r);refine⟨handed V (showsB land item) ps 0,handed_len _ _ _ _,?_,?_⟩
 ·intro i xs hi;obtain⟨x,j,h1,U,W⟩:=handed_get _ _ _ _ _ _ hi;rw[Nat.zero_add]at W;obtain⟨x',a,q,m,k,g1,_,g3,_,_,_,_,g8⟩:=Z j x U;rw[U]at g1;cases g1;exact⟨x,q,m,k,h1,by rw[W,g3],g8⟩
 ·intro y J E _ _ g h hle hJ;generalize hL:handed V (showsB land item) ps 0=L at g ⊢;refine Za hX (by rfl) (?_:FW X Tryz.prog 168 #[y,.pointer (some P),.pointer (some Q),.pointer (some S)] h _);refine w99 hX ?_;have hn:=I.1;have hb:=I.2.1;have y0:=Qd hle.1 M;have y5:=Qd hle.1 h5;refine gL3 y0 ?_;refine gS2 rfl ?_;refine gL1 y5 ?_;refine Q1 (fun mm vs h'=>h₀.le h'/\∃ (j cnt:Nat),vs=[.int .i64 j]/\j<=n/\mm=n-j/\J cnt h'/\cnt<=L.length/\L.drop cnt=handed V (showsB land item) (ps.drop j) j) (n:=n) ⟨hle,0,0,rfl,Nat.zero_le _,by omega,hJ,Nat.zero_le _,by rw[<- hL];rfl⟩ ?_;rintro Y mm vs s hY ⟨f,j,cnt,rfl,hj,rfl,t,F,e⟩;refine yJ (fun B=>?_) (fun B=>?_)
  ·obtain⟨x,r⟩ : ∃ x,ps[j]?=some x:=⟨ps[j]'(by omega),List.getElem?_eq_getElem (by omega)⟩
   obtain⟨x',a,q,m,k,g1,ha,D,c0,c1,c2,c3,G⟩:=Z j x r;rw[r]at g1;cases g1;have d0:=Qd f.1 c0;have d1:=Qd f.1 c1;have d2:=Qd f.1 c2;have d3:=Qd f.1 c3;have w1:=Qd f.1 N;have w2:=Qd f.1 O;rw[Jo r,handed]at e;refine gZ ?_;have skip:showsB land item x=false->(T.leaf (.again [.int .i64 (wrap .i64 ((j:Int)+1))])).wp X Tryz.prog (fun l h'=>l.go h' Y (fun vs h'=>T.wp X Tryz.prog (T.popI .i64 vs fun n vs=>T.unNil vs (T.leaf (.ret (.tuple #[])))) (retQ fun _ h'=>h₀.le h'/\(J L.length h'\/E h')) h') (fun vs h'=>T.wp X Tryz.prog (T.popI .i64 vs fun n vs=>T.unNil vs (T.leaf (.ret (.tuple #[])))) (retQ fun _ h'=>h₀.le h'/\(J L.length h'\/E h')) h') (fun _ _ h'=>T.wp X Tryz.prog .fail (retQ fun _ h'=>h₀.le h'/\(J L.length h'\/E h')) h')) s:=by
    intro H;rw[if_neg (by rw[H];simp)]at e;refine Qi (hY (n-(j+1)) _ _ (by omega) ⟨f,j+1,cnt,?_,by omega,rfl,t,F,e⟩);rw[Qh (by omega) (by omega)];rfl
   refine Qp (fun u=>?_) (fun u=>?_)
   ·refine gZ ?_;refine t_pu (c100 (G.le IntE.grow f.1) item) ?_;refine yI (fun w=>?_) (fun w=>?_)
    ·have K:showsB land item x=true:=by unfold showsB;rw[u,w];rfl
     rw[if_pos K]at e;have o:L[cnt]?=some [V j]:=by
      have:(L.drop cnt)[0]?=some [V j]:=by rw[e];rfl
      simpa using this
     have b0:cnt<L.length:=(List.getElem?_eq_some_iff.1 o).1;have z:=g cnt s [V j] f o t;rw[D]at z;refine Q7 z ?_;rintro b a0 ⟨A,⟨rfl,C⟩|⟨rfl,hE⟩⟩
     ·refine yF ?_;refine Qi (hY (n-(j+1)) _ _ (by omega) ⟨A,j+1,cnt+1,?_,by omega,rfl,C,by omega,?_⟩)
      ·rw[Qh (by omega) (by omega)];rfl
      ·rw[<- List.drop_drop,e];rfl
     ·refine yT ?_;refine gZ ?_;exact Qg ⟨A,.inr hE⟩
    ·exact skip (by unfold showsB;rw[u,w];rfl)
   ·exact skip (by unfold showsB;rw[u];rfl)
  ·refine gZ ?_;refine Qg ⟨f,.inl ?_⟩;rw[List.drop_eq_nil_of_le (by omega:ps.length<=j),handed]at e;have:L.length<=cnt:=List.drop_eq_nil_iff.1 e;obtain rfl:cnt=L.length:=by omega
   exact t
end
section
attribute [local irreducible] T.wp CV FWK
variable {h:LH}{f:FileC}{u:UseFile}
theorem g30:Tryz.prog.eqGuardType Tryz.prog.depth 46=false:=by kernel_rfl
theorem c60{d m:Nat}(k:Desk h.get d m f u)(j:numbersF u=0)(land item day:Int)(E:0<=day/\day<=2000) :
  De 77 #[.pointer (some ⟨d,0,none⟩),.int .i64 land,.int .i64 item,.int .i64 day] h d m f u fun r _=>r=.int .i64 (safe u land item day):=by
 refine w60 Qn ?_;refine t_de (c55 k (Z3 j).2.2.2 day E) ?_;rintro _ C mv k1 rfl;obtain⟨f0,f1,f2,f3,f4,f5,f6⟩:=k1.file;refine gZ ?_;refine t_pu (c81 _ _ _) ?_;refine yI (fun e=>?_) (fun e=>?_)
 ·exact Qg ⟨mv,k1,by rw[safe,if_pos e]⟩
 refine t_gr (c88 _ _ _) ?_;rintro _ l g ⟨I,J,K,rfl,y,z,A⟩;have o:=k1.le g.1;obtain⟨L,t,v,D⟩:=hands99 Qn y z A o.file.f5 o.rep.papers;refine t_each (LH.le_refl l) D (fun i vs h'=>∃ out,vs=[.int .i64 0,.int .i64 out]/\safe u land item day=safeGo (window u day) ((shown u land item).drop i) out) ⟨2,rfl,by rw[safe,if_neg (by rw[e];simp)];rfl⟩ ?_ ?_
 ·rintro vs h' hle ⟨out,rfl,hc⟩;rw[List.drop_eq_nil_of_le (by rw[t];exact Nat.le_refl _),safeGo]at hc;refine gZ ?_;exact Qg ⟨mv.trans (Mv.of_le (LH.le_trans g hle)),o.le hle.1,by rw[hc]⟩
 ·rintro i xs vs h' F hle ⟨out,rfl,hc⟩ Y B;obtain⟨x,q,n,c,H,rfl,G⟩:=v i xs F;have w:(shown u land item)[i]?=some x:=H;rw[Jo w,safeGo]at hc;unfold paperV;refine gZ ?_;refine t_eq2 Yi g30 ?_;refine yI (fun p=>?_) (fun p=>?_)
  ·refine Wf hle ?_;have a:insideB (window u day) x.days=true:=p;rw[if_pos a]at hc;refine gZ ?_;exact Qg ⟨mv.trans (Mv.of_le (LH.le_trans g hle)),o.le hle.1,by rw[hc]⟩
  ·have a:insideB (window u day) x.days=false:=p;rw[if_neg (by rw[a];simp)]at hc;refine Qp (fun s=>?_) (fun s=>?_)
   ·have b:meetsB (window u day) x.days=true:=s;rw[if_pos b]at hc;exact K6 hle (B _ _ hle ⟨0,rfl,hc⟩)
   ·have b:meetsB (window u day) x.days=false:=s;rw[if_neg (by rw[b];simp)]at hc;exact K6 hle (B _ _ hle ⟨out,rfl,hc⟩)
def safeR(u:UseFile)(land item day:Int):Value :=
 if openF u [landQ u land,itemQ u item,dayQ day]≠0 then .tuple #[.int .i64 0,.int .i64 (openF u [landQ u land,itemQ u item,dayQ day])] else .tuple #[.int .i64 (safe u land item day),.int .i64 0]
theorem c19(z:Parts h.get)(hu:FileR h.get f u)(land item day:Int):Gr Tryz.prog 23 #[fileV f u,land,item,day] h fun r _=>r=safeR u land item day:=by
 refine w19 Qn ?_;refine t_gr (c58 u land) ?_;rintro v0 n j ⟨C,w⟩;refine gZ ?_;refine t_gr (c59 u item) ?_;rintro v1 o g ⟨D,x⟩;refine gZ ?_;refine t_gr (c54 u day) ?_;rintro v2 p b ⟨E,y⟩;refine gZ ?_;refine asks3 C (w.le (LH.le_trans g b)) D (x.le b) E y fun r q l B=>?_;refine gZ ?_;have a:=LH.le_trans (LH.le_trans (LH.le_trans j g) b) l;refine Ji (c53 (f:=f) (z.le a.1) (hu.le a.1) B) ?_;rintro v s ⟨i,⟨c,rfl⟩|⟨h0,d,m,rfl,F,hm,k⟩⟩
 ·refine gZ ?_;refine Qp (fun _=>?_) (fun e=>absurd (by simpa using e) c);refine Qg ⟨LH.le_trans a i,?_⟩;show _=safeR u land item day;rw[safeR,if_pos c]
 ·refine yF ?_;have A:=dayQ_zero (Db h0 _ (by simp;exact .inr (.inr rfl)));refine t_de (c60 k (J4 h0).1 land item day A) ?_;rintro _ t mv G rfl;refine gZ ?_;refine Qg ⟨LH.le_trans a (Mv.le_of i hm mv),?_⟩;show _=safeR u land item day;rw[safeR,if_neg (by simpa using h0)]
def weakR(u:UseFile)(land item:Int):Value :=
 if openF u [landQ u land,itemQ u item]≠0 then .tuple #[.int .i64 0,.int .i64 (openF u [landQ u land,itemQ u item])] else .tuple #[.int .i64 (weak u land item),.int .i64 0]
theorem c21(J:Parts h.get)(hu:FileR h.get f u)(land item:Int):Gr Tryz.prog 24 #[fileV f u,land,item] h fun r _=>r=weakR u land item:=by
 refine w21 Qn ?_;refine t_gr (c58 u land) ?_;rintro v0 A t ⟨P,G⟩;refine gZ ?_;refine t_gr (c59 u item) ?_;rintro v1 B j ⟨Q,H⟩;refine gZ ?_;refine Yg P (G.le j) Q H fun r C w K=>?_;refine gZ ?_;have a:=LH.le_trans (LH.le_trans t j) w;refine Ji (c53 (f:=f) (J.le a.1) (hu.le a.1) K) ?_;rintro v i ⟨c,⟨g,rfl⟩|⟨h0,d,m,rfl,R,hm,k⟩⟩
 ·refine gZ ?_;refine Qp (fun _=>?_) (fun e=>absurd (by simpa using e) g);refine Qg ⟨LH.le_trans a c,?_⟩;show _=weakR u land item;rw[weakR,if_pos g]
 ·refine yF ?_;have b:=(J4 h0).1;have p:=(Z3 b).2.2.1;refine Q1 (fun F vs h'=>Mv m i h'/\Desk h'.get d m f u/\∃ x:Int,vs=[.int .i64 0,.int .i64 0,.int .i64 x]/\0<=x/\x<=2001/\F=(2001-x).toNat/\weak u land item=weakGo (fun d=>decide (safe u land item d≠1)) (2001-x).toNat x)
   ⟨Mv.refl,k,u.from_,rfl,by omega,by omega,rfl,rfl⟩ ?_
  rintro Y F vs D I ⟨mv,N,x,rfl,q,L,rfl,hc⟩;refine yJ (fun z=>?_) (fun z=>?_)
  ·refine t_de (c60 N b land item x ⟨q,z⟩) ?_;rintro _ E l O rfl;refine gZ ?_;obtain⟨y,M⟩ : ∃ y,(2001-x).toNat=y+1:=⟨(2000-x).toNat,by omega⟩
   have s:(2001-(x+1)).toNat=y:=by omega
   rw[M,weakGo]at hc;refine Qp (fun n=>?_) (fun n=>?_)
   ·refine gZ ?_;refine Qg ⟨LH.le_trans a (Mv.le_of c hm (mv.trans l)),?_⟩;show _=weakR u land item;rw[weakR,if_neg (by simpa using h0),hc,if_pos (by simpa using n)]
   ·rw[if_neg (by simpa using n)]at hc;refine Qi (I (2001-(x+1)).toNat _ _ (by omega) ⟨mv.trans l,O,x+1,?_,by omega,by omega,rfl,by rw[s];exact hc⟩);rw[Qh (by omega) (by omega)]
  ·refine gZ ?_;have o:(2001-x).toNat=0:=by omega
   rw[o,weakGo]at hc;refine Qg ⟨LH.le_trans a (Mv.le_of c hm mv),?_⟩;show _=weakR u land item;rw[weakR,if_neg (by simpa using h0),hc]
end
section
attribute [local irreducible] T.wp CV FWK
def ReqEnc(h₀:Cells)(x:Request)(ws:List Value):Prop:=∃ q m c,ws=[.int .i64 x.day,.int .i64 x.land,.slice q m c]/\Sl IntE 1 h₀ q m x.items
variable {h₀:Cells}{h:LH}{d m:Nat}{f:FileC}{u:UseFile}
theorem ReqEnc.len:∀ x ws,ReqEnc h₀ x ws->ws.length=3:=by rintro x _ ⟨q,m,c,rfl,_⟩;rfl
theorem ReqEnc.e{h':Cells}(hr:Rd h₀ h'):∀ a x ws,ReqEnc h₀ x ws->(∀ (j:Nat) w,ws[j]?=some w->h'.cell? (a.add j)=some w)->RequestE h' a x:=by
 rintro a x _ ⟨q,m,c,rfl,b⟩ hc;exact⟨hc 0 _ rfl,hc 1 _ rfl,q,m,c,hc 2 _ rfl,b.rd IntE.grow hr⟩
theorem c101(k:Desk h.get d m f u)(B:checkF u=0)(land item day:Int) :
  Gr Tryz.prog 169 #[.pointer (some ⟨d,0,none⟩),land,item,day] h fun r h'=>∃ p n c,r=.slice p n c/\Sl RequestE 3 h'.get p n (against u land item day):=by
 refine w101 Qn ?_;obtain⟨f0,f1,f2,f3,f4,f5,f6⟩:=k.file;have hlen:=(Z4 B).1;have O:=k.rep.requests.1;refine gZ ?_;refine Q1 (fun J vs h'=>h.le h'/\∃ (i:Nat) (p:Option Addr) (n c:Nat) (rs:List Request),vs=[.slice p n c,.int .i64 i]/\i<=f.n6/\J=f.n6-i/\Growing (ReqEnc h.get) 51 3 h.get h'.get p n c rs/\rs.length<=i/\against u land item day=rs++(u.requests.drop i).filter (agB land item day))
  ⟨LH.le_refl _,0,none,0,0,[],rfl,Nat.zero_le _,rfl,Growing.nil,Nat.le_refl _,rfl⟩ ?_
 rintro Y J vs b H ⟨hle,i,p,n,c,rs,rfl,V,rfl,g,Q,hc⟩;refine yJ (fun L=>?_) (fun L=>?_)
 ·obtain⟨x,a,R,U,D,E,q,v,t,F,G⟩:=k.rep.requests.at (i:=i) (by omega);have D:=Qd hle.1 D;have E:=Qd hle.1 E;have F:=Qd hle.1 F;rw[Jo R,List.filter_cons]at hc;have skip:agB land item day x=false->Y [.slice p n c,.int .i64 (wrap .i64 ((i:Int)+1))] b:=by
   intro C;rw[if_neg (by rw[C];simp)]at hc;refine H (f.n6-(i+1)) _ _ (by omega) ⟨hle,i+1,p,n,c,rs,?_,by omega,rfl,g,by omega,hc⟩;rw[Qh (by omega) (by omega)];rfl
  refine yI (fun l=>?_) (fun l=>?_)
  ·refine t_if (fun y=>?_) (fun y=>?_)
   ·refine t_pu (c100 (G.le IntE.grow hle.1) item) ?_;refine yI (fun z=>?_) (fun z=>?_)
    ·have A:agB land item day x=true:=by unfold agB;rw[l,z];simp[y]
     rw[if_pos A]at hc;refine Zi und24 Uw (by decide) (by decide) (cells:=#[.int .i64 x.day,.int .i64 x.land,.slice q v t]) (by kernel_rfl) fun r hr=>?_;have s:b.le _:=Qr (x:=(true,.cells #[.int .i64 x.day,.int .i64 x.land,.slice q v t] 51 (0,0))) hr;have P:=g.count ReqEnc.len (by omega);refine gZ ?_;refine D1 (x:=x) (ws:=[.int .i64 x.day,.int .i64 x.land,.slice q v t]) rfl rfl und24 und24 Uw rfl (by omega) (by omega) (g.le s.1) (LH.le_trans hle s) ⟨q,v,t,rfl,G⟩ rfl ?_ ?_ ?_
     ·intro j w N;rw[Ql,Nat.zero_add];exact Qu (by simpa using N)
     ·intro w hw;simp at hw;rcases hw with rfl|rfl|rfl<;>rfl
     ·intro S K I o _ M;refine gZ ?_;refine Qi (H (f.n6-(i+1)) _ _ (by omega) ⟨o,i+1,S,n+1,K,rs++[x],?_,by omega,rfl,M,by simp;omega,by rw[hc];simp⟩);rw[Qh (by omega) (by omega)];rfl
    ·exact Qi (skip (by unfold agB;rw[l,z];simp))
   ·exact Qi (skip (by unfold agB;rw[l];simp[y]))
  ·exact Qi (skip (by unfold agB;rw[l];rfl))
 ·refine gZ ?_;rw[List.drop_eq_nil_of_le (by omega)]at hc;simp at hc;refine Qg ⟨hle,p,n,c,rfl,?_⟩;rw[hc];exact g.sl ReqEnc.len (by omega) (ReqEnc.e (Rd.of_le hle.1)) (by omega)
theorem or_bits{a k:Nat}(f:a<2^32)(g:k<32):wrap .i64 (((BitVec.ofInt 64 (a:Int) ||| BitVec.ofInt 64 (wrap .i64 (1*2^min (k:Int).toNat 64))).toNat:Nat):Int)=((a ||| 2^k:Nat):Int):=by
 have hm:min (k:Int).toNat 64=k:=by simp;omega
 have c:(2:Nat)^k<2^32:=Nat.pow_lt_pow_right (by omega) g;have b:(1*2^k:Int)=((2^k:Nat):Int):=by simp
 rw[hm,b];generalize i:(2:Nat)^k=q at c;have hw:wrap .i64 ((q:Nat):Int)=(q:Int):=Qh (by omega) (by omega);rw[hw];have d:(BitVec.ofInt 64 (a:Int)).toNat=a:=by rw[BitVec.toNat_ofInt];omega
 have e:(BitVec.ofInt 64 (q:Int)).toNat=q:=by rw[BitVec.toNat_ofInt];omega
 rw[BitVec.toNat_or,d,e];have h:a ||| q<2^32:=Nat.or_lt_two_pow f c;exact Qh (by omega) (by omega)
theorem c107(k:Desk h.get d m f u)(o:checkF u=0){p:Option Addr}{n c:Nat}{l:List Request}(v:Sl RequestE 3 h.get p n l)(D:l.length<=4)(g:∀ r∈l,0<=r.day/\r.day<=2000)(day:Int) :
  De 196 #[.pointer (some ⟨d,0,none⟩),.slice p n c,.int .i64 day] h d m f u fun r _=>r=.int .i64 (meets u l day):=by
 refine w107 Qn ?_;have L:=v.1;refine Q1 (fun B vs h'=>Mv m h h'/\Desk h'.get d m f u/\∃ (i acc:Nat),vs=[.int .i64 acc,.int .i64 i]/\i<=n/\B=n-i/\acc<2^32/\meets u l day=meetsGo u day (l.drop i) i acc)
  ⟨Mv.refl,k,0,0,rfl,Nat.zero_le _,rfl,by omega,rfl⟩ ?_
 rintro Y B vs y t ⟨mv,k1,i,acc,rfl,K,rfl,e,hc⟩;refine yJ (fun C=>?_) (fun C=>?_)
 ·obtain⟨x,a,w,J,F,G,q,M,E,H,I⟩:=(v.rd RequestE.grow (mv.rd k.isMap)).at (i:=i) (by omega);rw[Jo w,meetsGo]at hc;refine gZ ?_;have s:=g x (List.mem_of_getElem? w);refine t_de (c55 k1 (Z3 (Ke o)).2.2.2 x.day s) ?_;rintro _ z j A rfl;refine gZ ?_;refine t_pu (c81 _ _ _) ?_;refine yI (fun b=>?_) (fun b=>?_)
  ·rw[if_pos b]at hc;refine gZ ?_;rw[or_bits e (by omega)];refine Qi (t (n-(i+1)) _ _ (by omega) ⟨mv.trans j,A,i+1,acc ||| 2^i,?_,by omega,rfl,Nat.or_lt_two_pow e (Nat.pow_lt_pow_right (by omega) (by omega)),hc⟩);rw[Qh (by omega) (by omega)];rfl
  ·rw[if_neg (by rw[b];simp)]at hc;refine Qi (t (n-(i+1)) _ _ (by omega) ⟨mv.trans j,A,i+1,acc,?_,by omega,rfl,e,hc⟩);rw[Qh (by omega) (by omega)];rfl
 ·refine gZ ?_;rw[List.drop_eq_nil_of_le (by omega),meetsGo]at hc;exact Qg ⟨mv,k1,by rw[hc]⟩
end
end Go.Y

/- Contracts and laws for the proof, joined by a program. No condition. -/
import Derived.Test.YtpkjbclajflhbaaGreatDoorM3
set_option linter.all false
noncomputable section
open Go Go.Conc Go.TM Go.Proofs
set_option maxRecDepth 100000
open Go.IntKind (wrap)
section
namespace Go.TM
def str(l:List UInt8):ByteArray:=⟨l.toArray⟩
theorem Jy(l:List UInt8):(str l).size=l.length:=by simp[str,ByteArray.size]
theorem str_data(l:List UInt8):(str l).data.toList=l:=by simp[str]
theorem str_inj{a b:List UInt8}(h:str a=str b):a=b:=by
 have:=congrArg (fun s:ByteArray=>s.data.toList) h;simpa[str] using this
theorem str_of(s:ByteArray):s=str s.data.toList:=by simp[str]
theorem Wx(l:List UInt8)(a b:Nat):(str l).extract a b=str ((l.take b).drop a):=by
 apply ByteArray.ext;simp only[str,ByteArray.data_extract,List.extract_toArray];congr 1;simp[List.extract,List.drop_take]
theorem str_append(a b:List UInt8):str a++str b=str (a++b):=by
 apply ByteArray.ext;simp[str]
section
variable {X:XP} {P:Program} {Q:Leaf->LH->Prop} {h:LH} {K:Value->T} {t t':TypeId}
variable {s:ByteArray}{a b:Nat}{x y:Operand}
theorem Q5{l:List UInt8}(hu:P.underlying t=some .string)(a:(K (.int .i64 (l.length:Int))).wp X P Q h):(T.sem false (Builtin.len_ #[t] t' #[.string (str l)]) K).wp X P Q h :=
 t_lenStr hu (by rw[Jy];exact a)
theorem J3{l:List UInt8}{i:Nat}{c:UInt8}(hu:P.underlying t=some .string)(hc:l[i]?=some c)(a:(K (.int .u8 (c.toNat:Int))).wp X P Q h):(T.sem false (Instr.index t (.string (str l)) (.int .i64 (i:Int))) K).wp X P Q h :=
 t_indexS hu (by simpa[str] using hc) a
theorem t_sliceS(hu:P.underlying t=some .string)(d:a<=b)(hb:b<=s.size)(c:(K (.string (s.extract a b))).wp X P Q h):(T.sem false (Instr.sliceAt t (.string s) (some (.int .i64 (a:Int))) (some (.int .i64 (b:Int))) none) K).wp X P Q h:=by
 refine Q9 (A:=fun v h'=>h'=h.get/\v=.string (s.extract a b)) ?_ (by rintro v h' ⟨rfl,rfl⟩;exact c);unfold Instr.sliceAt;simp only[lwp_bind,Qc hu];unfold Instr.slice;simp only[lwp_bind,Qc hu,Option.isSome_none,Bool.false_eq_true,if_false];unfold Instr.sliceBounds Instr.sliceBound;simp only[lwp_bind,Qg,asIntOf];rw[if_pos (show 0<=(b:Int)/\(b:Int)<=(s.size:Int) by omega)];simp only[Qg,lwp_bind,Int.toNat_natCast];rw[if_pos (show 0<=(a:Int)/\(a:Int)<=(b:Int) by omega)];simp only[Qg,lwp_bind,Int.toNat_natCast];exact⟨trivial,trivial⟩
theorem t_tailS(hu:P.underlying t=some .string)(c:a<=s.size)(b:(K (.string (s.extract a s.size))).wp X P Q h):(T.sem false (Instr.sliceAt t (.string s) (some (.int .i64 (a:Int))) none none) K).wp X P Q h:=by
 refine Q9 (A:=fun v h'=>h'=h.get/\v=.string (s.extract a s.size)) ?_ (by rintro v h' ⟨rfl,rfl⟩;exact b);unfold Instr.sliceAt;simp only[lwp_bind,Qc hu];unfold Instr.slice;simp only[lwp_bind,Qc hu,Option.isSome_none,Bool.false_eq_true,if_false];unfold Instr.sliceBounds Instr.sliceBound;simp only[lwp_bind,Qg,asIntOf];rw[if_pos (show 0<=(a:Int)/\(a:Int)<=(s.size:Int) by omega)];simp only[Qg,lwp_bind,Int.toNat_natCast];exact⟨trivial,trivial⟩
theorem K3{l:List UInt8}{n:Nat}(hu:P.underlying t=some .string)(b:n<=l.length)(a:(K (.string (str (l.take n)))).wp X P Q h):(T.sem false (Instr.sliceAt t (.string (str l)) none (some (.int .i64 (n:Int))) none) K).wp X P Q h:=by
 refine Q9 (A:=fun v h'=>h'=h.get/\v=.string ((str l).extract 0 n)) ?_ (by rintro v h' ⟨rfl,rfl⟩;rw[Wx];exact a);have c:=Jy l;unfold Instr.sliceAt;simp only[lwp_bind,Qc hu];unfold Instr.slice;simp only[lwp_bind,Qc hu,Option.isSome_none,Bool.false_eq_true,if_false];unfold Instr.sliceBounds Instr.sliceBound;simp only[lwp_bind,Qg,asIntOf];rw[if_pos (show 0<=(n:Int)/\(n:Int)<=((str l).size:Int) by omega)];simp only[Qg,lwp_bind,Int.toNat_natCast];exact⟨trivial,trivial⟩
theorem Us{l:List UInt8}(hu:P.underlying t=some .string)(c:a<=b)(hb:b<=l.length)(d:(K (.string (str ((l.take b).drop a)))).wp X P Q h):(T.sem false (Instr.sliceAt t (.string (str l)) (some (.int .i64 (a:Int))) (some (.int .i64 (b:Int))) none) K).wp X P Q h :=
 t_sliceS hu c (by rw[Jy];exact hb) (by rw[Wx];exact d)
theorem K2{l:List UInt8}(hu:P.underlying t=some .string)(b:a<=l.length)(c:(K (.string (str (l.drop a)))).wp X P Q h):(T.sem false (Instr.sliceAt t (.string (str l)) (some (.int .i64 (a:Int))) none none) K).wp X P Q h :=
 t_tailS hu (by rw[Jy];exact b) (by rw[Wx,Jy,List.take_of_length_le (Nat.le_refl _)];exact c)
theorem t_catS{a b:ByteArray}(hu:P.underlying t=some .string)(d:a.size+b.size<=2^62)(c:(K (.string (a++b))).wp X P Q h) :
  (T.sem false (Sem.bind (eqGuard .add t x y (.string a) (.string b)) fun _=>binOp .add t (.string a) (.string b)) K).wp X P Q h:=by
 refine Q9 (A:=fun w h'=>h'=h.get/\(K w).wp X P Q h) (Qu _ _ ?_) (by rintro w h' ⟨rfl,hw⟩;exact hw);unfold eqGuard;simp only[Bool.not_true,Bool.not_false,Bool.false_eq_true,if_false,if_true,Qg];unfold binOp;show Qd P (Op.stringOp .add a b) _ _ _;unfold Op.stringOp;have e:IntKind.i64.max=9223372036854775807:=rfl;simp only[];rw[if_neg (by rw[e];omega),Qg];exact⟨rfl,c⟩
theorem Zi{a b:List UInt8}(hu:P.underlying t=some .string)(d:a.length+b.length<=2^62)(c:(K (.string (str (a++b)))).wp X P Q h) :
  (T.sem false (Sem.bind (eqGuard .add t x y (.string (str a)) (.string (str b))) fun _=>binOp .add t (.string (str a)) (.string (str b))) K).wp X P Q h :=
 t_catS hu (by rw[Jy,Jy];exact d) (by rw[str_append];exact c)
theorem Zp{a b:List UInt8}(hu:P.underlying t=some .string)(d:(K (.bool (decide (a=b)))).wp X P Q h) :
  (T.sem false (Sem.bind (eqGuard .eql t x y (.string (str a)) (.string (str b))) fun _=>binOp .eql t (.string (str a)) (.string (str b))) K).wp X P Q h :=
 t_eqStr hu fun c hc=>by
  have:c=decide (a=b):=by
   cases c with
   | true=>exact(decide_eq_true (str_inj (hc.1 rfl))).symm
   | false =>
    symm;rw[decide_eq_false_iff_not];intro e;have:=hc.2 (by rw[e]);cases this
  rw[this];exact d
end
end Go.TM
end
section
namespace Go.TM.Tp
variable {P:Program} {E:Halt->Cells->Prop} {h:Cells}
variable {r:Nat}{m:Bool}{cs:Array Value}{el src dst:TypeId}{Q:Value->Cells->Prop}
theorem shape_at{fr:Nat×Nat}(hr:h r=some (m,.cells cs el fr)):h.shape? r=some (el,cs.size):=by
 unfold Cells.shape?;rw[hr]
theorem Kv{Q:Option (TypeId×Nat)->Cells->Prop}{fr:Nat×Nat}(hr:h r=some (m,.cells cs el fr)):Qd P (shape r) Q E h↔Q (some (el,cs.size)) h:=by
 constructor
 ·rintro⟨_,a⟩;rw[shape_at hr]at a;exact a
 ·intro a;refine⟨⟨_,hr⟩,?_⟩;rw[shape_at hr];exact a
theorem lwp_seenAt{Q:Addr->Cells->Prop}{a:Addr}{fr:Nat×Nat}(hr:h a.block=some (m,.cells cs el fr))(b:Q a h):Qd P (Conv.seenAt a) Q E h:=by
 unfold Conv.seenAt viewAt;simp only[lwp_bind];rw[Kv hr];simp only[Option.isSome_some,if_true,Qg];exact b
theorem lwp_toUnsafe{t:TypeId}{j:TypeInfo}{fr:Nat×Nat}(e:P.underlying src=some (.pointer t))(b:P.underlying dst=some .unsafePointer)(f:P.info? t=some j)(c:j.size≠0)(hr:h r=some (m,.cells cs el fr))(hc:0<cs.size)(d:Q (.pointer (some ⟨r,0,none⟩)) h) :
  Qd P (convert src dst (.pointer (some ⟨r,0,none⟩))) Q E h:=by
 simp only[convert,lwp_bind,Qc e,Qc b,Conv.unsafePointer];refine lwp_seenAt hr ?_;unfold cellsIn;simp only[lwp_bind];rw[Kv hr];simp only[Qg,Qy f];have a:¬ (0>=cs.size):=by omega
 simp only[a,decide_false,Bool.false_and,Bool.or_false,decide_eq_true_eq,c,if_false,Qg,Bool.false_eq_true,or_false];exact d
theorem lwp_fromUnsafe{u:TypeId}{j:TypeInfo}{fr:Nat×Nat}(d:P.underlying src=some .unsafePointer)(a:P.underlying dst=some (.pointer u))(hu:P.info? u=some j)(hr:h r=some (m,.cells cs el fr))(b:liesAt P P.depth el (cs.size / P.cellsOf el) 0 u 1=true)(c:Q (.pointer (some ⟨r,0,none⟩)) h) :
  Qd P (convert src dst (.pointer (some ⟨r,0,none⟩))) Q E h:=by
 simp only[convert,lwp_bind,Qc d,Qc a,Conv.unsafePointer];refine lwp_seenAt hr ?_;unfold variablesAt;simp only[lwp_bind,Qy hu,Jm];rw[Kv hr];simp only[Qg,b,decide_true,Bool.or_true,or_true,if_true];exact c
end Go.TM.Tp
end
section
namespace Go.TM
variable {h₀ h h':Cells}{p:Option Addr}{k n c:Nat}{vs:List Value}{el:TypeId}
theorem OwnRow.le{el:TypeId}{k:Nat}{h h':Cells}{p:Option Addr}{n c:Nat}{vs:List Value}(j:h.le h')(o:OwnRow el k h p n c vs):OwnRow el k h' p n c vs:=by
 obtain⟨a,i|⟨r,cs,b,d,e,f,g⟩⟩:=o
 ·exact⟨a,.inl i⟩
 ·exact⟨a,.inr ⟨r,cs,b,j _ _ d,e,f,g⟩⟩
def NewIn(h₀:Cells)(p:Option Addr):Prop:=∀ a,p=some a->h₀ a.block=none
theorem NewIn.none{h₀:Cells}:NewIn h₀ none:=fun a h=>by cases h
theorem Gz{d:Option Addr}(hle:h₀.le h)(f:NewIn h₀ p)(g:KeptBut p h h')(c:d=p\/∃ r,d=some ⟨r,0,none⟩/\h r=none):h₀.le h'/\NewIn h₀ d:=by
 refine⟨fun r x hr=>g r x (hle r x hr) fun a b e=>?_,?_⟩
 ·have:=f a b;rw[e,hr]at this;cases this
 ·rcases c with rfl|⟨r,rfl,hr⟩
  ·exact f
  ·intro a b;cases b;cases i:h₀ r with
   | none=>rfl
   | some x=>rw[hle _ _ i]at hr;cases hr
inductive Rows{α:Type}(Enc:α->List Value->Prop):List Value->List α->Prop
 | nil:Rows Enc [] []
 | snoc {vs:List Value} {l:List α} {x:α} {ws:List Value}:Rows Enc vs l->Enc x ws->Rows Enc (vs++ws) (l++[x])
theorem Rows.len{α:Type}{Enc:α->List Value->Prop}(a:∀ x ws,Enc x ws->ws.length=k){l:List α}(r:Rows Enc vs l):vs.length=l.length*k:=by
 induction r with
 | nil=>simp
 | snoc r he b=>simp[b,a _ _ he,Nat.add_mul]
theorem Rows.at{α:Type}{Enc:α->List Value->Prop}{k:Nat}(g:∀ x ws,Enc x ws->ws.length=k){vs:List Value}{l:List α}(r:Rows Enc vs l):∀ (i:Nat) x,l[i]?=some x->∃ ws,Enc x ws/\∀ (j:Nat) w,ws[j]?=some w->vs[i*k+j]?=some w:=by
 induction r with
 | nil=>intro i x h;simp at h
 | snoc r he n =>
  rename_i vs l y ws;intro i x a;have hlen:=r.len g;by_cases b:i<l.length
  ·rw[List.getElem?_append_left b]at a;obtain⟨us,f,m⟩:=n i x a;refine⟨us,f,fun j w c=>?_⟩;have e:j<us.length:=(List.getElem?_eq_some_iff.1 c).1;rw[g _ _ f]at e;have:i*k+j<vs.length:=by
    rw[hlen]
    calc i*k+j<i*k+k:=by omega
     _=(i+1)*k:=by rw[Nat.add_mul];omega
     _<=l.length*k:=Nat.mul_le_mul_right _ b
   rw[List.getElem?_append_left this];exact m j w c
  ·have d:i=l.length:=by
    have:=(List.getElem?_eq_some_iff.1 a).1;simp at this;omega
   subst d;rw[List.getElem?_append_right (Nat.le_refl _),Nat.sub_self]at a;simp at a;subst a;refine⟨ws,he,fun j w c=>?_⟩;rw[List.getElem?_append_right (by omega),hlen];rw[show l.length*k+j-l.length*k=j by omega];exact c
theorem Rows.sl{α:Type}{E:Cells->Addr->α->Prop}{Enc:α->List Value->Prop}{l:List α}(e:∀ x ws,Enc x ws->ws.length=k)(d:0<k)(s:∀ a x ws,Enc x ws->(∀ (j:Nat) w,ws[j]?=some w->h'.cell? (a.add j)=some w)->E h' a x)
 (own:OwnRow el k h' p n c vs)(r:Rows Enc vs l)(hb:l.length<4611686018427387904):Sl E k h' p n l:=by
 have hlen:=r.len e;obtain⟨o,q⟩:=own;have f:n=l.length:=Nat.eq_of_mul_eq_mul_right d (o.symm.trans hlen);refine⟨f,hb,fun i x g=>?_⟩;obtain⟨ws,h,m⟩:=r.at e i x g;rcases q with⟨rfl,rfl,rfl⟩|⟨b,cs,rfl,hr,t,v,hv⟩
 ·have:l=[]:=List.eq_nil_of_length_eq_zero f.symm;subst this;simp at g
 ·refine⟨_,rfl,s _ _ _ h fun j w u=>?_⟩;rw[Qo,Qo,Nat.zero_add];simp only[Cells.cell?,hr,Option.isSome_none,Bool.false_eq_true,if_false];exact hv _ _ (m j w u)
def IntEnc(x:Int)(ws:List Value):Prop:=ws=[.int .i64 x]
theorem IntEnc.len:∀ x ws,IntEnc x ws->ws.length=1:=by rintro x _ rfl;rfl
theorem IntEnc.e:∀ a x ws,IntEnc x ws->(∀ (j:Nat) w,ws[j]?=some w->h'.cell? (a.add j)=some w)->IntE h' a x:=by
 rintro a x _ rfl hc;exact hc 0 _ rfl
structure Growing{α:Type}(Enc:α->List Value->Prop)(el:TypeId)(k:Nat)(h₀ h:Cells)(p:Option Addr)(n c:Nat)(l:List α):Prop where
 row:∃ vs,OwnRow el k h p n c vs/\Rows Enc vs l
 new:NewIn h₀ p
theorem Growing.nil{α:Type}{Enc:α->List Value->Prop}{el:TypeId}{k:Nat}{h₀ h:Cells}:Growing Enc el k h₀ h none 0 0 []:=⟨⟨[],OwnRow.nil,.nil⟩,NewIn.none⟩
theorem Growing.le{α:Type}{Enc:α->List Value->Prop}{el:TypeId}{k:Nat}{h₀ h h':Cells}{p:Option Addr}{n c:Nat}{l:List α}(d:h.le h')(g:Growing Enc el k h₀ h p n c l):Growing Enc el k h₀ h' p n c l:=by
 obtain⟨vs,a,b⟩:=g.row;exact⟨⟨vs,a.le d,b⟩,g.new⟩
theorem Growing.mv{α:Type}{Enc:α->List Value->Prop}{m:Nat}{h h':LH}{l:List α}(hm:∃ es c,h.get m=some (true,.map es c))(j:Mv m h h')(g:Growing Enc el k h₀ h.get p n c l):Growing Enc el k h₀ h'.get p n c l:=by
 obtain⟨vs,⟨f,b⟩,i⟩:=g.row;refine⟨⟨vs,⟨f,?_⟩,i⟩,g.new⟩;rcases b with b|⟨r,cs,d,a,e⟩
 ·exact .inl b
 ·refine .inr ⟨r,cs,d,j.keep _ _ ?_ a,e⟩;rintro rfl;obtain⟨es,o,hm⟩:=hm;rw[hm]at a;cases a
theorem Growing.count{α:Type}{Enc:α->List Value->Prop}{l:List α}(e:∀ x ws,Enc x ws->ws.length=k)(a:0<k)(g:Growing Enc el k h₀ h p n c l):n=l.length:=by
 obtain⟨vs,b,d⟩:=g.row;exact Nat.eq_of_mul_eq_mul_right a (b.1.symm.trans (d.len e))
theorem Growing.sl{α:Type}{E:Cells->Addr->α->Prop}{Enc:α->List Value->Prop}{el:TypeId}{k:Nat}{h₀ h:Cells}{p:Option Addr}{n c:Nat}{l:List α}(i:∀ x ws,Enc x ws->ws.length=k)(b:0<k)(f:∀ a x ws,Enc x ws->(∀ (j:Nat) w,ws[j]?=some w->h.cell? (a.add j)=some w)->E h a x)
 (g:Growing Enc el k h₀ h p n c l)(hb:l.length<4611686018427387904):Sl E k h p n l:=by
 obtain⟨vs,d,e⟩:=g.row;exact e.sl i b f d hb
section
variable {P:Program} {X:XP} {Q:Leaf->LH->Prop}
theorem D3{α:Type}{Enc:α->List Value->Prop}{h h₀:LH}{k:Value->T}{ts:Array TypeId}{ty sT xT el xe:TypeId}{s by_:Nat}{z:Value}{p:Option Addr}{n c mc:Nat}{b:Addr}{l:List α}{x:α}{ws:List Value}(h0:ts[0]?=some sT)(m:ts[1]?=some xT)(hu:P.underlying sT=some (.slice el))(A:P.underlying xT=some (.slice xe))
 (q:(P.info? el).map (fun i=>(i.size,i.bytes,i.zero))=some (s,by_,some z))(f:z.cells.size=s)(hb:by_<=1024)(w:n+1<=2^30)(g:Growing Enc el s h₀.get h.get p n c l)(hle:h₀.le h)(he:Enc x ws)(u:ws.length=s)(hc:∀ (j:Nat) v,ws[j]?=some v->h.get.cell? (b.add j)=some v)(one:∀ v∈ws,isOne v=true)
 (t:∀ e d h',h₀.le h'->(∀ r y,(∀ a,p=some a->a.block≠r)->h.get r=some y->h'.get r=some y)->Growing Enc el s h₀.get h'.get e (n+1) d (l++[x])->(k (.slice e (n+1) d)).wp X P Q h'):(T.sem false (Builtin.append_ ts ty #[.slice p n c,.slice (some b) 1 mc]) k).wp X P Q h:=by
 obtain⟨vs,o,r⟩:=g.row;refine t_append h0 m hu A q f hb w o (by rw[u,Nat.one_mul]) hc one (by omega) fun e d h' a b c=>?_;obtain⟨C,D⟩:=Gz hle.1 g.new b c;refine t e d _ ⟨C,hle.2⟩ (fun r y hr B=>b r y B hr) ⟨⟨vs++ws,a,.snoc r he⟩,D⟩
end
end Go.TM
end
section
namespace Go.Y
set_option maxHeartbeats 0
set_option linter.unusedVariables false
variable {X:XP} {h:LH} {A:Value->LH->Prop}
variable {a b c d e f g i j k l m:Int}{n o p q r s t u v w x y z:Nat}{B C D E F G H I J K L M:Option Addr}
theorem w3715{e:ByteArray}:FX X 35 #[.pointer B,.string e] h A (.cl 84 #[.pointer B] fun b=>.unTup b fun g=>.unNil g (.someA B fun c=>.loadS (c.add 1) fun i a d=>.sem false (Builtin.append_ #[78,9] 78 #[.slice i a d,.string e]) fun b=>.unS b fun c a d=>.someA B fun f=>.store ((f.add 1).add 0) (.slice c a d) (.sem false (Builtin.len_ #[9] 3 #[.string e]) fun b=>.ui b fun a=>.rt (.tuple #[a,.nilIface])))):=fk [] [] [] Tryz.f35
theorem w3716{j:ByteArray}:FX X 36 #[.slice B n o,.string j] h A (bif (↑n:Int)==0 then .rt (.string { data:=#[] }) else bif (↑n:Int)==1 then .need ((0:Int)<=0/\0<(↑n:Int)) (.someA B fun e=>.loadStr (e.add 0) fun d=>.rt (.string d)) else .blk (.sem false (Builtin.len_ #[9] 3 #[.string j]) fun c=>.ui c fun b=>bif decide (b>0) then .sem false (Builtin.len_ #[9] 3 #[.string j]) fun c=>.ui c fun b=>.need (wrap .i64 ((↑n:Int)-1)≠0) (bif decide (b>=wrap .i64 (Int.tdiv 9223372036854775807 (wrap .i64 ((↑n:Int)-1)))) then .fail else .sem false (Builtin.len_ #[9] 3 #[.string j]) fun c=>.ui c fun b=>.ag [.int .i64 (wrap .i64 (0+wrap .i64 (b*wrap .i64 ((↑n:Int)-1))))]) else .ag [.int .i64 0]) (fun a=>.pi a fun b a=>.unNil a (.loop [b,.int .i64 0] (fun a=>.pi a fun b a=>.pi a fun g a=>.unNil a (bif decide (g<(↑n:Int)) then .need (0<=g/\g<(↑n:Int)) (.someA B fun e=>.loadStr (e.add (g.toNat*1)) fun d=>.sem false (Builtin.len_ #[9] 3 #[.string d]) fun c=>.ui c fun f=>bif decide (f>wrap .i64 (9223372036854775807-b)) then .fail else .sem false (Builtin.len_ #[9] 3 #[.string d]) fun c=>.ui c fun p=>.ag [.int .i64 (wrap .i64 (b+p)),.int .i64 (wrap .i64 (g+1))]) else .bk [b,g])) (fun a=>.pi a fun b a=>.pi a fun g a=>.unNil a (.new 80 #[.pointer none,.slice none 0 0] fun i=>.cl 85 #[.pointer (some ⟨i,0,none⟩),b] fun c=>.unTup c fun m=>.unNil m (.need ((0:Int)<=0/\0<(↑n:Int)) (.someA B fun e=>.loadStr (e.add 0) fun d=>.cT 35 #[.pointer (some ⟨i,0,none⟩),.string d] fun c a=>.ui c fun b=>.unCons a fun c a=>.unNil a (.sem false (Instr.sliceAt 81 (.slice B n o) (some (.int .i64 1)) none none) fun q=>.unS q fun e b r=>.loop [.int .i64 0] (fun a=>.pi a fun f a=>.unNil a (bif decide (f<(↑b:Int)) then .need (0<=f/\f<(↑b:Int)) (.someA e fun e=>.loadStr (e.add (f.toNat*1)) fun d=>.cT 35 #[.pointer (some ⟨i,0,none⟩),.string j] fun c a=>.ui c fun b=>.unCons a fun c a=>.unNil a (.cT 35 #[.pointer (some ⟨i,0,none⟩),.string d] fun c a=>.ui c fun b=>.unCons a fun c a=>.unNil a (.ag [.int .i64 (wrap .i64 (f+1))]))) else .bk [f])) (fun a=>.pi a fun b a=>.unNil a (.cl 41 #[.pointer (some ⟨i,0,none⟩)] fun c=>.unStr c fun d=>.rt (.string d))) (fun a=>.pi a fun b a=>.unNil a (.rt (.string { data:=#[] }))) fun k l=>.fail))))) (fun a=>.pi a fun b a=>.pi a fun b a=>.unNil a (.rt (.string { data:=#[] }))) fun k l=>.fail)) (fun a=>.pi a fun b a=>.unNil a (.rt (.string { data:=#[] }))) fun k l=>.fail):=fk [] [⟨1,[(5,.int .i64),(41,.int .i64)],[],[],[],[]⟩,⟨3,[(65,.int .i64)],[],[],[],[]⟩] [⟨11,[(5,.int .i64)],[],[],[],[]⟩] Tryz.f36
theorem w3720:FX X 40 #[.pointer B] h A (.someA B fun a=>.loadS (a.add 1) fun d b c=>.rt (.int .i64 (↑b:Int))):=fk [] [] [] Tryz.f40
theorem w3721:FX X 41 #[.pointer B] h A (.someA B fun b=>.loadS (b.add 1) fun e d c=>.someA B fun a=>.loadS (a.add 1) fun j f i=>.sem false (Builtin.unsafeSliceData_ #[78] 162 #[.slice e d c]) fun g=>.nd (.int .i64 (↑f:Int)) (.loadS (a.add 1) fun e d c=>.ne (.slice e d c) (.slice j f i) (.nO (a.add 1) (.someA B fun k=>.nq k a (.nds [.val (.pointer B),.O (b.add 1)] (.someA B fun l=>.nq l b (.nd (.pointer B) (.sem false (Builtin.unsafeString_ #[162,3] 9 #[g,.int .i64 (↑f:Int)]) fun g=>.unStr g fun o=>.loadS (a.add 1) fun e d c=>.ne (.slice e d c) (.slice j f i) (.nO (a.add 1) (.someA B fun m=>.nq m a (.nds [.val (.pointer B),.O (b.add 1)] (.someA B fun n=>.nq n b (.nd (.pointer B) (.rt (.string o))))))))))))))):=fk [] [] [] Tryz.f41
theorem w3739:FX X 84 #[.pointer B] h A (.someA B fun a=>.loadP (a.add 0) fun c=>.sem false (Sem.bind (eqGuard BinOp.eql 77 (Operand.tmp 5) (Operand.const (.pointer none)) (.pointer c) (.pointer none)) fun d=>binOp BinOp.eql 77 (.pointer c) (.pointer none)) fun b=>.unB b fun f=>bif f then .sem false (convert 77 231 (.pointer B)) fun b=>.unP b fun a=>.callv false (.func (Fn.func 146) #[] #[]) #[.pointer a] fun b=>.unP b fun a=>.sem false (convert 231 77 (.pointer a)) fun b=>.unP b fun a=>.someA B fun e=>.store ((e.add 0).add 0) (.pointer a) (.rt (.tuple #[])) else .someA B fun a=>.loadP (a.add 0) fun c=>.sem false (Sem.bind (eqGuard BinOp.neq 77 (Operand.tmp 17) (Operand.tmp 18) (.pointer c) (.pointer B)) fun d=>binOp BinOp.neq 77 (.pointer c) (.pointer B)) fun b=>.unB b fun B=>bif B then .fail else .rt (.tuple #[])):=fk [] [] [] Tryz.f84
theorem w3740:FX X 85 #[.pointer B,a] h A (.cl 84 #[.pointer B] fun b=>.unTup b fun f=>.unNil f (.blk (bif decide (a<0) then .fail else .ag []) (fun j=>.unNil j (.someA B fun d=>.loadS (d.add 1) fun i n e=>.someA B fun c=>.loadS (c.add 1) fun q g m=>.sem false (Builtin.cap_ #[78] 3 #[.slice i n e]) fun b=>.ui b fun o=>.nds [a,.val (.int .i64 (↑g:Int))] (.loadS (c.add 1) fun i p e=>.ne (.slice i p e) (.slice q g m) (.nO (c.add 1) (.someA B fun k=>.nq k c (.nds [.val (.pointer B),.O (d.add 1)] (.someA B fun l=>.nq l d (.nd (.pointer B) (bif decide (wrap .i64 (o-(↑g:Int))<a) then .cl 147 #[.pointer B,a] fun b=>.unTup b fun f=>.unNil f (.rt (.tuple #[])) else .rt (.tuple #[])))))))))) (fun j=>.unNil j (.rt (.tuple #[]))) fun r s=>.fail)):=fk [] [] [⟨3,[],[],[],[],[]⟩] Tryz.f85
theorem w3766:FX X 147 #[.pointer B,a] h A (.someA B fun b=>.loadS (b.add 1) fun d x e=>.someA B fun c=>.loadS (c.add 1) fun k f i=>.sem false (Builtin.cap_ #[78] 3 #[.slice d x e]) fun g=>.ui g fun j=>.nd (.int .i64 (↑f:Int)) (.loadS (c.add 1) fun d y e=>.ne (.slice d y e) (.slice k f i) (.nO (c.add 1) (.someA B fun n=>.nq n c (.nds [.val (.pointer B),a,.O (b.add 1)] (.someA B fun o=>.nq o b (.nd (.pointer B) (.callv false (.func (Fn.func 172) #[] #[]) #[.int .i64 (wrap .i64 (wrap .i64 (2*j)+a))] fun g=>.unS g fun p z e=>.nds [.val (.int .i64 (wrap .i64 (2*j))),.val (.int .i64 (↑f:Int))] (.loadS (c.add 1) fun d C u=>.ne (.slice d C u) (.slice k f i) (.nO (c.add 1) (.someA B fun q=>.nq q c (.nds [.val (.pointer B),a,.O (b.add 1)] (.someA B fun r=>.nq r b (.nd (.pointer B) (.sem false (Instr.sliceAt 78 (.slice p z e) none (some (.int .i64 (↑f:Int))) none) fun E=>.unS E fun l m e=>.nd (.int .i64 (wrap .i64 (2*j))) (.loadS (c.add 1) fun d D v=>.ne (.slice d D v) (.slice k f i) (.nO (c.add 1) (.someA B fun s=>.nq s c (.nds [.val (.pointer B),a,.O (b.add 1)] (.someA B fun t=>.nq t b (.nd (.pointer B) (.someA B fun b=>.loadS (b.add 1) fun d a w=>.sem false (Builtin.copy_ #[78,78] 3 #[.slice l m e,.slice d a w]) fun g=>.someA B fun b=>.store ((b.add 1).add 0) (.slice l m e) (.rt (.tuple #[])))))))))))))))))))))))):=fk [] [] [] Tryz.f147
theorem w3726{a:ByteArray}:FX X 47 #[.string a] h A (.new 9 #[.string a] fun b=>.rt (.func (Fn.func 93) #[] #[.pointer (some ⟨b,0,none⟩)])):=fk [] [] [] Tryz.f47
theorem w3743{k:Value}{c:Addr}:FX X 93 #[k,.pointer (some c)] h A (.loop [] (fun j=>.unNil j (.loadStr c fun b=>.sem false (Builtin.len_ #[9] 3 #[.string b]) fun d=>.ui d fun a=>bif decide (a>0) then .loadStr c fun b=>.cI 94 #[.string b,.int .u8 10] fun a=>bif decide (a>=0) then .loadStr c fun b=>.loadStr c fun g=>.both (.sem false (Instr.sliceAt 9 (.string b) none (some (.int .i64 (wrap .i64 (a+1)))) none) fun e=>.unStr e fun b=>.nds [.val (.int .i64 (wrap .i64 (a+1))),a] (.loadStr c fun l=>.ne (.string l) (.string g) (.nd a (.both (.sem false (Instr.sliceAt 9 (.string g) (some (.int .i64 (wrap .i64 (a+1)))) none none) fun e=>.unStr e fun i=>.nds [a,a,a] (.store (c.add 0) (.string i) (.callv false k #[.string b] fun d=>.unB d fun f=>bif !f then .rn [] else .ag []))) (.nds [.val (.int .i64 (wrap .i64 (a+1))),a] (.loadStr c fun i=>.ne (.string i) (.string g) (.sem false (Instr.sliceAt 9 (.string g) (some (.int .i64 (wrap .i64 (a+1)))) none none) fun e=>.unStr e fun m=>.nd a (.store (c.add 0) (.string m) (.callv false k #[.string b] fun d=>.unB d fun f=>bif !f then .rn [] else .ag []))))))))) (.sem false (Instr.sliceAt 9 (.string g) (some (.int .i64 (wrap .i64 (a+1)))) none none) fun e=>.unStr e fun l=>.nds [a,.val (.int .i64 (wrap .i64 (a+1))),a] (.loadStr c fun i=>.ne (.string i) (.string b) (.sem false (Instr.sliceAt 9 (.string b) none (some (.int .i64 (wrap .i64 (a+1)))) none) fun e=>.unStr e fun b=>.nds [a,a,a] (.store (c.add 0) (.string l) (.callv false k #[.string b] fun d=>.unB d fun f=>bif !f then .rn [] else .ag []))))) else .loadStr c fun b=>.store (c.add 0) (.string { data:=#[] }) (.callv false k #[.string b] fun d=>.unB d fun f=>bif !f then .rn [] else .ag []) else .bk [])) (fun j=>.unNil j (.rt (.tuple #[]))) (fun j=>.unNil j (.rt (.tuple #[]))) fun n o=>.fail):=fk [] [⟨0,[],[],[],[],[]⟩] [] Tryz.f93
theorem w3728{a:ByteArray}{b:ByteArray}:FX X 49 #[.string a,.string b] h A (.cl 103 #[.string a,.string b] fun c=>.unStr c fun a=>.rt (.string a)):=fk [] [] [] Tryz.f49
theorem w3752{a:ByteArray}{b:ByteArray}:FX X 103 #[.string a,.string b] h A (.cB 157 #[.string a,.string b] fun d=>bif d then .sem false (Builtin.len_ #[9] 3 #[.string a]) fun c=>.ui c fun e=>.sem false (Builtin.len_ #[9] 3 #[.string b]) fun c=>.ui c fun f=>.sem false (Instr.sliceAt 9 (.string a) none (some (.int .i64 (wrap .i64 (e-f)))) none) fun g=>.unStr g fun a=>.rt (.string a) else .rt (.string a)):=fk [] [] [] Tryz.f103
theorem w3744{c:ByteArray}{d:ByteArray}:FX X 95 #[.string c,.string d] h A (.cT 152 #[.string c,.string d] fun a b=>.unStr a fun c=>.unCons b fun a b=>.unStr a fun f=>.unCons b fun a b=>.unB a fun e=>.unNil b (.rt (.tuple #[.string c,.string f,e]))):=fk [] [] [] Tryz.f95
theorem w3768{a:ByteArray}{f:ByteArray}:FX X 152 #[.string a,.string f] h A (.cI 175 #[.string a,.string f] fun b=>bif decide (b>=0) then .both (.sem false (Instr.sliceAt 9 (.string a) none (some (.int .i64 b)) none) fun c=>.unStr c fun e=>.nds [.val (.string f),b,.val (.string a)] (.both (.sem false (Builtin.len_ #[9] 3 #[.string f]) fun g=>.ui g fun d=>.nds [b,.val (.string a)] (.both (.sem false (Instr.sliceAt 9 (.string a) (some (.int .i64 (wrap .i64 (b+d)))) none none) fun c=>.unStr c fun a=>.nds [b,b] (.rt (.tuple #[.string e,.string a,true]))) (.nds [.val (.int .i64 (wrap .i64 (b+d))),b,.val (.string a)] (.sem false (Instr.sliceAt 9 (.string a) (some (.int .i64 (wrap .i64 (b+d)))) none none) fun c=>.unStr c fun a=>.nd b (.rt (.tuple #[.string e,.string a,true])))))) (.nds [.val (.string f),b,.val (.string a)] (.sem false (Builtin.len_ #[9] 3 #[.string f]) fun g=>.ui g fun d=>.nds [b,.val (.string a)] (.sem false (Instr.sliceAt 9 (.string a) (some (.int .i64 (wrap .i64 (b+d)))) none none) fun c=>.unStr c fun a=>.nd b (.rt (.tuple #[.string e,.string a,true]))))))) (.sem false (Builtin.len_ #[9] 3 #[.string f]) fun g=>.ui g fun d=>.nds [b,.val (.string a),b,.val (.string a)] (.both (.sem false (Instr.sliceAt 9 (.string a) none (some (.int .i64 b)) none) fun c=>.unStr c fun e=>.nds [.val (.int .i64 (wrap .i64 (b+d))),b,.val (.string a)] (.both (.sem false (Instr.sliceAt 9 (.string a) (some (.int .i64 (wrap .i64 (b+d)))) none none) fun c=>.unStr c fun a=>.nds [b,b] (.rt (.tuple #[.string e,.string a,true]))) (.nds [.val (.int .i64 (wrap .i64 (b+d))),b,.val (.string a)] (.sem false (Instr.sliceAt 9 (.string a) (some (.int .i64 (wrap .i64 (b+d)))) none none) fun c=>.unStr c fun a=>.nd b (.rt (.tuple #[.string e,.string a,true])))))) (.sem false (Instr.sliceAt 9 (.string a) (some (.int .i64 (wrap .i64 (b+d)))) none none) fun c=>.unStr c fun e=>.nds [b,b,.val (.string a)] (.sem false (Instr.sliceAt 9 (.string a) none (some (.int .i64 b)) none) fun c=>.unStr c fun a=>.nds [b,b] (.rt (.tuple #[.string a,.string e,true])))))) else .rt (.tuple #[.string a,.string { data:=#[] },false])):=fk [] [] [] Tryz.f152
theorem w3745{a:ByteArray}{d:ByteArray}:FX X 96 #[.string a,.string d] h A (.cT 153 #[.string a,.string d] fun b c=>.unStr b fun a=>.unCons c fun b c=>.unB b fun e=>.unNil c (.rt (.tuple #[.string a,e]))):=fk [] [] [] Tryz.f96
theorem w3769{a:ByteArray}{b:ByteArray}:FX X 153 #[.string a,.string b] h A (.cB 157 #[.string a,.string b] fun d=>bif !d then .rt (.tuple #[.string a,false]) else .sem false (Builtin.len_ #[9] 3 #[.string a]) fun c=>.ui c fun e=>.sem false (Builtin.len_ #[9] 3 #[.string b]) fun c=>.ui c fun f=>.sem false (Instr.sliceAt 9 (.string a) none (some (.int .i64 (wrap .i64 (e-f)))) none) fun g=>.unStr g fun a=>.rt (.tuple #[.string a,true])):=fk [] [] [] Tryz.f153
theorem w3772{b:ByteArray}{c:ByteArray}:FX X 157 #[.string b,.string c] h A (.sem false (Builtin.len_ #[9] 3 #[.string b]) fun a=>.ui a fun d=>.sem false (Builtin.len_ #[9] 3 #[.string c]) fun a=>.ui a fun f=>bif decide (d>=f) then .sem false (Builtin.len_ #[9] 3 #[.string b]) fun a=>.ui a fun d=>.sem false (Builtin.len_ #[9] 3 #[.string c]) fun a=>.ui a fun g=>.sem false (Instr.sliceAt 9 (.string b) (some (.int .i64 (wrap .i64 (d-g)))) none none) fun i=>.unStr i fun b=>.sem false (Sem.bind (eqGuard BinOp.eql 9 (Operand.tmp 17) (Operand.tmp 18) (.string b) (.string c)) fun j=>binOp BinOp.eql 9 (.string b) (.string c)) fun a=>.unB a fun e=>.rt (.bool e) else .rt (.bool false)):=fk [] [] [] Tryz.f157
theorem w3746{a:ByteArray}{b:ByteArray}:FX X 97 #[.string a,.string b] h A (.cl 154 #[.string a,.string b,.int .i64 0,.int .i64 (-1)] fun f=>.unS f fun c e d=>.rt (.slice c e d)):=fk [] [] [] Tryz.f97
theorem w3770{d:ByteArray}{j:ByteArray}:FX X 154 #[.string d,.string j,a,b] h A (bif b==0 then .rt (.slice none 0 0) else .sem false (Sem.bind (eqGuard BinOp.eql 9 (Operand.tmp 14) (Operand.const (.string { data:=#[] })) (.string j) (.string { data:=#[] })) fun t=>binOp BinOp.eql 9 (.string j) (.string { data:=#[] })) fun f=>.unB f fun o=>bif o then .cl 176 #[.string d,b] fun f=>.unS f fun e b k=>.rt (.slice e b k) else .blk (bif decide (b<0) then .cI 177 #[.string d,.string j] fun b=>.ag [.int .i64 (wrap .i64 (b+1))] else .ag [b]) (fun c=>.pi c fun b c=>.unNil c (.sem false (Builtin.len_ #[9] 3 #[.string d]) fun f=>.ui f fun i=>.sem false (Instr.makeSlice 81 (.int .i64 (if wrap .i64 (i+1)<b then wrap .i64 (i+1) else b)) (.int .i64 (if wrap .i64 (i+1)<b then wrap .i64 (i+1) else b))) fun f=>.unS f fun e m k=>.loop [.string d,.int .i64 0] (fun c=>.popStr c fun d c=>.pi c fun g c=>.unNil c (bif decide (g<wrap .i64 ((if wrap .i64 (i+1)<b then wrap .i64 (i+1) else b)-1)) then .cI 178 #[.string d,.string j] fun b=>bif decide (b<0) then .bk [.string d,g] else .sem false (Instr.sliceAt 9 (.string d) none (some (.int .i64 (wrap .i64 (b+a)))) none) fun l=>.unStr l fun q=>.need (0<=g/\g<(↑m:Int)) (.someA e fun e=>.store ((e.add (g.toNat*1)).add 0) (.string q) (.sem false (Builtin.len_ #[9] 3 #[.string j]) fun f=>.ui f fun p=>.sem false (Instr.sliceAt 9 (.string d) (some (.int .i64 (wrap .i64 (b+p)))) none none) fun l=>.unStr l fun d=>.ag [.string d,.int .i64 (wrap .i64 (g+1))])) else .bk [.string d,g])) (fun c=>.popStr c fun d c=>.pi c fun b c=>.unNil c (.need (0<=b/\b<(↑m:Int)) (.someA e fun n=>.store ((n.add (b.toNat*1)).add 0) (.string d) (.sem false (Instr.sliceAt 81 (.slice e m k) none (some (.int .i64 (wrap .i64 (b+1)))) none) fun l=>.unS l fun e b k=>.rt (.slice e b k))))) (fun c=>.popStr c fun d c=>.pi c fun b c=>.unNil c (.rt (.slice none 0 0))) fun r s=>.fail)) (fun c=>.pi c fun b c=>.unNil c (.rt (.slice none 0 0))) fun r s=>.fail):=fk [] [⟨0,[(0,.str),(10,.int .i64)],[],[],[],[]⟩] [⟨7,[(3,.int .i64)],[],[],[],[]⟩] Tryz.f154
theorem w3776{d:ByteArray}{g:ByteArray}:FX X 175 #[.string d,.string g] h A (.sem false (Builtin.len_ #[9] 3 #[.string g]) fun c=>.ui c fun b=>.blk (.blk (bif b==0 then .ag [true] else .sem false (Sem.bind (eqGuard BinOp.eql 9 (Operand.tmp 20) (Operand.tmp 21) (.string g) (.string d)) fun u=>binOp BinOp.eql 9 (.string g) (.string d)) fun c=>.unB c fun i=>.ag [i]) (fun a=>.popB a fun i a=>.unNil a (bif i then .rn [.int .i64 0] else bif b==1 then .sem false (Instr.index 9 (.string g) (.int .i64 0)) fun c=>.unI .u8 c fun b=>.cI 151 #[.string d,.int .u8 b] fun b=>.rn [b] else .sem false (Builtin.len_ #[9] 3 #[.string d]) fun c=>.ui c fun r=>bif decide (b>=r) then .rn [.int .i64 (-1)] else .li { block:=4,off:=0 } fun p=>bif decide (b<=p) then .sem false (Builtin.len_ #[9] 3 #[.string d]) fun c=>.ui c fun b=>bif decide (b<=64) then .callv false (.func (Fn.func 202) #[] #[]) #[.string d,.string g] fun c=>.ui c fun b=>.rn [b] else .ag [.int .i64 0] else .ag [.int .i64 0])) (fun a=>.popB a fun i a=>.unNil a (.rn [.int .i64 0])) fun n o=>.fail) (fun a=>.pi a fun r a=>.unNil a (.sem false (Instr.index 9 (.string g) (.int .i64 0)) fun c=>.unI .u8 c fun p=>.sem false (Instr.index 9 (.string g) (.int .i64 1)) fun c=>.unI .u8 c fun v=>.sem false (Builtin.len_ #[9] 3 #[.string d]) fun c=>.ui c fun t=>.loop [r,.int .i64 0,.int .i64 0] (fun a=>.pi a fun q a=>.pi a fun j a=>.pi a fun f a=>.unNil a (bif decide (j<wrap .i64 (wrap .i64 (t-b)+1)) then .blk (.sem false (Instr.index 9 (.string d) (.int .i64 j)) fun c=>.unI .u8 c fun m=>bif m != p then .sem false (Instr.sliceAt 9 (.string d) (some (.int .i64 (wrap .i64 (j+1)))) (some (.int .i64 (wrap .i64 (wrap .i64 (t-b)+1)))) none) fun k=>.unStr k fun d=>.cI 151 #[.string d,.int .u8 p] fun b=>bif decide (b<0) then .rn [.int .i64 (-1),j] else .ag [q,.int .i64 (wrap .i64 (j+wrap .i64 (b+1)))] else .ag [q,j]) (fun a=>.pi a fun m a=>.pi a fun e a=>.unNil a (.blk (.sem false (Instr.index 9 (.string d) (.int .i64 (wrap .i64 (e+1)))) fun c=>.unI .u8 c fun l=>bif l==v then .sem false (Instr.sliceAt 9 (.string d) (some (.int .i64 e)) (some (.int .i64 (wrap .i64 (e+b)))) none) fun k=>.unStr k fun d=>.sem false (Sem.bind (eqGuard BinOp.eql 9 (Operand.tmp 90) (Operand.tmp 91) (.string d) (.string g)) fun u=>binOp BinOp.eql 9 (.string d) (.string g)) fun c=>.unB c fun i=>bif i then .rn [e] else .ag [m] else .ag [m]) (fun a=>.pi a fun l a=>.unNil a (.blk (.li { block:=4,off:=0 } fun s=>bif decide (b<=s) then .cI 203 #[.int .i64 (wrap .i64 (e+1))] fun b=>.ag [.bool (decide (wrap .i64 (f+1)>b))] else .ag [false]) (fun a=>.popB a fun i a=>.unNil a (bif i then .sem false (Instr.sliceAt 9 (.string d) (some (.int .i64 (wrap .i64 (e+1)))) none none) fun k=>.unStr k fun d=>.callv false (.func (Fn.func 202) #[] #[]) #[.string d,.string g] fun c=>.ui c fun b=>bif decide (b>=0) then .rn [.int .i64 (wrap .i64 (b+wrap .i64 (e+1))),.int .i64 (wrap .i64 (e+1)),.int .i64 (wrap .i64 (f+1))] else .rn [.int .i64 (-1),.int .i64 (wrap .i64 (e+1)),.int .i64 (wrap .i64 (f+1))] else .li { block:=4,off:=0 } fun s=>bif decide (b>s) then .need ((0:Int)<=4) (bif decide (wrap .i64 (f+1)>=wrap .i64 (4+Int.fdiv (wrap .i64 (e+1)) (2^4))) then bif decide (wrap .i64 (e+1)<wrap .i64 (wrap .i64 (t-b)+1)) then .sem false (Instr.sliceAt 9 (.string d) (some (.int .i64 (wrap .i64 (e+1)))) none none) fun k=>.unStr k fun d=>.cI 204 #[.string d,.string g] fun b=>bif decide (b<0) then .rn [.int .i64 (-1),.int .i64 (wrap .i64 (e+1)),.int .i64 (wrap .i64 (f+1))] else .rn [.int .i64 (wrap .i64 (wrap .i64 (e+1)+b)),.int .i64 (wrap .i64 (e+1)),.int .i64 (wrap .i64 (f+1))] else .ag [l,.int .i64 (wrap .i64 (e+1)),.int .i64 (wrap .i64 (f+1))] else .ag [l,.int .i64 (wrap .i64 (e+1)),.int .i64 (wrap .i64 (f+1))]) else .ag [l,.int .i64 (wrap .i64 (e+1)),.int .i64 (wrap .i64 (f+1))])) (fun a=>.popB a fun i a=>.unNil a (.rn [l,.int .i64 (wrap .i64 (e+1)),.int .i64 (wrap .i64 (f+1))])) fun n o=>.fail)) (fun a=>.pi a fun b a=>.unNil a (.rn [b,e,f])) fun n o=>.fail)) (fun a=>.pi a fun b a=>.pi a fun m a=>.unNil a (.rn [b,m,f])) fun n o=>.fail else .bk [q,j,f])) (fun a=>.pi a fun b a=>.pi a fun b a=>.pi a fun b a=>.unNil a (.rt (.int .i64 (-1)))) (fun a=>.pi a fun b a=>.pi a fun q a=>.pi a fun j a=>.unNil a (.rt (.int .i64 b))) fun n o=>.fail)) (fun a=>.pi a fun b a=>.unNil a (.rt (.int .i64 b))) fun n o=>.fail):=fk [] [⟨1,[(4,.int .i64),(8,.int .i64),(10,.int .i64)],[],[],[],[]⟩] [⟨2000016,[(16,.bool)],[],[],[],[]⟩,⟨2000107,[(107,.bool)],[],[],[],[]⟩,⟨23,[(4,.int .i64)],[],[],[],[]⟩,⟨21,[(4,.int .i64),(8,.int .i64)],[],[],[],[]⟩,⟨10,[(4,.int .i64)],[],[],[],[]⟩] Tryz.f175
theorem w3778{c:ByteArray}{e:ByteArray}:FX X 177 #[.string c,.string e] h A (.sem false (Builtin.len_ #[9] 3 #[.string e]) fun d=>.ui d fun b=>bif b==0 then .cI 205 #[.string c] fun b=>.rt (.int .i64 (wrap .i64 (b+1))) else .sem false (Builtin.len_ #[9] 3 #[.string e]) fun d=>.ui d fun b=>bif b==1 then .sem false (Instr.index 9 (.string e) (.int .i64 0)) fun d=>.unI .u8 d fun b=>.callv false (.func (Fn.func 207) #[] #[]) #[.string c,.int .u8 b] fun d=>.ui d fun b=>.rt (.int .i64 b) else .loop [.string c,.int .i64 0,.int .i64 0] (fun a=>.popStr a fun c a=>.pi a fun b a=>.pi a fun f a=>.unNil a (.cI 178 #[.string c,.string e] fun g=>bif g==-1 then .rn [.string c,f,f] else .sem false (Builtin.len_ #[9] 3 #[.string e]) fun d=>.ui d fun i=>.sem false (Instr.sliceAt 9 (.string c) (some (.int .i64 (wrap .i64 (g+i)))) none none) fun j=>.unStr j fun c=>.ag [.string c,b,.int .i64 (wrap .i64 (f+1))])) (fun a=>.popStr a fun c a=>.pi a fun b a=>.pi a fun f a=>.unNil a (.rt (.int .i64 b))) (fun a=>.popStr a fun c a=>.pi a fun b a=>.pi a fun f a=>.unNil a (.rt (.int .i64 b))) fun k l=>.fail):=fk [] [⟨0,[(0,.str),(4,.int .i64),(5,.int .i64)],[],[],[],[]⟩] [] Tryz.f177
theorem w3779{a:ByteArray}{b:ByteArray}:FX X 178 #[.string a,.string b] h A (.cI 175 #[.string a,.string b] fun c=>.rt (.int .i64 c)):=fk [] [] [] Tryz.f178
end Go.Y
end
section
namespace Go.TM.Tp
section
variable {P:Program} {E:Halt->Cells->Prop} {h:Cells}
theorem D9{Q:Bool->Cells->Prop}{t te:TypeId}{j:TypeInfo}{d:Nat}{a b:Option Addr}(g:P.underlying t=some (.pointer te))(f:P.info? te=some j)(h0:j.size≠0)(c:a=none\/b=none\/a=b)(e:Q (decide (a=b)) h):Qd P (Op.equalIn (d+1) t (.pointer a) (.pointer b)) Q E h:=by
 unfold Op.equalIn;simp only[lwp_bind,Qc g];cases a with
 | none =>
  simp only[Qg];cases b<;>simpa using e
 | some a =>
  cases b with
  | none=>simp only[Qg];simpa using e
  | some b =>
   have:a=b:=by
    rcases c with h|h|h
    ·cases h
    ·cases h
    ·exact Option.some.inj h
   subst this;simp only[lwp_bind,Qy f];rw[if_pos h0];unfold sameAddr;simp only[beq_self_eq_true,if_true,Qg];simpa using e
end
section
variable {X:XP} {P:Program} {Q:Leaf->LH->Prop}
variable {h:LH}{K:Value->T}{t te:TypeId}{x y:Operand}{a b:Option Addr}
theorem t_eqP{j:TypeInfo}(f:P.underlying t=some (.pointer te))(d:P.info? te=some j)(h0:j.size≠0)(c:a=none\/b=none\/a=b)(e:(K (.bool (decide (a=b)))).wp X P Q h) :
  (T.sem false (Sem.bind (eqGuard .eql t x y (.pointer a) (.pointer b)) fun _=>binOp .eql t (.pointer a) (.pointer b)) K).wp X P Q h:=by
 refine Q9 (A:=fun w h'=>w=.bool (decide (a=b))/\h'=h.get) (Qu _ _ ?_) (by rintro w h' ⟨rfl,rfl⟩;exact e);unfold eqGuard;simp only[Bool.not_true,Bool.false_eq_true,if_false,Qg];unfold binOp;simp only[lwp_bind];exact D9 f d h0 c ⟨rfl,rfl⟩
theorem t_neP{j:TypeInfo}(f:P.underlying t=some (.pointer te))(d:P.info? te=some j)(h0:j.size≠0)(c:a=none\/b=none\/a=b)(e:(K (.bool (!decide (a=b)))).wp X P Q h) :
  (T.sem false (Sem.bind (eqGuard .neq t x y (.pointer a) (.pointer b)) fun _=>binOp .neq t (.pointer a) (.pointer b)) K).wp X P Q h:=by
 refine Q9 (A:=fun w h'=>w=.bool (!decide (a=b))/\h'=h.get) (Qu _ _ ?_) (by rintro w h' ⟨rfl,rfl⟩;exact e);unfold eqGuard;simp only[Bool.not_true,Bool.false_eq_true,if_false,Qg];unfold binOp;simp only[lwp_bind];exact D9 f d h0 c ⟨rfl,rfl⟩
end
end Go.TM.Tp
end
namespace Go.TM
section
variable {P:Program}
variable {f:FuncId}{first args cap hargs:Array Value}{s:Script}{h:LH}{a k:Cells}{c:Nat}{v:Value}{last:Bool}{Q:Value->LH->Prop}
theorem spawn_wk{hc:Cells}(e:s≠[])(m:(first++args)++cap=hargs)(c:FWK XW P .deferred f hargs ⟨hc,[],[],s⟩ fun _ _=>False) :
  Wk P (G (baseOf P [deferOf (.func (.func f) first cap) args]) []) ⟨hc,[],[],s⟩:=by
 obtain⟨⟨fn,n,hb,b⟩,j⟩:=c;have hgo:=j false _ (wk_closed P) [baseOf P []] (.inr ⟨rfl,rfl⟩) (fun _ _ _ _ _ _ _ o=>o.elim) rfl e;have k:fn.body.isNone=false:=by cases h:fn.body<;>simp_all
 refine .step (N:=fun g h=>g=G (Frame.enter P f hargs .deferred) [baseOf P []]/\h=⟨hc,[],[],s⟩) e ?_ ?_
 ·intro w d;refine⟨_,w,#[],hc,?_,Tr.refl d,by simp,rfl,rfl⟩;have a:(callFunc f hargs).runT P w #[]=(.ok (.enter f hargs) w,#[]):=by
   show ((program).bind _).runT P w #[]=_;simp only[program,Sem.bind,Sem.runT,n,b,k,Bool.false_eq_true,if_false];rfl
  have p:(callFunc f hargs).run P w=.ok (.enter f hargs) w:=by rw[<- Sem.runT_fst _ _ _ #[],a]
  have q:(callFunc f hargs).events P w #[]=#[]:=by show ((callFunc f hargs).runT P w #[]).2=_;rw[a]
  have hinv:invoke (deferOf (.func (.func f) first cap) args).target (deferOf (.func (.func f) first cap) args).args=callFunc f hargs:=by rw[<- m];rfl
  have i:((deferOf (.func (.func f) first cap) args).target matches .nil)=false:=rfl;have l:∀ fr cs,callDeferred P fr cs none (deferOf (.func (.func f) first cap) args) w=.go (G (Frame.enter P f hargs .deferred) (fr::cs)) w (seen P fr.fn #[]):=by
   intro fr cs;unfold callDeferred;simp only[hinv,i,Bool.false_and,Bool.false_eq_true,if_false,a];rfl
  show unwind P false (baseOf P [deferOf (.func (.func f) first cap) args]) [] none w=_;unfold unwind;simp only[baseOf,deferOf];exact l _ _
 ·rintro _ _ ⟨rfl,rfl⟩;exact hgo
theorem spawnW{Q:LH->Prop}(F:Nat->Bool)(hc:Cells)(s:Script)(g:s≠[])(q:(first++args)++cap=hargs)(l:∀ r x,hc r=some x->x.1=false/\freezeC F h.get r=some x)
 (j:[]∉h.pend)(i:∀ y∈s,y.1∈h.chans)(c:FWK XW P .deferred f hargs ⟨hc,[],[],s⟩ fun _ _=>False)(o:Q { h with get:=freezeC F h.get,pend:=h.pend++[s] }):SpawnW XT P (.func (.func f) first cap) args h Q:=by
 intro main R p fr cs _ _ m k d t;obtain⟨rfl,_,n,_,_⟩:=p.2;refine n fr cs (h.add k) (fun r=>F r&&(h.get r).isSome) hc _ s ⟨m⟩ ?_ g j i (spawn_wk g q c) ?_
 ·intro r x u;obtain⟨a,b⟩:=l r x u;refine⟨a,?_⟩;show freezeC _ (h.get.add k) r=_;rw[W0];exact Qn b
 ·have e:freezeC (fun r=>F r&&(h.get r).isSome) (h.add k).get=(freezeC F h.get).add k:=W0 F h.get k;rw[e];refine t { h with get:=freezeC F h.get,pend:=h.pend++[s] } ?_ o;intro r;rcases d r with hr|hr
  ·left;simp only[freezeC,hr]
  ·exact .inr hr
theorem drop_add(b:k c=none):dropC (a.add k) c=(dropC a c).add k:=by
 funext r;unfold dropC Cells.add;by_cases e:r=c
 ·subst e;simp[b]
 ·simp[e]
theorem upd_add{x:Bool×Obj}:(a.add k).upd c x=(a.upd c x).add k:=by
 funext r;unfold Cells.upd Cells.add;by_cases e:r=c<;>simp[e]
theorem Disj.drop(d:Disj a k)(c:Nat):Disj (dropC a c) k:=by
 intro r;rcases d r with hr|hr
 ·left;unfold dropC;split
  ·rfl
  ·exact hr
 ·exact .inr hr
theorem SpawnW.opened{Q:LH->Prop}(e:[]∉h.pend)(c s:Nat)(j:h.get c=some (true,.chan 0 #[] false s s false))(l:SpawnW XT P v args { h with get:=dropC h.get c,chans:=c::h.chans } Q):SpawnW XT P v args h Q:=by
 intro main R i fr cs b a g k d m;have f:k c=none:=by
  rcases d c with h'|h'
  ·rw[j]at h';cases h'
  ·exact h'
 refine i.2.2.2.2.1 _ (h.add k) c s e (Qn j) ?_;have:=l main R i fr cs b a g k (d.drop c) m;unfold LH.add at this ⊢;simp only[drop_add f];exact this
theorem commW_recv{cases:Array CommCase}{shape:CommShape}(recv:∀ (k:Nat) (i:CommCase),cases[k]?=some i->∃ c z,i=rcase c z/\c∈h.chans)(some_:h.pend≠[])
 (heads:∀ s∈h.pend,∃ (c:Nat) (φ:Value->Cells->Prop) (t:Script) (k:Nat) (z:Value),s=(c,φ)::t/\cases[k]?=some (rcase c z))
 (n:∀ pre φ s post (k:Nat) c v hv z,h.pend=pre++((c,φ)::s)::post->cases[k]?=some (rcase c z)->Disj h.get hv->(∀ r x,hv r=some x->x.1=true)->φ v hv ->
   Q (commResult cases shape (k:Nat) v true) { h with get:=h.get.add hv,pend:=pre++cons' s post }):CommW XT P last cases shape h Q:=by
 intro main R o fr cs _ _ _ f k d p;obtain⟨rfl,m,_,_,_⟩:=o.2;refine m fr cs cases shape (h.add k) ⟨f,recv,some_,heads⟩ ?_;intro pre φ s post j c v hv z q a l b g;have d1:Disj h.get hv:=l.of_add_left;have d2:Disj k hv:=Q2 d l;have e:((h.get.add hv).add k)=((h.get.add k).add hv):=Q7 d2.symm;have:=p _ { h with get:=h.get.add hv,pend:=pre++cons' s post } (Disj.add d d2.symm) (n pre φ s post j c v hv z q a d1 b g);unfold LH.add at this;simp only[e]at this;exact this
theorem CommW.closed{cases:Array CommCase}{shape:CommShape}
 (p:CommW XT P last cases shape h fun v h'=>Q v h'\/∃ c∈h'.chans,h'.pend=[]/\∀ s,h'.get c=none->Q v { h' with get:=h'.get.upd c (true,.chan 0 #[] false s s false),chans:=h'.chans.filter (·≠c) }):CommW XT P last cases shape h Q:=by
 intro main R n fr cs g f q l k d o;refine p main R n fr cs g f q l k d ?_;rintro v h' m (j|⟨c,hc,t,j⟩)
 ·exact o v h' m j
 ·refine n.2.2.2.2.2 _ (h'.add k) c hc t ?_;intro a s;have b:h'.get c=none:=by
   cases u:h'.get c with
   | none=>rfl
   | some x=>rw[show (h'.add k).get c=some x from Qn u]at a;cases a
  have i:k c=none:=by
   have:=a;rw[show (h'.add k).get c=k c from Qw b]at this;exact this
  have d2:Disj (h'.get.upd c (true,.chan 0 #[] false s s false)) k:=by
   intro r;by_cases e:r=c
   ·right;rw[e];exact i
   ·rw[Qp _ _ e];exact m r
  have:=o v _ d2 (j s b);unfold LH.add at this ⊢;simp only[upd_add];exact this
theorem commW_send{z:Value}{φ:Value->Cells->Prop}{hv hr:Cells}(todo:h.todo=(c,φ)::s)(get:h.get=hv.add hr)(disj:Disj hv hr)(own:∀ r x,hv r=some x->x.1=true)
 (val:φ v hv)(p:s=[]->last=true)(m:s≠[]->Q undef { h with get:=hr,todo:=s }):CommW XW P last #[scase c v z] .send h Q:=by
 intro main R n fr cs f b a i k d o;obtain⟨rfl,l⟩:=n.2;have j:Sends P fr cs h c z v φ s hv hr:=⟨f,i,todo,get,disj,own,val⟩
 exact l fr cs (h.add k) c z v φ s hv (hr.add k) b (j.frame d) (fun e=>a (p e)) fun g=>o undef { h with get:=hr,todo:=s } (j.rest d) (m g)
end
section
variable {P:Program} {X:XP} {Q:Leaf->LH->Prop} {h:LH}
variable {t el:TypeId}{s b c n:Nat}{z:Option Value}{K:Value->T}{x y:Operand}{a:Option Addr}
theorem t_spawn{v:Value}{args:Array Value}{k:T}(a:SpawnW X P v args h fun h'=>k.wp X P Q h'):(T.spawn v args k).wp X P Q h:=a
theorem Yn{last:Bool}{cases:Array CommCase}{shape:CommShape}{k:Value->T}(hc:CommW X P last cases shape h fun v h'=>(k v).wp X P Q h'):(T.comm last cases shape k).wp X P Q h:=hc
theorem t_makeChan{d:ChanDir}(hu:P.underlying t=some (.chan d el))(c:(P.info? el).map (fun i=>(i.size,i.bytes,i.zero))=some (s,b,z))
 (f:∀ r,h.get r=none->(K (.chan (some r))).wp X P Q { h with get:=h.get.upd r (true,.chan 0 #[] false 0 0 false) }):(T.sem false (Instr.makeChan t (.int .i64 0)) K).wp X P Q h:=by
 obtain⟨inf,a,_,_,_⟩:=Zk c;refine Q9 (A:=fun v h'=>∃ r,h.get r=none/\v=.chan (some r)/\h'=h.get.upd r (true,.chan 0 #[] false 0 0 false)) ?_ (by rintro v h' ⟨r,hr,rfl,rfl⟩;exact f r hr);unfold Instr.makeChan;have e:IntKind.i64.max=9223372036854775807:=rfl;simp only[asInt,asIntOf,lwp_bind,Qg,Qc hu,Jq a];rw[if_neg (by rw[e];omega)];rw[lwp_bind];intro r hr;exact⟨r,hr,rfl,rfl⟩
theorem t_close{ts:Array TypeId}{ty:TypeId}(hc:h.get c=some (true,.chan 0 #[] false s s false))(a:(K (.tuple #[])).wp X P Q { h with get:=h.get.upd c (true,.chan 0 #[] true s s false) }):(T.sem false (Builtin.close_ ts ty #[.chan (some c)]) K).wp X P Q h:=by
 refine Q9 (A:=fun v h'=>v=.tuple #[]/\h'=h.get.upd c (true,.chan 0 #[] true s s false)) ?_ (by rintro v h' ⟨rfl,rfl⟩;exact a);change Qd P (getObj c >>= _) _ _ _;rw[lwp_bind];exact⟨_,_,hc,trivial,⟨_,hc,trivial⟩,rfl,rfl⟩
theorem t_eqNil(hu:P.underlying t=some (.slice el))(d:(K (.bool a.isNone)).wp X P Q h) :
  (T.sem false (Sem.bind (eqGuard .eql t x y (.slice a n c) (.slice none 0 0)) fun _=>binOp .eql t (.slice a n c) (.slice none 0 0)) K).wp X P Q h:=by
 refine Q9 (A:=fun w h'=>w=.bool a.isNone/\h'=h.get) (Qu _ _ ?_) (by rintro w h' ⟨rfl,rfl⟩;exact d);unfold eqGuard;simp only[Bool.not_true,Bool.false_eq_true,if_false,Qg];unfold binOp Op.equal;have b:Op.maxDepth=9999+1:=rfl;rw[lwp_bind,b,Op.equalIn,lwp_bind,Qc hu];cases a<;>exact⟨rfl,rfl⟩
theorem t_neNil(hu:P.underlying t=some (.slice el))(d:(K (.bool a.isSome)).wp X P Q h) :
  (T.sem false (Sem.bind (eqGuard .neq t x y (.slice a n c) (.slice none 0 0)) fun _=>binOp .neq t (.slice a n c) (.slice none 0 0)) K).wp X P Q h:=by
 refine Q9 (A:=fun w h'=>w=.bool a.isSome/\h'=h.get) (Qu _ _ ?_) (by rintro w h' ⟨rfl,rfl⟩;exact d);unfold eqGuard;simp only[Bool.not_true,Bool.false_eq_true,if_false,Qg];unfold binOp Op.equal;have b:Op.maxDepth=9999+1:=rfl;rw[lwp_bind,b,Op.equalIn,lwp_bind,Qc hu];cases a<;>exact⟨rfl,rfl⟩
theorem t_build0(hu:P.underlying t=some (.slice el))(d:(P.info? el).map (fun i=>(i.size,i.bytes,i.zero))=some (s,b,z))
 (e:∀ r,h.get r=none->(K (.slice (some ⟨r,0,none⟩) 0 0)).wp X P Q { h with get:=h.get.upd r (true,.cells #[] el (0,0)) }):(T.sem false (Instr.buildSlice t 0 #[]) K).wp X P Q h:=by
 obtain⟨inf,a,_,_,_⟩:=Zk d;refine Q9 (A:=fun v h'=>∃ r,h.get r=none/\v=.slice (some ⟨r,0,none⟩) 0 0/\h'=h.get.upd r (true,.cells #[] el (0,0))) ?_ (by rintro v h' ⟨r,hr,rfl,rfl⟩;exact e r hr);unfold Instr.buildSlice;simp only[lwp_bind,Qc hu,Qy a,Nat.zero_mul,Qg];rw[if_neg (by omega)];simp only[if_true,lwp_bind,Qg];have c:Instr.fill (fun i=>some (i*inf.size,inf.size)) (Array.map (fun x=>(#[]:Array Value)[x%(#[]:Array Value).size]!) (Array.range 0)) (#[]:Array (Nat×Value)).toList=some #[]:=by simp[Instr.fill]
 rw[c];simp only[lwp_bind];exact Zf fun r hr=>⟨r,hr,rfl,rfl⟩
end
section
theorem W7(a:Addr)(x y:Nat):(a.add x).add y=a.add (x+y):=by
 unfold Addr.add;by_cases b:x=0
 ·subst b;simp
 ·by_cases c:y=0
  ·subst c;simp[b]
  ·simp[b,c];omega
def ToldE{α:Type}(E:Cells->Addr->α->Prop)(Enc:α->List Value->Prop)(k:Nat)(h:Cells):Prop:=∀ a x,E h a x->∃ ws,Enc x ws/\ws.length=k/\(∀ (j:Nat) w,ws[j]?=some w->h.cell? (a.add j)=some w)/\∀ w∈ws,isOne w=true
theorem flat{α:Type}{E:Cells->Addr->α->Prop}{Enc:α->List Value->Prop}{k:Nat}{h:Cells}(he:ToldE E Enc k h){b:Addr}{n:Nat}{l:List α}(s:Sl E k h (some b) n l):∀ i,i<=l.length->∃ vs,Rows Enc vs (l.take i)/\vs.length=i*k/\(∀ (t:Nat) v,vs[t]?=some v->h.cell? (b.add t)=some v)/\∀ v∈vs,isOne v=true:=by
 intro i
 induction i with
 | zero=>intro _;exact⟨[],.nil,by simp,fun t v hv=>by simp at hv,fun v hv=>by simp at hv⟩
 | succ i p =>
  intro q;obtain⟨vs,c,d,e,f⟩:=p (by omega);obtain⟨x,a,o,j,g⟩:=s.at (i:=i) (by rw[s.1];omega);cases j;obtain⟨ws,w1,w2,w3,w4⟩:=he _ _ g;refine⟨vs++ws,?_,by rw[List.length_append,d,w2,Nat.add_mul];omega,fun t v hv=>?_,fun v hv=>?_⟩
  ·rw[List.take_add_one,o];exact c.snoc w1
  ·by_cases m:t<vs.length
   ·rw[List.getElem?_append_left m]at hv;exact e t v hv
   ·rw[List.getElem?_append_right (by omega)]at hv;have:=w3 _ v hv;rw[W7]at this;rw[show t=i*k+(t-vs.length) by omega];exact this
  ·rcases List.mem_append.1 hv with hv|hv
   ·exact f v hv
   ·exact w4 v hv
theorem Rows.append{α:Type}{Enc:α->List Value->Prop}{vs:List Value}{l:List α}(r:Rows Enc vs l){ws:List Value}{a:List α}(b:Rows Enc ws a):Rows Enc (vs++ws) (l++a):=by
 induction b with
 | nil=>simpa using r
 | snoc b he c=>rw[<- List.append_assoc,<- List.append_assoc];exact c.snoc he
section
variable {P:Program} {X:XP} {Q:Leaf->LH->Prop}
variable {h h₀:LH}{k:Value->T}{ty sT xT el xe:TypeId}{s by_ n c mc:Nat}{z:Option Value}{p q:Option Addr}
theorem t_append0{ts:Array TypeId}(h0:ts[0]?=some sT)(f:ts[1]?=some xT)(hu:P.underlying sT=some (.slice el))(m:P.underlying xT=some (.slice xe))
 (g:(P.info? el).map (fun i=>(i.size,i.bytes,i.zero))=some (s,by_,z))(d:n<=c)(j:(k (.slice p n c)).wp X P Q h):(T.sem false (Builtin.append_ ts ty #[.slice p n c,.slice q 0 mc]) k).wp X P Q h:=by
 obtain⟨inf,e,_,_,_⟩:=Zk g;refine Q9 (A:=fun v h'=>v=.slice p n c/\h'=h.get) ?_ (by rintro v h' ⟨rfl,rfl⟩;exact j);unfold Builtin.append_;rw[h0,f];simp only[List.getElem?_toArray,List.getElem?_cons_zero,List.getElem?_cons_succ];simp only[lwp_bind,Qc hu,Qy e,Qc m,Qg,Bool.false_eq_true,if_false,Bool.not_false,if_true,Builtin.lenOf,Nat.add_zero,if_pos d];cases q with
 | none =>
  simp only[Builtin.firstCells,Qg];cases p with
  | none=>exact⟨rfl,rfl⟩
  | some a=>exact⟨rfl,rfl⟩
 | some b =>
  simp only[Builtin.firstCells,Nat.zero_mul];refine Wd (l:=[]) rfl (fun t v hv=>by simp at hv) ?_;cases p with
  | none=>exact⟨rfl,rfl⟩
  | some a=>exact⟨rfl,rfl⟩
theorem OwnRow.le_cap{k:Nat}{h:Cells}{vs:List Value}(o:OwnRow el k h p n c vs):n<=c:=by
 rcases o.2 with⟨_,a,b⟩|⟨_,_,_,_,_,h,_⟩
 ·omega
 ·exact h
theorem H1{α:Type}{E:Cells->Addr->α->Prop}{Enc:α->List Value->Prop}{ts:Array TypeId}{z:Value}{m:Nat}{l e:List α}(h0:ts[0]?=some sT)(C:ts[1]?=some xT)(hu:P.underlying sT=some (.slice el))(G:P.underlying xT=some (.slice xe))
 (D:(P.info? el).map (fun i=>(i.size,i.bytes,i.zero))=some (s,by_,some z))(v:z.cells.size=s)(hb:by_<=1024)(H:n+m<=2^30)(g:Growing Enc el s h₀.get h.get p n c l)(hle:h₀.le h)(src:Sl E s h.get q m e)(he:ToldE E Enc s h.get)
 (F:∀ f d h',h₀.le h'->(∀ r y,(∀ a,p=some a->a.block≠r)->h.get r=some y->h'.get r=some y)->Growing Enc el s h₀.get h'.get f (n+m) d (l++e)->(k (.slice f (n+m) d)).wp X P Q h'):(T.sem false (Builtin.append_ ts ty #[.slice p n c,.slice q m mc]) k).wp X P Q h:=by
 obtain⟨vs,o,r⟩:=g.row;by_cases hm:m=0
 ·subst hm;have t:e=[]:=List.eq_nil_of_length_eq_zero src.1.symm;subst t;refine t_append0 h0 C hu G D o.le_cap ?_;have:=F p c h hle (fun r y _ w=>w) (by rw[List.append_nil];exact g);exact this
 ·obtain⟨x,b,_,j,_⟩:=src.at (i:=0) (by omega);subst j;obtain⟨ws,w1,w2,w3,w4⟩:=flat he src e.length (Nat.le_refl _);rw[List.take_length]at w1;have u:=src.1;refine t_append h0 C hu G D v hb H o (by rw[w2,u]) w3 w4 (by omega) fun f d h' a b c=>?_;obtain⟨A,B⟩:=Gz hle.1 g.new b c;exact F f d _ ⟨A,hle.2⟩ (fun r y hr w=>b r y w hr) ⟨⟨vs++ws,a,r.append w1⟩,B⟩
theorem Gb{α:Type}{Enc:α->List Value->Prop}{K:Value->T}{t:TypeId}{b:Nat}(hu:P.underlying t=some (.slice el))(d:(P.info? el).map (fun i=>(i.size,i.bytes,i.zero))=some (s,b,z))(hle:h₀.le h)
 (e:∀ r h',h.get r=none->h.le h'->Growing Enc el s h₀.get h'.get (some ⟨r,0,none⟩) 0 0 []->(K (.slice (some ⟨r,0,none⟩) 0 0)).wp X P Q h'):(T.sem false (Instr.buildSlice t 0 #[]) K).wp X P Q h:=by
 refine t_build0 hu d fun r hr=>?_;refine e r _ hr (Qr hr) ⟨⟨[],⟨by simp,.inr ⟨r,#[],rfl,Qm _ _ _,by simp,Nat.le_refl _,fun j v hv=>by simp at hv⟩⟩,.nil⟩,fun a c=>?_⟩;cases c;cases f:h₀.get r with
 | none=>rfl
 | some x=>rw[hle.1 _ _ f]at hr;cases hr
end
end
section
def Ov(h0:Cells)(h h':LH):Prop:=(∀ r x,h0 r≠none->h.get r=some x->h'.get r=some x)/\h'.chans=h.chans/\h'.pend=h.pend/\h'.todo=h.todo
theorem Ov.le_of{h0 h h':LH}(a:h0.le h)(o:Ov h0.get h h'):h0.le h':=⟨fun r x b=>o.1 r x (by rw[b];simp) (a.1 r x b),o.2.1.trans a.2.1,o.2.2.1.trans a.2.2.1,o.2.2.2.trans a.2.2.2⟩
def But(m:Nat)(h h':LH):Prop:=(∀ r,r≠m->h'.get r=h.get r)/\h'.chans=h.chans/\h'.pend=h.pend/\h'.todo=h.todo
theorem But.ov{m:Nat}{h0:Cells}{h h':LH}(b:But m h h')(hm:h0 m=none):Ov h0 h h':=⟨fun r x hr a=>by rw[b.1 r (fun e=>hr (by rw[e];exact hm))];exact a,b.2⟩
theorem J6{h:Cells}{b i:Nat}{m:Bool}{cs:Array Value}{el:TypeId}{a:Nat×Nat}{v:Value}(hb:h b=some (m,.cells cs el a))(hv:cs[i]?=some v):h.cell? ⟨b,i,none⟩=some v:=by
 unfold Cells.cell?;rw[hb];exact hv
section
variable {X:XP} {P:Program} {Q:Leaf->LH->Prop}
variable {h:LH}{el:TypeId}{cs:Array Value}
theorem D1{k:Nat->T}(b:∀ r a,h.le a->h.get r=none->a.get r=some (true,.cells cs el (0,0))->(k r).wp X P Q a):(T.new el cs k).wp X P Q h :=
 Z9 fun r hr=>b r _ (Qr hr) hr (Qm _ _ _)
theorem Z8{k:T}{b i:Nat}{v v₀:Value}(hb:h.get b=some (true,.cells cs el (0,0)))(a:isOne v=true)(hv:cs[i]?=some v₀)(c:∀ a:LH,But b h a->a.get b=some (true,.cells (cs.setIfInBounds i v) el (0,0))->k.wp X P Q a):(T.store ⟨b,i,none⟩ v k).wp X P Q h:=by
 refine Dg a ⟨_,hb⟩ (J6 hb hv) (by simp[Cells.frozen?,hb]) (c _ ⟨fun r hr=>?_,rfl,rfl,rfl⟩ ?_)
 ·show h.get.setCell _ _ r=_;unfold Cells.setCell;rw[if_neg hr]
 ·show h.get.setCell _ _ b=_;unfold Cells.setCell;rw[if_pos rfl,hb];rfl
end
end
end Go.TM
section
namespace Go.Y.Txt
open Go.TM.Tp
attribute [local irreducible] T.wp CV FWK
theorem undPB:Tryz.prog.underlying 77=some (.pointer 80):=by kernel_rfl
theorem undUP:Tryz.prog.underlying 231=some .unsafePointer:=by kernel_rfl
theorem infB:(Tryz.prog.info? 80).map (·.size)=some 2:=by kernel_rfl
theorem liesB:liesAt Tryz.prog Tryz.prog.depth 80 (2 / Tryz.prog.cellsOf 80) 0 80 1=true:=by kernel_rfl
theorem infoB:∃ j,Tryz.prog.info? 80=some j/\j.size=2:=by
 have h:=infB;cases e:Tryz.prog.info? 80 with
 | none=>rw[e]at h;cases h
 | some j=>rw[e]at h;exact⟨j,rfl,Option.some.inj h⟩
theorem cv_noEscape{X:XP}{h:LH}(v:Value):CV X Tryz.prog (.func (.func 146) #[] #[]) #[v] h (fun r h'=>r=v/\h'=h):=by
 refine We (e:=Extern.AbiNoEscape.same) (fd:=Tryz.f146) (by kernel_rfl) (by kernel_rfl) (by kernel_rfl) (by kernel_rfl) (by kernel_rfl) ?_;show Qd _ (pure v) _ _ _;rw[Qg];exact⟨rfl,rfl⟩
theorem c3739{h:LH}{r:Nat}{p:Option Addr}{v:Value}(hb:h.get r=some (true,.cells #[.pointer p,v] 80 (0,0)))(n:p=none\/p=some ⟨r,0,none⟩) :
  FW X0 Tryz.prog 84 #[.pointer (some ⟨r,0,none⟩)] h fun w h'=>w=.tuple #[]/\But r h h'/\h'.get r=some (true,.cells #[.pointer (some ⟨r,0,none⟩),v] 80 (0,0)):=by
 obtain⟨j,c,m⟩:=infoB;have f:j.size≠0:=by omega
 have hc:0<(#[Value.pointer p,v]:Array Value).size:=Nat.zero_lt_succ _;refine w3739 Qk ?_;have k:h.get.cell? ((⟨r,0,none⟩ : Addr).add 0)=some (.pointer p):=J6 (i:=0) hb rfl;refine gS2 rfl (gL3 k ?_);refine t_eqP undPB c f (.inr (.inl rfl)) ?_;refine yI (fun e=>?_) (fun e=>?_)
 ·have a:p=none:=by simpa using e
  refine Q9 (A:=fun w h'=>w=.pointer (some ⟨r,0,none⟩)/\h'=h.get) ?_ ?_
  ·have d:=lwp_toUnsafe (P:=Tryz.prog) (E:=fun _ _=>False) (Q:=fun w h'=>w=.pointer (some ⟨r,0,none⟩)/\h'=h.get) undPB undUP c f hb hc (And.intro rfl rfl);exact d
  rintro _ _ ⟨rfl,rfl⟩;refine gZ ?_;refine Jb (cv_noEscape _) ?_;rintro _ _ ⟨rfl,rfl⟩;refine gZ ?_;refine Q9 (A:=fun w h'=>w=.pointer (some ⟨r,0,none⟩)/\h'=h.get) ?_ ?_
  ·have d:=lwp_fromUnsafe (P:=Tryz.prog) (E:=fun _ _=>False) (Q:=fun w h'=>w=.pointer (some ⟨r,0,none⟩)/\h'=h.get) undUP undPB c hb liesB (And.intro rfl rfl);exact d
  rintro _ _ ⟨rfl,rfl⟩;refine gZ ?_;refine Z8 (i:=0) hb rfl (by rfl) fun b l a=>?_;exact Qa ⟨rfl,l,a⟩
 ·have a:p=some ⟨r,0,none⟩:=by
   rcases n with b|b
   ·rw[b]at e;simp at e
   ·exact b
  refine gS2 rfl (gL3 k ?_);refine t_neP undPB c f (.inr (.inr a)) ?_;refine gZ ?_;refine Ql (fun g=>by rw[a]at g;simp at g) (fun _=>?_);refine Qa ⟨rfl,⟨fun _ _=>rfl,rfl,rfl,rfl⟩,?_⟩;rw[<- a];exact hb
end Go.Y.Txt
end
namespace Go.TM.Tp
section
open Go.Lib (decDigits)
abbrev Bs:=List UInt8
def cut(c:UInt8):Bs->List Bs
 | []=>[[]]
 | b::l=>if b=c then []::cut c l else (b::(cut c l).headD [])::(cut c l).tail
theorem Zj(c:UInt8):∀ l,cut c l≠[]
 | []=>by simp[cut]
 | b::l=>by unfold cut;split<;>simp
theorem Zs{c:UInt8}:∀ {l:Bs},c∉l->cut c l=[l]
 | [],_=>rfl
 | b::l,h=>by
  have a:b≠c:=fun e=>h (by simp[e]);have d:c∉l:=fun e=>h (by simp[e]);unfold cut;rw[if_neg a,Zs d];rfl
theorem Zz{c:UInt8}:∀ {a l:Bs},c∉a->cut c (a++c::l)=a::cut c l
 | [],l,_=>by simp[cut]
 | b::a,l,h=>by
  have d:b≠c:=fun e=>h (by simp[e]);have f:c∉a:=fun e=>h (by simp[e]);rw[List.cons_append,cut,if_neg d,Zz f];rfl
theorem Zy(c:UInt8):∀ l:Bs,c∉l\/∃ a r,l=a++c::r/\c∉a
 | []=>.inl (by simp)
 | b::l=>by
  by_cases h:b=c
  ·exact .inr ⟨[],l,by simp[h],by simp⟩
  ·rcases Zy c l with d|⟨a,r,rfl,d⟩
   ·exact .inl (by simp[d];exact fun e=>h e.symm)
   ·exact .inr ⟨b::a,r,rfl,by simp[d];exact fun e=>h e.symm⟩
def linesL(t:Bs):List Bs:=if (cut 10 t).getLast?=some [] then (cut 10 t).dropLast else cut 10 t
theorem lines_nil:linesL []=[]:=rfl
theorem lines_one{t:Bs}(h:(10:UInt8)∉t)(h0:t≠[]):linesL t=[t]:=by
 unfold linesL;rw[Zs h];simp[h0]
theorem lines_cons{a r:Bs}(h:(10:UInt8)∉a):linesL (a++10::r)=a::linesL r:=by
 unfold linesL;rw[Zz h];have b:=Zj 10 r;rw[List.getLast?_cons_of_ne_nil b];split
 ·rw[List.dropLast_cons_of_ne_nil b]
 ·rfl
/-! ### Joined -/
def joinS(c:UInt8):List Bs->Bs
 | []=>[]
 | [a]=>a
 | a::b::l=>a++c::joinS c (b::l)
theorem joinS_cons{c:UInt8}{a:Bs}{l:List Bs}(h:l≠[]):joinS c (a::l)=a++c::joinS c l:=by
 cases l with
 | nil=>exact absurd rfl h
 | cons b l=>rfl
def lineS(w:Bs)(fs:List Bs):Bs:=w++58::(fs.flatMap fun f=>f++[59])++[10]
theorem flat_join:∀ {l:List Bs},l≠[]->(l.flatMap fun f=>f++[59])=joinS 59 l++[59]:=by
 intro l b
 induction l with
 | nil=>exact absurd rfl b
 | cons a l c =>
  by_cases h0:l=[]
  ·subst h0;simp[joinS]
  ·rw[List.flatMap_cons,c h0,joinS_cons h0];simp
theorem lineS_join{w:Bs}{fs:List Bs}(h:fs≠[]):lineS w fs=w++58::(joinS 59 fs++[59,10]):=by
 unfold lineS;rw[flat_join h];simp
def fieldsL(l:Bs):Option (Bs×List Bs) :=
 match cut 58 l with
 | w::p::ps =>
  let r:=joinS 58 (p::ps)
  if w=[] then none else if r.getLast?=some 59 then some (w,cut 59 r.dropLast) else none
 | _=>none
theorem Do(c:UInt8):∀ l:Bs,joinS c (cut c l)=l
 | []=>rfl
 | b::l=>by
  have a:=Zj c l;unfold cut;split
  ·rename_i h;rw[joinS_cons a,Do c l,h];rfl
  ·have d:=Do c l;cases e:cut c l with
   | nil=>exact absurd e a
   | cons x y =>
    rw[e]at d;cases y with
    | nil=>simp[joinS]at d ⊢;exact d
    | cons z y=>simp[joinS]at d ⊢;exact d
theorem fields_none{l:Bs}(h:(58:UInt8)∉l):fieldsL l=none:=by
 unfold fieldsL;rw[Zs h]
theorem fields_some{w r:Bs}(h:(58:UInt8)∉w):fieldsL (w++58::r)=if w=[] then none else if r.getLast?=some 59 then some (w,cut 59 r.dropLast) else none:=by
 have b:=Zj 58 r;unfold fieldsL;rw[Zz h];cases e:cut 58 r with
 | nil=>exact absurd e b
 | cons p ps =>
  have:=Do 58 r;rw[e]at this;simp only[this]
/-! ### a -/
def digit(b:UInt8):Bool:=48<=b&&b<=57
def valL(l:Bs):Nat:=l.foldl (fun n b=>10*n+(b.toNat-48)) 0
def numL(l:Bs):Option Nat:=if (1<=l.length/\l.length<=9)/\l.all digit=true/\(l.head?=some 48->l.length=1) then some (valL l) else none
def numsL(l:List Bs):Option (List Nat):=l.mapM numL
theorem numsL_nil:numsL []=some []:=rfl
theorem Z3{a:Bs}{l:List Bs}:numsL (a::l)=(numL a).bind fun n=>(numsL l).bind fun m=>some (n::m):=by
 unfold numsL;rw[List.mapM_cons];rfl
def rangeL(l:Bs):Option (Nat×Nat) :=
 match numsL (cut 45 l) with
 | some [a]=>some (a,a)
 | some [a,b]=>if a=b then none else some (a,b)
 | _=>none
def listL(l:Bs):Option (List Nat):=if l=[] then some [] else numsL (cut 44 l)
theorem small_byte{k:Nat}(h:k<10):(UInt8.ofNat (48+k)).toNat=48+k:=by
 rw[UInt8.toNat_ofNat'];omega
theorem Ds{k:Nat}:∀ {n:Nat},n<10^(k+1)->(decDigits n).length<=k+1:=by
 induction k with
 | zero =>
  intro n h;rw[decDigits,dif_pos (by simpa using h)];simp
 | succ k a =>
  intro n h;rw[decDigits];split
  ·simp
  ·have:n / 10<10^(k+1):=by
    rw[Nat.pow_succ]at h;exact Nat.div_lt_of_lt_mul (by omega)
   have:=a this;simp;omega
def dash(a b:Nat):Bs:=if a=b then decDigits a else decDigits a++45::decDigits b
def listS(l:List Nat):Bs:=joinS 44 (l.map decDigits)
end
section
theorem Yo{l:Bs}{i:Nat}(h:i<l.length):(str l)[i]! = l[i]:=by
 have a:i<(str l).size:=by rw[Jy];exact h
 rw[getElem!_pos (str l) i a];show (str l).data[i]=_;simp[str]
theorem idx_none{c:UInt8}{l:Bs}(h:c∉l):((List.range (str l).size).find? fun i=>((str l)[i]!)==c)=none:=by
 rw[List.find?_eq_none];intro i a;rw[List.mem_range,Jy]at a;rw[Yo a];simp only[beq_iff_eq];intro e;exact h (e▸List.getElem_mem a)
theorem idx_some{c:UInt8}{a r:Bs}(h:c∉a):((List.range (str (a++c::r)).size).find? fun i=>((str (a++c::r))[i]!)==c)=some a.length:=by
 rw[List.find?_range_eq_some];refine⟨?_,?_,fun j b=>?_⟩
 ·rw[Yo (by simp)];simp
 ·rw[List.mem_range,Jy];simp
 ·rw[Yo (by simp;omega),List.getElem_append_left b];simp only[Bool.not_eq_true',beq_eq_false_iff_ne];intro e;exact h (e▸List.getElem_mem b)
def firstI(c:UInt8)(l:Bs):Int:=match (cut c l) with
 | a::_::_=>a.length
 | _=>-1
theorem H7{c:UInt8}{l:Bs}(h:c∉l):firstI c l = -1:=by unfold firstI;rw[Zs h]
theorem Wq{c:UInt8}{a r:Bs}(h:c∉a):firstI c (a++c::r)=a.length:=by
 unfold firstI;rw[Zz h];have:=Zj c r;cases e:cut c r with
 | nil=>exact absurd e this
 | cons x y=>rfl
theorem lwp_indexByte{P:Program}{l:Bs}{c:UInt8}{Q:Value->Cells->Prop}{E:Halt->Cells->Prop}{h:Cells}(e:Q (.int .i64 (firstI c l)) h):Qd P (Extern.BytealgIndexByte.indexByte #[.string (str l),.int .u8 (c.toNat:Int)]) Q E h:=by
 show Qd P (do
  let b <- Extern.Bytes.bytesOf (.string (str l));let c <- Extern.Bytes.asByte (.int .u8 (c.toNat:Int))
  match (List.range b.size).find? fun i=>(b[i]!)==c with
  | some i=>pure (goInt i)
  | none=>pure (goInt (-1))) Q E h
 simp only[Extern.Bytes.bytesOf,Extern.Bytes.asByte,lwp_bind,Qg];have hc:((c.toNat:Int)).toNat.toUInt8=c:=by simp
 rw[hc];rcases Zy c l with d|⟨a,r,rfl,d⟩
 ·rw[idx_none d];rw[H7 d]at e;exact e
 ·rw[idx_some d];rw[Wq d]at e;exact e
end
end Go.TM.Tp
section
namespace Go.TM
variable {P:Program} {X:XP} {Q:Leaf->LH->Prop}
end Go.TM
namespace Go.TM
variable {P:Program} {X:XP} {Q:Leaf->LH->Prop}
variable {h:LH}{k:Value->T}{t el:TypeId}{n s:Nat}{z:Value}
theorem Zq{b:Nat}{parts:Array (Nat×Value)}(ws:List Value)(hu:P.underlying t=some (.slice el))(d:(P.info? el).map (fun i=>(i.size,i.bytes,i.zero))=some (s,b,some z))(g:n*s<=2^24)(a:n*s≠0)
 (c:Instr.fill (fun i=>some (i*s,s)) ((Array.range (n*s)).map (z.cells[·%z.cells.size]!)) parts.toList=some ws.toArray)
 (f:∀ r h',h.le h'->h.get r=none->(∀ (j:Nat) w,ws[j]?=some w->h'.get.cell? (Addr.add ⟨r,0,none⟩ j)=some w)->(k (.slice (some ⟨r,0,none⟩) n n)).wp X P Q h'):(T.sem false (Instr.buildSlice t n parts) k).wp X P Q h :=
 Zu hu d g a c fun r hr=>f r _ (Qr hr) hr fun j w e=>by
  rw[Qo,Nat.zero_add];exact Qv (by simpa using e)
theorem Hh{α:Type}{Enc:α->List Value->Prop}{h₀:LH}{ts:Array TypeId}{ty:TypeId}{by_:Nat}{p:Option Addr}{c mc r:Nat}{l:List α}(x:α)(ws:List Value)(h0:ts[0]?=some t)(f:ts[1]?=some t)(hu:P.underlying t=some (.slice el))
 (m:(P.info? el).map (fun i=>(i.size,i.bytes,i.zero))=some (s,by_,some z))(b:z.cells.size=s)(hb:by_<=1024)(u:n+1<=2^30)(g:Growing Enc el s h₀.get h.get p n c l)(hle:h₀.le h)(he:Enc x ws)(q:ws.length=s)(hc:∀ (j:Nat) w,ws[j]?=some w->h.get.cell? (Addr.add ⟨r,0,none⟩ j)=some w)(one:∀ v∈ws,isOne v=true)
 (o:∀ e d h',h₀.le h'->(∀ r y,(∀ a,p=some a->a.block≠r)->h.get r=some y->h'.get r=some y)->Growing Enc el s h₀.get h'.get e (n+1) d (l++[x])->(k (.slice e (n+1) d)).wp X P Q h'):(T.sem false (Builtin.append_ ts ty #[.slice p n c,.slice (some ⟨r,0,none⟩) 1 mc]) k).wp X P Q h :=
 D3 (h₀:=h₀) (x:=x) (ws:=ws) h0 f hu hu m b hb u g hle he q hc one o
end Go.TM
namespace Go.TM
variable {P:Program} {X:XP} {Q:Leaf->LH->Prop}
end Go.TM
end
section
namespace Go.TM
section
variable {P:Program} {X:XP} {Q:Leaf->LH->Prop}
theorem t_sliceLow{h:LH}{K:Value->T}{t el:TypeId}{s b:Nat}{z:Option Value}{p:Option Addr}{n c i:Nat}(hu:P.underlying t=some (.slice el))(e:(P.info? el).map (fun i=>(i.size,i.bytes,i.zero))=some (s,b,z))(f:i<=n)
 (g:(K (.slice (if c=i then p else p.map (·.add (i*s))) (n-i) (c-i))).wp X P Q h):(T.sem false (Instr.sliceAt t (.slice p n c) (some (.int .i64 (i:Int))) none none) K).wp X P Q h:=by
 obtain⟨inf,a,d,_,_⟩:=Zk e;refine Q9 (A:=fun v h'=>v=.slice (if c=i then p else p.map (·.add (i*s))) (n-i) (c-i)/\h'=h.get) ?_ (by rintro v h' ⟨rfl,rfl⟩;exact g);unfold Instr.sliceAt;simp only[lwp_bind,Qc hu];unfold Instr.slice;simp only[lwp_bind,Qc hu];unfold Instr.sliceBounds Instr.sliceBound;simp only[lwp_bind,Qg,asIntOf,asInt];rw[if_pos (show 0<=(i:Int)/\(i:Int)<=(n:Int) by omega)];simp only[Qg,Qy a,Int.toNat_natCast,d];exact⟨trivial,trivial⟩
end
theorem Sl.drop{α:Type}{E:Cells->Addr->α->Prop}{k:Nat}{h:Cells}{p:Option Addr}{n:Nat}{l:List α}(s:Sl E k h p n l){c i:Nat}(hc:n<=c):Sl E k h (if c=i then p else p.map (·.add (i*k))) (n-i) (l.drop i):=by
 refine⟨by rw[List.length_drop,s.1],by rw[List.length_drop];have:=s.2.1;omega,fun j x b=>?_⟩;rw[List.getElem?_drop]at b;have f:=(List.getElem?_eq_some_iff.1 b).1;have g:=s.1;obtain⟨a,e,d⟩:=s.2.2 _ x b;rw[if_neg (by omega),e];refine⟨a.add (i*k),rfl,?_⟩;rw[W7,<- Nat.add_mul];exact d
theorem Rows.mono{α:Type}{Enc a:α->List Value->Prop}(he:∀ x ws,Enc x ws->a x ws){vs:List Value}{l:List α}(r:Rows Enc vs l):Rows a vs l:=by
 induction r with
 | nil=>exact .nil
 | snoc r h b=>exact b.snoc (he _ _ h)
section
variable {P:Program} {X:XP} {Q:Leaf->LH->Prop}
end
end Go.TM
end
namespace Go.Y
section
attribute [local irreducible] T.wp CV FWK
variable {p:Option Addr}{n i:Nat}
theorem Zo{P:Program}{X:XP}{Q:Leaf->LH->Prop}{h:LH}{K:Value->T}{t el:TypeId}{s b:Nat}{z:Option Value}{c:Nat}(hu:P.underlying t=some (.slice el))(f:(P.info? el).map (fun i=>(i.size,i.bytes,i.zero))=some (s,b,z))(g:i<=c)
 (j:(K (.slice p i c)).wp X P Q h):(T.sem false (Instr.sliceAt t (.slice p n c) none (some (.int .i64 (i:Int))) none) K).wp X P Q h:=by
 obtain⟨inf,a,d,_,_⟩:=Zk f;refine Q9 (A:=fun v h'=>v=.slice p i c/\h'=h.get) ?_ (by rintro v h' ⟨rfl,rfl⟩;exact j);unfold Instr.sliceAt;simp only[lwp_bind,Qc hu];unfold Instr.slice;simp only[lwp_bind,Qc hu];unfold Instr.sliceBounds Instr.sliceBound;simp only[lwp_bind,Qg,asIntOf];rw[if_pos (show 0<=(i:Int)/\(i:Int)<=(c:Int) by omega)];simp only[Qg,Qy a,Int.toNat_natCast,d,Nat.zero_mul,Nat.sub_zero];have e:(p.map fun x:Addr=>x.add 0)=p:=by cases p<;>simp[Addr.add]
 rw[e];simp
theorem slTake{α:Type}{E:Cells->Addr->α->Prop}{k:Nat}{h:Cells}{l:List α}(s:Sl E k h p n l)(b:i<=n):Sl E k h p i (l.take i):=by
 have c:=s.1;refine⟨by rw[List.length_take];omega,by rw[List.length_take];have:=s.2.1;omega,fun j x a=>?_⟩;rw[List.getElem?_take]at a;split at a
 ·exact s.2.2 j x a
 ·cases a
end
section
set_option maxHeartbeats 0
set_option linter.unusedVariables false
variable {X:XP} {h:LH} {A:Value->LH->Prop}
variable {a b c d e f g i j k l m:Int}{n o p q r s t u v w x y z:Nat}{B C D E F G H I J K L M:Option Addr}
theorem w3722{f:ByteArray}:FX X 43 #[.string f,.slice B n o] h A (.sem false (Sem.bind (eqGuard BinOp.add 9 (Operand.tmp 7) (Operand.const (.string { data:=#[58] })) (.string f) (.string { data:=#[58] })) fun e=>binOp BinOp.add 9 (.string f) (.string { data:=#[58] })) fun d=>.unStr d fun b=>.loop [.string b,.int .i64 0] (fun a=>.popStr a fun b a=>.pi a fun c a=>.unNil a (bif decide (c<(↑n:Int)) then .need (0<=c/\c<(↑n:Int)) (.someA B fun i=>.loadStr (i.add (c.toNat*1)) fun g=>.sem false (Sem.bind (eqGuard BinOp.add 9 (Operand.tmp 15) (Operand.tmp 19) (.string b) (.string g)) fun e=>binOp BinOp.add 9 (.string b) (.string g)) fun d=>.unStr d fun b=>.sem false (Sem.bind (eqGuard BinOp.add 9 (Operand.tmp 20) (Operand.const (.string { data:=#[59] })) (.string b) (.string { data:=#[59] })) fun e=>binOp BinOp.add 9 (.string b) (.string { data:=#[59] })) fun d=>.unStr d fun b=>.ag [.string b,.int .i64 (wrap .i64 (c+1))]) else .bk [.string b,c])) (fun a=>.popStr a fun b a=>.pi a fun c a=>.unNil a (.sem false (Sem.bind (eqGuard BinOp.add 9 (Operand.tmp 22) (Operand.const (.string { data:=#[10] })) (.string b) (.string { data:=#[10] })) fun e=>binOp BinOp.add 9 (.string b) (.string { data:=#[10] })) fun d=>.unStr d fun b=>.rt (.string b))) (fun a=>.popStr a fun b a=>.pi a fun c a=>.unNil a (.rt (.string { data:=#[] }))) fun j k=>.fail):=fk [] [⟨0,[(5,.str),(6,.int .i64)],[],[],[],[]⟩] [] Tryz.f43
theorem w3723:FX X 44 #[a] h A (bif decide (a<10) then .sem false (Instr.buildSlice 78 1 #[(0,.int .u8 (IntKind.wrap .u8 (wrap .i64 (48+a))))]) fun b=>.unS b fun e a f=>.sem false (convert 78 9 (.slice e a f)) fun b=>.unStr b fun c=>.rt (.string c) else .need ((10:Int)≠0) (.need ((10:Int)≠0) (.both (.cl 44 #[.int .i64 (wrap .i64 (Int.tdiv a 10))] fun b=>.unStr b fun c=>.nds [.val (.int .u8 (IntKind.wrap .u8 (wrap .i64 (48+Int.tmod a 10)))),.val (.int .i64 (wrap .i64 (48+Int.tmod a 10)))] (.need ((10:Int)≠0) (.nds [.val (.int .i64 (Int.tmod a 10)),a,a] (.sem false (Instr.buildSlice 78 1 #[(0,.int .u8 (IntKind.wrap .u8 (wrap .i64 (48+Int.tmod a 10))))]) fun b=>.unS b fun e g f=>.nd (.int .i64 (wrap .i64 (48+Int.tmod a 10))) (.need ((10:Int)≠0) (.nds [.val (.int .i64 (Int.tmod a 10)),a,a] (.sem false (convert 78 9 (.slice e g f)) fun b=>.unStr b fun d=>.nd (.int .i64 (wrap .i64 (48+Int.tmod a 10))) (.need ((10:Int)≠0) (.nds [.val (.int .i64 (Int.tmod a 10)),a,a] (.sem false (Sem.bind (eqGuard BinOp.add 9 (Operand.tmp 12) (Operand.tmp 18) (.string c) (.string d)) fun i=>binOp BinOp.add 9 (.string c) (.string d)) fun b=>.unStr b fun c=>.nd (.int .i64 (wrap .i64 (48+Int.tmod a 10))) (.need ((10:Int)≠0) (.nds [.val (.int .i64 (Int.tmod a 10)),a,a] (.rt (.string c)))))))))))))) (.sem false (Instr.buildSlice 78 1 #[(0,.int .u8 (IntKind.wrap .u8 (wrap .i64 (48+Int.tmod a 10))))]) fun b=>.unS b fun e g f=>.nd (.int .i64 (wrap .i64 (48+Int.tmod a 10))) (.need ((10:Int)≠0) (.nds [.val (.int .i64 (Int.tmod a 10)),a] (.need ((10:Int)≠0) (.nds [.val (.int .i64 (wrap .i64 (Int.tdiv a 10))),a] (.both (.cl 44 #[.int .i64 (wrap .i64 (Int.tdiv a 10))] fun b=>.unStr b fun c=>.nd (.int .i64 (wrap .i64 (48+Int.tmod a 10))) (.need ((10:Int)≠0) (.nds [.val (.int .i64 (Int.tmod a 10)),a,a] (.sem false (convert 78 9 (.slice e g f)) fun b=>.unStr b fun d=>.nd (.int .i64 (wrap .i64 (48+Int.tmod a 10))) (.need ((10:Int)≠0) (.nds [.val (.int .i64 (Int.tmod a 10)),a,a] (.sem false (Sem.bind (eqGuard BinOp.add 9 (Operand.tmp 12) (Operand.tmp 18) (.string c) (.string d)) fun i=>binOp BinOp.add 9 (.string c) (.string d)) fun b=>.unStr b fun c=>.nd (.int .i64 (wrap .i64 (48+Int.tmod a 10))) (.need ((10:Int)≠0) (.nds [.val (.int .i64 (Int.tmod a 10)),a,a] (.rt (.string c))))))))))) (.sem false (convert 78 9 (.slice e g f)) fun b=>.unStr b fun c=>.nd (.int .i64 (wrap .i64 (48+Int.tmod a 10))) (.need ((10:Int)≠0) (.nds [.val (.int .i64 (Int.tmod a 10)),a] (.need ((10:Int)≠0) (.nds [.val (.int .i64 (wrap .i64 (Int.tdiv a 10))),a] (.cl 44 #[.int .i64 (wrap .i64 (Int.tdiv a 10))] fun b=>.unStr b fun d=>.nd (.int .i64 (wrap .i64 (48+Int.tmod a 10))) (.need ((10:Int)≠0) (.nds [.val (.int .i64 (Int.tmod a 10)),a,a] (.sem false (Sem.bind (eqGuard BinOp.add 9 (Operand.tmp 12) (Operand.tmp 18) (.string d) (.string c)) fun i=>binOp BinOp.add 9 (.string d) (.string c)) fun b=>.unStr b fun c=>.nd (.int .i64 (wrap .i64 (48+Int.tmod a 10))) (.need ((10:Int)≠0) (.nds [.val (.int .i64 (Int.tmod a 10)),a,a] (.rt (.string c)))))))))))))))))))))):=fk [] [] [] Tryz.f44
theorem w3724:FX X 45 #[.agg #[a,b]] h A (bif a==b then .cl 44 #[a] fun d=>.unStr d fun c=>.rt (.string c) else .cl 44 #[a] fun d=>.unStr d fun c=>.nds [b,.pp 1 1,.pp 1 0] (.both (.sem false (Sem.bind (eqGuard BinOp.add 9 (Operand.tmp 13) (Operand.const (.string { data:=#[45] })) (.string c) (.string { data:=#[45] })) fun f=>binOp BinOp.add 9 (.string c) (.string { data:=#[45] })) fun d=>.unStr d fun c=>.nds [b,.pp 1 1,.pp 1 0] (.cl 44 #[b] fun d=>.unStr d fun e=>.nds [.pp 1 1,.pp 1 0] (.sem false (Sem.bind (eqGuard BinOp.add 9 (Operand.tmp 14) (Operand.tmp 17) (.string c) (.string e)) fun f=>binOp BinOp.add 9 (.string c) (.string e)) fun d=>.unStr d fun c=>.nds [.pp 1 1,.pp 1 0] (.rt (.string c))))) (.cl 44 #[b] fun d=>.unStr d fun e=>.nds [.pp 1 1,.pp 1 0] (.sem false (Sem.bind (eqGuard BinOp.add 9 (Operand.tmp 13) (Operand.const (.string { data:=#[45] })) (.string c) (.string { data:=#[45] })) fun f=>binOp BinOp.add 9 (.string c) (.string { data:=#[45] })) fun d=>.unStr d fun c=>.nds [.pp 1 1,.pp 1 0] (.sem false (Sem.bind (eqGuard BinOp.add 9 (Operand.tmp 14) (Operand.tmp 17) (.string c) (.string e)) fun f=>binOp BinOp.add 9 (.string c) (.string e)) fun d=>.unStr d fun c=>.nds [.pp 1 1,.pp 1 0] (.rt (.string c))))))):=fk [1] [] [] Tryz.f45
theorem w3725:FX X 46 #[.slice B n o] h A (.loop [.slice none 0 0,.int .i64 0] (fun a=>.popS a fun c b d a=>.pi a fun e a=>.unNil a (bif decide (e<(↑n:Int)) then .need (0<=e/\e<(↑n:Int)) (.someA B fun i=>.li (i.add (e.toNat*1)) fun l=>.cl 44 #[l] fun f=>.unStr f fun g=>.sem false (Instr.buildSlice 81 1 #[(0,.string g)]) fun f=>.unS f fun j m k=>.sem false (Builtin.append_ #[81,81] 81 #[.slice c b d,.slice j m k]) fun f=>.unS f fun c b d=>.ag [.slice c b d,.int .i64 (wrap .i64 (e+1))]) else .bk [.slice c b d,e])) (fun a=>.popS a fun c b d a=>.pi a fun e a=>.unNil a (.cl 92 #[.slice c b d] fun f=>.unStr f fun g=>.rt (.string g))) (fun a=>.popS a fun c b d a=>.pi a fun b a=>.unNil a (.rt (.string { data:=#[] }))) fun p q=>.fail):=fk [] [⟨0,[(3,.slice),(4,.int .i64)],[],[],[],[]⟩] [] Tryz.f46
theorem w3730{f:ByteArray}:FX X 51 #[.string f] h A (.cl 106 #[.string f,.int .u8 10] fun d=>.unS d fun b a c=>.need (0<=wrap .i64 ((↑a:Int)-1)/\wrap .i64 ((↑a:Int)-1)<(↑a:Int)) (.someA b fun g=>.loadStr (g.add ((wrap .i64 ((↑a:Int)-1)).toNat*1)) fun e=>.sem false (Sem.bind (eqGuard BinOp.eql 9 (Operand.tmp 11) (Operand.const (.string { data:=#[] })) (.string e) (.string { data:=#[] })) fun k=>binOp BinOp.eql 9 (.string e) (.string { data:=#[] })) fun d=>.unB d fun i=>bif i then .sem false (Instr.sliceAt 81 (.slice b a c) none (some (.int .i64 (wrap .i64 ((↑a:Int)-1)))) none) fun j=>.unS j fun b a c=>.rt (.slice b a c) else .rt (.slice b a c))):=fk [] [] [] Tryz.f51
theorem w3731{j:ByteArray}:FX X 52 #[.string j] h A (.loop [.int .i64 0] (fun b=>.pi b fun c b=>.unNil b (.sem false (Builtin.len_ #[9] 3 #[.string j]) fun i=>.ui i fun n=>bif decide (c<n) then .sem false (Instr.index 9 (.string j) (.int .i64 c)) fun i=>.unI .u8 i fun a=>bif a != 58 then .ag [.int .i64 (wrap .i64 (c+1))] else .bk [c] else .bk [c])) (fun b=>.pi b fun c b=>.unNil b (.blk (bif c==0 then .rn [.string { data:=#[] },.slice none 0 0,false] else .sem false (Builtin.len_ #[9] 3 #[.string j]) fun i=>.ui i fun n=>bif c==n then .rn [.string { data:=#[] },.slice none 0 0,false] else .ag [.string { data:=#[] },.slice none 0 0,false]) (fun b=>.popStr b fun f b=>.popS b fun d n e b=>.popB b fun m b=>.unNil b (.sem false (Instr.sliceAt 9 (.string j) (some (.int .i64 (wrap .i64 (c+1)))) none none) fun g=>.unStr g fun f=>.cl 106 #[.string f,.int .u8 59] fun i=>.unS i fun d a e=>.need (0<=wrap .i64 ((↑a:Int)-1)/\wrap .i64 ((↑a:Int)-1)<(↑a:Int)) (.someA d fun o=>.loadStr (o.add ((wrap .i64 ((↑a:Int)-1)).toNat*1)) fun f=>.sem false (Sem.bind (eqGuard BinOp.neq 9 (Operand.tmp 37) (Operand.const (.string { data:=#[] })) (.string f) (.string { data:=#[] })) fun s=>binOp BinOp.neq 9 (.string f) (.string { data:=#[] })) fun i=>.unB i fun m=>bif m then .rt (.tuple #[.string { data:=#[] },.slice none 0 0,false]) else .both (.sem false (Instr.sliceAt 9 (.string j) none (some (.int .i64 c)) none) fun g=>.unStr g fun f=>.nds [.val (.int .i64 (wrap .i64 ((↑a:Int)-1))),.val (.int .i64 (↑a:Int)),.S d a e,.S d a e] (.both (.sem false (Instr.sliceAt 81 (.slice d a e) none (some (.int .i64 (wrap .i64 ((↑a:Int)-1)))) none) fun g=>.unS g fun k c l=>.nds [.val (.int .i64 (↑a:Int)),.S d a e,.val (.int .i64 (↑a:Int)),.S d a e] (.rt (.tuple #[.string f,.slice k c l,true]))) (.nds [.val (.int .i64 (wrap .i64 ((↑a:Int)-1))),.val (.int .i64 (↑a:Int)),.S d a e,.S d a e] (.sem false (Instr.sliceAt 81 (.slice d a e) none (some (.int .i64 (wrap .i64 ((↑a:Int)-1)))) none) fun g=>.unS g fun k c l=>.nds [.val (.int .i64 (↑a:Int)),.S d a e] (.rt (.tuple #[.string f,.slice k c l,true])))))) (.sem false (Instr.sliceAt 81 (.slice d a e) none (some (.int .i64 (wrap .i64 ((↑a:Int)-1)))) none) fun g=>.unS g fun k p l=>.nds [.val (.int .i64 (↑a:Int)),.S d a e,c,.val (.string j)] (.sem false (Instr.sliceAt 9 (.string j) none (some (.int .i64 c)) none) fun g=>.unStr g fun f=>.nds [.val (.int .i64 (↑a:Int)),.S d a e,.val (.int .i64 (↑a:Int)),.S d a e] (.rt (.tuple #[.string f,.slice k p l,true]))))))) (fun b=>.popStr b fun f b=>.popS b fun d c e b=>.popB b fun m b=>.unNil b (.rt (.tuple #[.string f,.slice d c e,m]))) fun q r=>.fail)) (fun b=>.pi b fun c b=>.unNil b (.rt (.tuple #[.string { data:=#[] },.slice none 0 0,false]))) fun q r=>.fail):=fk [] [⟨0,[(5,.int .i64)],[],[],[],[]⟩] [⟨6,[(2,.str),(3,.slice),(4,.bool)],[],[],[],[]⟩] Tryz.f52
theorem w3742:FX X 92 #[.slice B n o] h A (.loop [.string { data:=#[] },.int .i64 0] (fun a=>.popStr a fun b a=>.pi a fun c a=>.unNil a (bif decide (c<(↑n:Int)) then bif decide (c>0) then .sem false (Sem.bind (eqGuard BinOp.add 9 (Operand.tmp 13) (Operand.const (.string { data:=#[44] })) (.string b) (.string { data:=#[44] })) fun g=>binOp BinOp.add 9 (.string b) (.string { data:=#[44] })) fun e=>.unStr e fun b=>.need (0<=c/\c<(↑n:Int)) (.someA B fun f=>.loadStr (f.add (c.toNat*1)) fun d=>.sem false (Sem.bind (eqGuard BinOp.add 9 (Operand.tmp 15) (Operand.tmp 19) (.string b) (.string d)) fun g=>binOp BinOp.add 9 (.string b) (.string d)) fun e=>.unStr e fun b=>.ag [.string b,.int .i64 (wrap .i64 (c+1))]) else .need (0<=c/\c<(↑n:Int)) (.someA B fun f=>.loadStr (f.add (c.toNat*1)) fun d=>.sem false (Sem.bind (eqGuard BinOp.add 9 (Operand.tmp 15) (Operand.tmp 19) (.string b) (.string d)) fun g=>binOp BinOp.add 9 (.string b) (.string d)) fun e=>.unStr e fun b=>.ag [.string b,.int .i64 (wrap .i64 (c+1))]) else .bk [.string b,c])) (fun a=>.popStr a fun b a=>.pi a fun c a=>.unNil a (.rt (.string b))) (fun a=>.popStr a fun b a=>.pi a fun c a=>.unNil a (.rt (.string { data:=#[] }))) fun i j=>.fail):=fk [] [⟨0,[(3,.str),(4,.int .i64)],[],[],[],[]⟩] [] Tryz.f92
theorem w3755{g:ByteArray}:FX X 106 #[.string g,.int .u8 a] h A (.loop [.slice none 0 0,.int .i64 0,.int .i64 0] (fun b=>.popS b fun e c f b=>.pi b fun j b=>.pi b fun i b=>.unNil b (.sem false (Builtin.len_ #[9] 3 #[.string g]) fun d=>.ui d fun m=>bif decide (i<m) then .sem false (Instr.index 9 (.string g) (.int .i64 i)) fun d=>.unI .u8 d fun o=>bif o==a then .sem false (Instr.sliceAt 9 (.string g) (some (.int .i64 j)) (some (.int .i64 i)) none) fun n=>.unStr n fun g=>.sem false (Instr.buildSlice 81 1 #[(0,.string g)]) fun d=>.unS d fun k p l=>.sem false (Builtin.append_ #[81,81] 81 #[.slice e c f,.slice k p l]) fun d=>.unS d fun e c f=>.ag [.slice e c f,.int .i64 (wrap .i64 (i+1)),.int .i64 (wrap .i64 (i+1))] else .ag [.slice e c f,j,.int .i64 (wrap .i64 (i+1))] else .bk [.slice e c f,j,i])) (fun b=>.popS b fun e c f b=>.pi b fun j b=>.pi b fun i b=>.unNil b (.sem false (Instr.sliceAt 9 (.string g) (some (.int .i64 j)) none none) fun n=>.unStr n fun g=>.sem false (Instr.buildSlice 81 1 #[(0,.string g)]) fun d=>.unS d fun k m l=>.sem false (Builtin.append_ #[81,81] 81 #[.slice e c f,.slice k m l]) fun d=>.unS d fun e c f=>.rt (.slice e c f))) (fun b=>.popS b fun e c f b=>.pi b fun c b=>.pi b fun c b=>.unNil b (.rt (.slice none 0 0))) fun q r=>.fail):=fk [] [⟨0,[(5,.slice),(6,.int .i64),(7,.int .i64)],[],[],[],[]⟩] [] Tryz.f106
theorem w3756:FX X 107 #[.slice B n o] h A (.loop [.slice none 0 0,false,.slice none 0 0,.int .i64 0] (fun a=>.popS a fun c e d a=>.popB a fun g a=>.popS a fun j i k a=>.pi a fun b a=>.unNil a (bif decide (b<(↑n:Int)) then .need (0<=b/\b<(↑n:Int)) (.someA B fun l=>.loadStr (l.add (b.toNat*1)) fun w=>.cT 109 #[.string w] fun f a=>.ui f fun t=>.unCons a fun f a=>.unB f fun q=>.unNil a (bif !q then .rn [.slice none 0 0,false,.slice j i k,b] else .sem false (Instr.buildSlice 47 1 #[(0,.int .i64 t)]) fun f=>.unS f fun m u r=>.sem false (Builtin.append_ #[47,47] 47 #[.slice j i k,.slice m u r]) fun f=>.unS f fun p v s=>.ag [.slice c e d,g,.slice p v s,.int .i64 (wrap .i64 (b+1))])) else .bk [.slice c e d,g,.slice j i k,b])) (fun a=>.popS a fun c e d a=>.popB a fun g a=>.popS a fun c e d a=>.pi a fun i a=>.unNil a (.rt (.tuple #[.slice c e d,true]))) (fun a=>.popS a fun c e d a=>.popB a fun g a=>.popS a fun j i k a=>.pi a fun b a=>.unNil a (.rt (.tuple #[.slice c e d,g]))) fun x y=>.fail):=fk [] [⟨0,[(2,.slice),(3,.bool),(4,.slice),(5,.int .i64)],[],[],[],[]⟩] [] Tryz.f107
theorem w3757{j:ByteArray}:FX X 108 #[.string j] h A (.cl 106 #[.string j,.int .u8 45] fun f=>.unS f fun d a e=>.cT 107 #[.slice d a e] fun f c=>.unS f fun d a e=>.unCons c fun f c=>.unB f fun b=>.unNil c (.blk (bif !b then .nds [.B (!b),b,.B (!b),b,true,.B (!b),b,true,.B (!b),b,.U,.U,.U,.U,true,.B (!b),b] (.rn [false,.int .i64 0,.int .i64 0]) else bif decide ((↑a:Int)>2) then .nds [.B (decide ((↑a:Int)>2)),.B (decide ((↑a:Int)>2)),.val (.int .i64 (↑a:Int)),.S d a e] (.nf (!b) false (.nds [.B (!b),b,.B (decide ((↑a:Int)>2)),.B (decide ((↑a:Int)>2)),.val (.int .i64 (↑a:Int)),.S d a e] (.nf (!b) false (.nds [.B (!b),b,.U,.U,.U,.U,.B (decide ((↑a:Int)>2)),.B (decide ((↑a:Int)>2)),.val (.int .i64 (↑a:Int)),.S d a e] (.nf (!b) false (.nds [.B (!b),b] (.rn [false,.int .i64 0,.int .i64 0]))))))) else bif (↑a:Int)==2 then .need ((0:Int)<=0/\0<(↑a:Int)) (.someA d fun i=>.li (i.add 0) fun g=>.need ((0:Int)<=1/\1<(↑a:Int)) (.someA d fun d=>.li (d.add 1) fun a=>bif g==a then .rn [false,.int .i64 0,.int .i64 0] else .ag [false,.int .i64 0,.int .i64 0])) else .nds [.U,.U,.U,.U,.B ((↑a:Int)==2),.val (.int .i64 (↑a:Int)),.S d a e] (.nf (decide ((↑a:Int)>2)) false (.nds [.B (decide ((↑a:Int)>2)),.B (decide ((↑a:Int)>2)),.val (.int .i64 (↑a:Int)),.S d a e] (.nf (!b) false (.nds [.B (!b),b] (.ag [false,.int .i64 0,.int .i64 0])))))) (fun c=>.popB c fun b c=>.pi c fun g c=>.pi c fun l c=>.unNil c (.need ((0:Int)<=0/\0<(↑a:Int)) (.someA d fun i=>.li (i.add 0) fun k=>.need (0<=wrap .i64 ((↑a:Int)-1)/\wrap .i64 ((↑a:Int)-1)<(↑a:Int)) (.someA d fun d=>.li (d.add ((wrap .i64 ((↑a:Int)-1)).toNat*1)) fun a=>.rt (.tuple #[.agg #[k,a],true]))))) (fun c=>.popB c fun b c=>.pi c fun a c=>.pi c fun g c=>.unNil c (.rt (.tuple #[.agg #[a,g],b]))) fun m n=>.fail)):=fk [2] [] [⟨5,[(3,.bool),(12288,.int .i64),(12289,.int .i64)],[],[],[],[]⟩] Tryz.f108
theorem w3758{e:ByteArray}:FX X 109 #[.string e] h A (.blk (.sem false (Builtin.len_ #[9] 3 #[.string e]) fun c=>.ui c fun b=>bif b==0 then .rn [.int .i64 0,false] else .sem false (Builtin.len_ #[9] 3 #[.string e]) fun c=>.ui c fun b=>bif decide (b>9) then .rn [.int .i64 0,false] else .sem false (Instr.index 9 (.string e) (.int .i64 0)) fun c=>.unI .u8 c fun b=>bif b==48 then .sem false (Builtin.len_ #[9] 3 #[.string e]) fun c=>.ui c fun b=>bif decide (b>1) then .rn [.int .i64 0,false] else .ag [.int .i64 0,false] else .ag [.int .i64 0,false]) (fun a=>.pi a fun b a=>.popB a fun d a=>.unNil a (.loop [b,d,.int .i64 0,.int .i64 0] (fun a=>.pi a fun b a=>.popB a fun d a=>.pi a fun g a=>.pi a fun f a=>.unNil a (.sem false (Builtin.len_ #[9] 3 #[.string e]) fun c=>.ui c fun j=>bif decide (f<j) then .sem false (Instr.index 9 (.string e) (.int .i64 f)) fun c=>.unI .u8 c fun k=>.cB 87 #[.int .i64 (wrap .i64 k),.int .i64 48,.int .i64 57] fun i=>bif !i then .rn [.int .i64 0,false,g,f] else .sem false (Instr.index 9 (.string e) (.int .i64 f)) fun c=>.unI .u8 c fun l=>.ag [b,d,.int .i64 (wrap .i64 (wrap .i64 (10*g)+wrap .i64 (IntKind.wrap .u8 (l-48)))),.int .i64 (wrap .i64 (f+1))] else .bk [b,d,g,f])) (fun a=>.pi a fun b a=>.popB a fun d a=>.pi a fun b a=>.pi a fun g a=>.unNil a (.rt (.tuple #[b,true]))) (fun a=>.pi a fun b a=>.popB a fun d a=>.pi a fun g a=>.pi a fun f a=>.unNil a (.rt (.tuple #[b,d]))) fun m n=>.fail)) (fun a=>.pi a fun b a=>.popB a fun d a=>.unNil a (.rt (.tuple #[b,d]))) fun m n=>.fail):=fk [] [⟨0,[(2,.int .i64),(3,.bool),(4,.int .i64),(5,.int .i64)],[],[],[],[]⟩] [⟨3,[(2,.int .i64),(3,.bool)],[],[],[],[]⟩] Tryz.f109
theorem w3773{i:ByteArray}:FX X 158 #[.string i] h A (.sem false (Sem.bind (eqGuard BinOp.eql 9 (Operand.tmp 6) (Operand.const (.string { data:=#[] })) (.string i) (.string { data:=#[] })) fun m=>binOp BinOp.eql 9 (.string i) (.string { data:=#[] })) fun g=>.unB g fun c=>bif c then .rt (.tuple #[.slice none 0 0,true]) else .cl 106 #[.string i,.int .u8 44] fun g=>.unS g fun d f e=>.loop [.slice none 0 0,false,.int .i64 0] (fun a=>.popS a fun k j e a=>.popB a fun c a=>.pi a fun b a=>.unNil a (bif decide (b<(↑f:Int)) then .need (0<=b/\b<(↑f:Int)) (.someA d fun d=>.loadStr (d.add (b.toNat*1)) fun l=>.sem false (Sem.bind (eqGuard BinOp.eql 9 (Operand.tmp 19) (Operand.const (.string { data:=#[] })) (.string l) (.string { data:=#[] })) fun m=>binOp BinOp.eql 9 (.string l) (.string { data:=#[] })) fun g=>.unB g fun n=>bif n then .rn [.slice none 0 0,false,b] else .ag [.slice k j e,c,.int .i64 (wrap .i64 (b+1))]) else .bk [.slice k j e,c,b])) (fun a=>.popS a fun k j o a=>.popB a fun c a=>.pi a fun b a=>.unNil a (.rt (.tuple #[.slice d f e,true]))) (fun a=>.popS a fun d f e a=>.popB a fun c a=>.pi a fun j a=>.unNil a (.rt (.tuple #[.slice d f e,c]))) fun p q=>.fail):=fk [] [⟨0,[(2,.slice),(3,.bool),(5,.int .i64)],[],[],[],[]⟩] [] Tryz.f158
end
end Go.Y
section
namespace Go.TM.Tp
variable {h:LH}{p:Option Addr}{n c a i:Nat}
theorem U2(a:Addr):a.add 0=a:=by unfold Addr.add;split<;>simp_all
def BsE(h:Cells)(a:Addr)(l:Bs):Prop:=h.cell? (a.add 0)=some (.string (str l))
theorem BsE.grow:Grow BsE:=fun _ _ _ _ a h=>a _ _ h
def BsEnc(l:Bs)(ws:List Value):Prop:=ws=[.string (str l)]
theorem BsEnc.len:∀ x ws,BsEnc x ws->ws.length=1:=by rintro x _ rfl;rfl
theorem BsEnc.e{h':Cells}:∀ a x ws,BsEnc x ws->(∀ (j:Nat) w,ws[j]?=some w->h'.cell? (a.add j)=some w)->BsE h' a x:=by
 rintro a x _ rfl hc;exact hc 0 _ rfl
theorem bs_one(l:Bs):∀ w∈[Value.string (str l)],isOne w=true:=by
 intro w hw;rw[List.mem_singleton]at hw;rw[hw];rfl
def BsS(h:LH)(p:Option Addr)(n c:Nat)(l:List Bs):Prop:=n<=c/\Sl BsE 1 h.get p n l
theorem BsS.le{h h':LH}{p:Option Addr}{n c:Nat}{l:List Bs}(a:h.le h')(s:BsS h p n c l):BsS h' p n c l:=⟨s.1,s.2.le BsE.grow a.1⟩
theorem BsS.at{h:LH}{p:Option Addr}{n c:Nat}{l:List Bs}(s:BsS h p n c l){i:Nat}{x:Bs}(d:l[i]?=some x):∃ a,p=some a/\h.get.cell? (a.add (i*1))=some (.string (str x)):=by
 obtain⟨a,b,e⟩:=s.2.2.2 i x d;unfold BsE at e;rw[U2]at e;exact⟨a,b,e⟩
theorem BsS.init{l:List Bs}(s:BsS h p (n+1) c l):BsS h p n c l.dropLast:=by
 obtain⟨d,s1,s2,b⟩:=s;refine⟨by omega,by simp;omega,by simp;omega,fun i x a=>b i x ?_⟩;rw[List.getElem?_dropLast]at a;split at a
 ·exact a
 ·cases a
theorem BsS.nil:BsS h none 0 0 []:=⟨Nat.le_refl _,rfl,by simp,fun i x a=>by simp at a⟩
theorem growS{h₀:LH}{el:TypeId}{l:List Bs}(g:Growing BsEnc el 1 h₀.get h.get p n c l)(a:l.length<2^60):BsS h p n c l:=by
 have b:=g.count BsEnc.len (by omega);have s:Sl BsE 1 h.get p n l:=g.sl BsEnc.len (by omega) BsEnc.e (by omega);obtain⟨_,o,_⟩:=g.row;exact⟨o.le_cap,s⟩
theorem J1(c:UInt8):∀ l:Bs,(cut c l).length<=l.length+1
 | []=>by simp[cut]
 | b::l=>by
  have:=J1 c l;have a:=Zj c l;unfold cut;split
  ·simp;omega
  ·cases e:cut c l with
   | nil=>exact absurd e a
   | cons x y=>rw[e]at this;simp at this ⊢;omega
theorem piece_split{l:Bs}(h:a<=i):l.drop a=(l.take i).drop a++l.drop i:=by
 by_cases b:i<=l.length
 ·have e:l=l.take i++l.drop i:=(List.take_append_drop i l).symm
  conv=>lhs;rw[e]
  rw[List.drop_append_of_le_length (by rw[List.length_take];omega)]
 ·rw[List.take_of_length_le (by omega),List.drop_eq_nil_of_le (by omega:l.length<=i),List.append_nil]
theorem piece_next{l:Bs}{b:UInt8}(h:a<=i)(hb:l[i]?=some b):(l.take (i+1)).drop a=(l.take i).drop a++[b]:=by
 have c:=(List.getElem?_eq_some_iff.1 hb).1;rw[List.take_add_one,hb];simp only[Option.toList_some];rw[List.drop_append_of_le_length (by rw[List.length_take];omega)]
theorem u8_ne{b c:UInt8}(h:((b.toNat:Int)==(c.toNat:Int))=false):b≠c:=by
 rintro rfl;simp at h
theorem u8_eq{b c:UInt8}(h:((b.toNat:Int)==(c.toNat:Int))=true):b=c:=by
 have:(b.toNat:Int)=c.toNat:=by simpa using h
 exact UInt8.toNat_inj.1 (by omega)
end Go.TM.Tp
namespace Go.Y.Txt
open Go.TM.Tp
open Go.Lib (decDigits)
attribute [local irreducible] T.wp CV FWK
theorem undS:Tryz.prog.underlying 9=some .string:=by kernel_rfl
theorem undSs:Tryz.prog.underlying 81=some (.slice 9):=by kernel_rfl
theorem infS:(Tryz.prog.info? 9).map (fun i=>(i.size,i.bytes,i.zero))=some (1,16,some (.string ⟨#[]⟩)):=by kernel_rfl
theorem undIs:Tryz.prog.underlying 47=some (.slice 3):=by kernel_rfl
theorem infI:(Tryz.prog.info? 3).map (fun i=>(i.size,i.bytes,i.zero))=some (1,8,some (.int .i64 0)):=by kernel_rfl
theorem Um{X:XP}{Q:Leaf->LH->Prop}{h₀ h:LH}{K:Option Addr->Nat->Nat->T}{p:Option Addr}{n c:Nat}{l:List Bs}(x:Bs)(t:l.length<=2^29)(g:Growing BsEnc 9 1 h₀.get h.get p n c l)(hle:h₀.le h)
 (o:∀ e d h',h₀.le h'->h.get.le h'.get\/True->Growing BsEnc 9 1 h₀.get h'.get e (n+1) d (l++[x])->(K e (n+1) d).wp X Tryz.prog Q h') :
  (T.sem false (Instr.buildSlice 81 1 #[(0,.string (str x))]) fun v=>T.unS v fun a m mc=>T.sem false (Builtin.append_ #[81,81] 81 #[.slice p n c,.slice a m mc]) fun v=>T.unS v K).wp X Tryz.prog Q h:=by
 have u:=g.count BsEnc.len (by omega);refine Zq [.string (str x)] undSs infS (by decide) (by decide) (by kernel_rfl) ?_;intro r s b _ f;refine gZ ?_;refine Hh (h₀:=h₀) (Enc:=BsEnc) x [.string (str x)] rfl rfl undSs infS rfl (by omega) (by omega) (g.le b.1) (LH.le_trans hle b) rfl rfl f (bs_one x) ?_;intro e d k i q j;refine gZ ?_;exact o e d k i (.inr trivial) j
theorem c3755{h:LH}(l:Bs)(c:UInt8)(D:l.length<=2^20):Gr Tryz.prog 106 #[.string (str l),.int .u8 (c.toNat:Int)] h fun r h'=>∃ p n k,r=.slice p n k/\BsS h' p n k (cut c l):=by
 refine w3755 Qk ?_;have w:=J1 c l;refine Ja (fun x vs h'=>h.le h'/\∃ (p:Option Addr) (n k f i:Nat) (acc:List Bs),vs=[.slice p n k,.int .i64 f,.int .i64 i]/\f<=i/\i<=l.length/\x=l.length-i/\Growing BsEnc 9 1 h.get h'.get p n k acc/\c∉(l.take i).drop f/\cut c l=acc++cut c (l.drop f))
  (fun vs h'=>h.le h'/\∃ (p:Option Addr) (n k f:Nat) (i:Int) (acc:List Bs),vs=[.slice p n k,.int .i64 f,.int .i64 i]/\f<=l.length/\Growing BsEnc 9 1 h.get h'.get p n k acc/\cut c l=acc++[l.drop f])
  ⟨LH.le_refl _,none,0,0,0,0,[],rfl,Nat.le_refl _,Nat.zero_le _,rfl,Growing.nil,by simp,rfl⟩ ?_ ?_
 ·rintro Y x vs A v ⟨d,p,n,k,f,i,acc,rfl,e,C,rfl,g,j,he⟩;have o:acc.length<=l.length+1:=by
   have:=congrArg List.length he;rw[List.length_append]at this;omega
  refine gZ ?_;refine Q5 undS ?_;refine yJ (fun y=>?_) (fun y=>?_)
  ·have a:i<l.length:=by omega
   have hb:=List.getElem?_eq_getElem a;generalize l[i]=b at hb;refine J3 undS hb ?_;refine yI (fun s=>?_) (fun s=>?_)
   ·have:=u8_eq s;subst this;refine Us undS e C ?_;refine gZ ?_;refine Um ((l.take i).drop f) (by omega) g d fun u q h' m _ g'=>?_;refine Qi (v (l.length-(i+1)) _ _ (by omega) ⟨m,u,n+1,q,i+1,i+1,acc++[(l.take i).drop f],?_,Nat.le_refl _,a,rfl,g',?_,?_⟩)
    ·rw[Qh (by omega) (by omega)];rfl
    ·rw[List.drop_eq_nil_of_le (by rw[List.length_take];omega)];simp
    ·rw[he,piece_split e,List.drop_eq_getElem_cons a];have t:l[i]=b:=by
      have:=List.getElem?_eq_getElem a;rw[hb]at this;exact(Option.some.inj this).symm
     rw[t,Zz j,List.append_assoc];rfl
   ·refine Qi (v (l.length-(i+1)) _ _ (by omega) ⟨d,p,n,k,f,i+1,acc,?_,by omega,a,rfl,g,?_,he⟩)
    ·rw[Qh (by omega) (by omega)];rfl
    ·rw[piece_next e hb];intro hm;rcases List.mem_append.1 hm with hm|hm
     ·exact j hm
     ·exact u8_ne s (List.mem_singleton.1 hm).symm
  ·have z:i=l.length:=by omega
   subst z;rw[List.take_of_length_le (Nat.le_refl _)]at j;exact gH ⟨d,p,n,k,f,_,acc,rfl,e,g,by rw[he,Zs j]⟩
 ·rintro vs A ⟨d,p,n,k,f,i,acc,rfl,B,g,he⟩;have o:acc.length<=l.length+1:=by
   have:=congrArg List.length he;rw[List.length_append]at this;omega
  refine gZ ?_;refine K2 undS B ?_;refine gZ ?_;refine Um (l.drop f) (by omega) g d fun u q h' m _ g'=>?_;refine Qa ⟨m,u,n+1,q,rfl,?_⟩;rw[he];exact growS g' (by simp;omega)
end Go.Y.Txt
end
section
namespace Go.TM.Tp
theorem U6{n:Int}(h:0<=n/\n<=255):IntKind.wrap .u8 n=n:=by
 have:=Int.emod_eq_of_lt (a:=n) (b:=256) (by omega) (by omega);simp[IntKind.wrap,IntKind.signed,IntKind.bits];omega
theorem Gi{b:UInt8}:digit b=true↔48<=b.toNat/\b.toNat<=57:=by
 unfold digit;rw[Bool.and_eq_true,decide_eq_true_eq,decide_eq_true_eq,UInt8.le_iff_toNat_le,UInt8.le_iff_toNat_le];exact Iff.rfl
theorem val_snoc(l:Bs)(b:UInt8):valL (l++[b])=10*valL l+(b.toNat-48):=by unfold valL;rw[List.foldl_append];rfl
theorem val_lt:∀ {l:Bs},l.all digit=true->valL l<10^l.length:=by
 have key:∀ (l:Bs) (a:Nat),l.all digit=true->l.foldl (fun n b=>10*n+(b.toNat-48)) a<(a+1)*10^l.length:=by
  intro l
  induction l with
  | nil=>intro a _;simp
  | cons b l e =>
   intro a h;simp only[List.all_cons,Bool.and_eq_true]at h;have c:=e (10*a+(b.toNat-48)) h.2;have f:=(Gi.1 h.1).2;have d:10*a+(b.toNat-48)+1<=(a+1)*10:=by omega
   rw[List.foldl_cons,List.length_cons,Nat.pow_succ,Nat.mul_comm (10^l.length) 10,<- Nat.mul_assoc];exact Nat.lt_of_lt_of_le c (Nat.mul_le_mul_right _ d)
 intro l h;have:=key l 0 h;rw[Nat.zero_add,Nat.one_mul]at this;exact this
theorem all_take{l:Bs}{i:Nat}{b:UInt8}(hb:l[i]?=some b):(l.take (i+1)).all digit=((l.take i).all digit&&digit b):=by
 rw[List.take_add_one,hb];simp[List.all_append]
theorem all_false{l:Bs}{i:Nat}{b:UInt8}(hb:l[i]?=some b)(a:digit b=false):l.all digit=false:=by
 rw[Bool.eq_false_iff];intro h;have:=List.all_eq_true.1 h b (List.mem_of_getElem? hb);rw[a]at this;cases this
def optV(o:Option Nat):Value:=match o with
 | some n=>.tuple #[.int .i64 (n:Int),.bool true]
 | none=>.tuple #[.int .i64 0,.bool false]
end Go.TM.Tp
namespace Go.Y.Txt
open Go.TM.Tp
open Go.Lib (decDigits)
attribute [local irreducible] T.wp CV FWK
def inI(n a b:Int):Bool:=decide (a<=n)&&decide (n<=b)
theorem k49{h:LH}(n a b:Int):Pu Tryz.prog 87 #[n,a,b] h (.bool (inI n a b)):=by
 refine w49 _ _ _ Qk ?_;unfold n49;refine Ql (fun e=>?_) (fun e=>?_)
 ·exact Qa ⟨by rw[inI,e,Bool.true_and],rfl⟩
 ·exact Qa ⟨by rw[inI,e,Bool.false_and],rfl⟩
theorem inI_digit(b:UInt8):inI (b.toNat:Int) 48 57=digit b:=by
 have a:=Gi (b:=b);unfold inI;by_cases h:48<=b.toNat/\b.toNat<=57
 ·rw[a.2 h,decide_eq_true (by omega),decide_eq_true (by omega)];rfl
 ·have d:digit b=false:=by
   rw[Bool.eq_false_iff];exact fun e=>h (a.1 e)
  rw[d];by_cases c:(48:Int)<=b.toNat
  ·rw[decide_eq_true c,decide_eq_false (by omega)];rfl
  ·rw[decide_eq_false c];rfl
theorem c3758{h:LH}(l:Bs)(B:l.length<=2^20):Pu Tryz.prog 109 #[.string (str l)] h (optV (numL l)):=by
 refine w3758 Qk ?_;have no:∀ {P:Prop},(numL l≠none->P)->¬ P->numL l=none:=fun t u=>by
  cases e:numL l with
  | none=>rfl
  | some n=>exact absurd (t (by rw[e];simp)) u
 have cond:numL l≠none->(1<=l.length/\l.length<=9)/\l.all digit=true/\(l.head?=some 48->l.length=1):=fun c=>by
  unfold numL at c;split at c
  ·assumption
  ·exact absurd rfl c
 refine Q1 (fun vs h'=>vs=[.int .i64 0,.bool false]/\h=h'/\(1<=l.length/\l.length<=9)/\(l.head?=some 48->l.length=1)) ?_ ?_
 ·refine Q5 undS ?_;refine yI (fun e=>?_) (fun e=>?_)
  ·have y:l.length=0:=by simpa using e
   refine gI ?_;refine gZ ?_;exact Qa ⟨by rw[no (fun c=>(cond c).1.1) (by omega)];rfl,rfl⟩
  have q:l.length≠0:=by simpa using e
  refine Q5 undS ?_;refine yJ (fun k=>?_) (fun k=>?_)
  ·refine gI ?_;refine gZ ?_;exact Qa ⟨by rw[no (fun c=>(cond c).1.2) (by omega)];rfl,rfl⟩
  obtain⟨b,r,rfl⟩ : ∃ b r,l=b::r:=by
   cases l with
   | nil=>exact absurd rfl q
   | cons b r=>exact⟨b,r,rfl⟩
  refine J3 (i:=0) undS rfl ?_;refine yI (fun d=>?_) (fun d=>?_)
  ·refine Q5 undS ?_;refine gZ ?_;have hb:b=48:=UInt8.toNat_inj.1 (by
    have:(b.toNat:Int)=48:=by simpa using d
    show b.toNat=48;omega)
   refine t_if (fun m=>?_) (fun m=>?_)
   ·refine gI ?_;refine gZ ?_;exact Qa ⟨by rw[no (fun c=>(cond c).2.2 (by rw[hb];rfl)) (by omega)];rfl,rfl⟩
   ·exact Qi ⟨rfl,rfl,by omega,fun _=>by omega⟩
  ·refine Qi ⟨rfl,rfl,by omega,fun o=>?_⟩;simp only[List.head?_cons,Option.some.injEq]at o;subst o;simp at d
 rintro vs _ ⟨rfl,rfl,hlen,f⟩;refine gZ ?_;refine Ja (fun p vs h'=>h=h'/\∃ i:Nat,vs=[.int .i64 0,.bool false,.int .i64 (valL (l.take i):Nat),.int .i64 i]/\i<=l.length/\p=l.length-i/\(l.take i).all digit=true)
  (fun vs h'=>h=h'/\∃ i:Int,vs=[.int .i64 0,.bool false,.int .i64 (valL l:Nat),.int .i64 i]/\l.all digit=true) ⟨rfl,0,by simp[valL],Nat.zero_le _,rfl,by simp⟩ ?_ ?_
 ·rintro Y p vs _ v ⟨rfl,i,rfl,A,rfl,a⟩;refine gZ ?_;refine Q5 undS ?_;refine yJ (fun k=>?_) (fun k=>?_)
  ·have g:i<l.length:=by omega
   have hb:=List.getElem?_eq_getElem g;generalize l[i]=b at hb;have w:=b.toNat_lt;refine J3 undS hb ?_;refine gZ ?_;rw[Qh (by omega) (by omega)];refine t_pu (k49 _ _ _) ?_;rw[inI_digit];refine yI (fun d=>?_) (fun d=>?_)
   ·refine gI ?_;refine gZ ?_;have j:digit b=false:=by simpa using d
    refine Qa ⟨?_,rfl⟩;rw[no (fun c=>(cond c).2.1) (by rw[all_false hb j];simp)];rfl
   ·have j:digit b=true:=by simpa using d
    have x:=Gi.1 j;have hv:=val_lt a;have z:10^(l.take i).length<=10^9:=Nat.pow_le_pow_right (by omega) (by rw[List.length_take];omega);refine J3 undS hb ?_;refine gZ ?_;refine Qi (v (l.length-(i+1)) _ _ (by omega) ⟨rfl,i+1,?_,g,rfl,by rw[all_take hb,a,j];rfl⟩);have m:valL (l.take (i+1))=10*valL (l.take i)+(b.toNat-48):=by rw[List.take_add_one,hb];exact val_snoc _ _
    rw[U6 (by omega),Qh (n:=10*(valL (l.take i):Int)) (by omega) (by omega),Qh (n:=(b.toNat:Int)-48) (by omega) (by omega),Qh (by omega) (by omega),Qh (by omega) (by omega),m];congr 3
    ·congr 1;omega
  ·have s:i=l.length:=by omega
   subst s;rw[List.take_of_length_le (Nat.le_refl _)]at a ⊢;exact gH ⟨rfl,_,rfl,a⟩
 ·rintro vs _ ⟨rfl,i,rfl,a⟩;refine gZ ?_;refine Qa ⟨?_,rfl⟩;unfold numL;rw[if_pos ⟨hlen,a,f⟩];rfl
end Go.Y.Txt
end
section
namespace Go.TM.Tp
open Go.Lib (decDigits)
def text(bs:List Bs):Bs:=bs.flatMap fun b=>b++[10]
def rowS(w:Bs)(fs:List Bs):Bs:=w++58::(fs.flatMap fun f=>f++[59])
theorem G2(w:Bs)(fs:List Bs):lineS w fs=rowS w fs++[10]:=by simp[lineS,rowS]
/-! ### A file of a 5 -/
def wUse:Bs:=[117,115,101]
def wExcuse:Bs:=[101,120,99,117,115,101]
def wPaper:Bs:=[112,97,112,101,114]
def wRequest:Bs:=[114,101,113,117,101,115,116]
inductive LU where
 | use (a b c d:Nat)
 | excuse (a b:Nat)
 | paper (a b l:Nat) (items:List Nat)
 | request (d l:Nat) (items:List Nat)
def LU.place:LU->Nat
 | .use ..=>0
 | .excuse ..=>1
 | .paper ..=>2
 | .request ..=>3
def itemU(w:Bs)(f:List Bs):Option LU :=
 if w=wUse then (match numsL f with|some [a,b,c,d]=>some (.use a b c d)|_=>none)
 else if w=wExcuse then (match f with | [x]=>(rangeL x).map fun p=>.excuse p.1 p.2|_=>none)
 else if w=wPaper then (match f with | [x,y,z]=>(rangeL x).bind fun p=>(numL y).bind fun l=>(listL z).map fun m=>.paper p.1 p.2 l m|_=>none)
 else if w=wRequest then (match f with | [x,y,z]=>(numL x).bind fun d=>(numL y).bind fun l=>(listL z).map fun m=>.request d l m|_=>none)
 else none
def lineU(l:Bs):Option LU:=(fieldsL l).bind fun x=>itemU x.1 x.2
def ints(l:List Nat):List Int:=l.map fun n:Nat=>(n:Int)
def LU.put(u:UseFile):LU->UseFile
 | .use a b c d=>{ u with items:=a,lands:=b,from_:=c,idle:=d }
 | .excuse a b=>{ u with excuses:=u.excuses++[⟨a,b⟩] }
 | .paper a b l m=>{ u with papers:=u.papers++[⟨⟨a,b⟩,l,ints m⟩] }
 | .request d l m=>{ u with requests:=u.requests++[⟨d,l,ints m⟩] }
def noFile:UseFile:=⟨0,0,0,0,[],[],[]⟩
def goU:Nat->Nat->UseFile->List Bs->UseFile×Option Nat
 | _,_,u,[]=>(u,none)
 | n,p,u,b::bs =>
  match lineU b with
  | none=>(u,some (n+1))
  | some x=>if x.place<p\/(x.place=0↔n≠0) then (u,some (n+1)) else goU (n+1) x.place (x.put u) bs
def parseU(t:Bs):UseFile×Nat×Int :=
 if 60000<t.length then (noFile,0,2)
 else match goU 0 0 noFile (linesL t) with
  | (_,some n)=>(noFile,n,3)
  | (u,none)=>if linesL t=[] then (noFile,0,3) else if checkF u≠0 then (noFile,0,checkF u) else (u,0,0)
def di(n:Int):Bs:=decDigits n.toNat
def da(x:Span):Bs:=dash x.first.toNat x.last.toNat
def li(l:List Int):Bs:=listS (l.map Int.toNat)
def rowsU(u:UseFile):List Bs:=rowS wUse [di u.items,di u.lands,di u.from_,di u.idle] ::
 (u.excuses.map fun x=>rowS wExcuse [da x])++(u.papers.map fun p=>rowS wPaper [da p.days,di p.land,li p.items])++(u.requests.map fun r=>rowS wRequest [di r.day,di r.land,li r.items])
def textU(u:UseFile):Bs:=text (rowsU u)
def printU(u:UseFile):Bs×Int:=if checkF u≠0 then ([],checkF u) else if 60000<(textU u).length then ([],2) else (textU u,0)
def Fits(n:Int):Prop:=0<=n/\n<1000000000
theorem Fits.lt{n:Int}(h:Fits n):n.toNat<10^9:=by unfold Fits at h;omega
def FitsAll(u:UseFile):Prop:=(Fits u.items/\Fits u.lands/\Fits u.from_/\Fits u.idle)/\(∀ x∈u.excuses,Fits x.first/\Fits x.last) /\
 (∀ p∈u.papers,Fits p.days.first/\Fits p.days.last/\Fits p.land/\∀ n∈p.items,Fits n)/\∀ r∈u.requests,Fits r.day/\Fits r.land/\∀ n∈r.items,Fits n
end Go.TM.Tp
end
section
namespace Go.TM.Tp
theorem D7:∀ (l:List Bs) (x:Bs),numsL (l++[x])=(numsL l).bind fun m=>(numL x).map fun n=>m++[n]
 | [],x=>by
  rw[List.nil_append,Z3,numsL_nil];cases numL x<;>rfl
 | a::l,x=>by
  rw[List.cons_append,Z3,Z3,D7 l x];cases numL a with
  | none=>rfl
  | some n=>cases numsL l with
   | none=>rfl
   | some m=>cases numL x<;>rfl
theorem Hl{x:Bs}(b:numL x=none):∀ {l:List Bs},x∈l->numsL l=none
 | [],h=>by cases h
 | a::l,h=>by
  rw[Z3];rcases List.mem_cons.1 h with rfl|h
  ·rw[b];rfl
  ·rw[Hl b h];cases numL a<;>rfl
theorem Ka:∀ {l:List Bs} {m:List Nat},numsL l=some m->m.length=l.length
 | [],m,h=>by cases h;rfl
 | a::l,m,h=>by
  rw[Z3]at h;cases c:numL a with
  | none=>rw[c]at h;cases h
  | some n =>
   rw[c]at h;cases b:numsL l with
   | none=>rw[b]at h;cases h
   | some k =>
    rw[b]at h;cases h;simp[Ka b]
theorem U0(c:UInt8):∀ l:Bs,cut c (l++[c])=cut c l++[[]]
 | []=>by simp[cut]
 | b::l=>by
  have a:=Zj c l;rw[List.cons_append,cut,cut,U0 c l];split
  ·rfl
  ·cases e:cut c l with
   | nil=>exact absurd e a
   | cons x y=>rfl
theorem cut_last{c:UInt8}{r:Bs}(h:(cut c r).getLast?=some []):r=[]\/∃ x,r=x++[c]/\cut c x=(cut c r).dropLast:=by
 rcases List.eq_nil_or_concat r with e|⟨x,b,rfl⟩
 ·exact .inl e
 ·rw[List.concat_eq_append]at h ⊢;by_cases e:b=c
  ·subst e;exact .inr ⟨x,rfl,by rw[U0,List.dropLast_concat]⟩
  ·exfalso;have key:∀ x:Bs,(cut c (x++[b])).getLast?≠some []:=by
    intro x
    induction x with
    | nil=>rw[List.nil_append,Zs (by simp;exact fun i=>e i.symm)];simp
    | cons a x f =>
     have d:=Zj c (x++[b]);rw[List.cons_append,cut];split
     ·rw[List.getLast?_cons_of_ne_nil d];exact f
     ·cases g:cut c (x++[b]) with
      | nil=>exact absurd g d
      | cons p ps =>
       rw[g]at f;cases ps with
       | nil=>simp
       | cons q j=>simpa using f
   exact key x h
def fieldsR(l:Bs):Option (Bs×List Bs) :=
 match cut 58 l with
 | w::p::ps =>
  let r:=joinS 58 (p::ps)
  if w=[] then none else if (cut 59 r).getLast?=some [] then some (w,(cut 59 r).dropLast) else none
 | _=>none
theorem item_none(w:Bs):itemU w []=none:=by
 unfold itemU;split
 ·rfl
 ·split
  ·rfl
  ·split
   ·rfl
   ·split<;>rfl
theorem line_ref(l:Bs):((fieldsR l).bind fun x=>itemU x.1 x.2)=lineU l:=by
 unfold lineU fieldsR fieldsL;cases cut 58 l with
 | nil=>rfl
 | cons w q =>
  cases q with
  | nil=>rfl
  | cons p ps =>
   simp only[];generalize joinS 58 (p::ps)=r;by_cases hw:w=[]
   ·rw[if_pos hw,if_pos hw]
   ·rw[if_neg hw,if_neg hw];by_cases h:(cut 59 r).getLast?=some []
    ·rw[if_pos h];rcases cut_last h with rfl|⟨x,rfl,d⟩
     ·show itemU w []=_;rw[item_none];rfl
     ·rw[if_pos (by simp),<- d,List.dropLast_concat]
    ·rw[if_neg h];by_cases a:r.getLast?=some 59
     ·exfalso;rcases List.eq_nil_or_concat r with c|⟨x,b,rfl⟩
      ·rw[c]at a;cases a
      ·rw[List.concat_eq_append,List.getLast?_concat]at a;cases a;rw[List.concat_eq_append,U0]at h;simp at h
     ·rw[if_neg a]
end Go.TM.Tp
end
section
namespace Go.TM.Tp
def InS(h:LH)(p:Option Addr)(n c:Nat)(l:List Int):Prop:=n<=c/\Sl IntE 1 h.get p n l
theorem InS.le{h h':LH}{p:Option Addr}{n c:Nat}{l:List Int}(a:h.le h')(s:InS h p n c l):InS h' p n c l:=⟨s.1,s.2.le IntE.grow a.1⟩
theorem InS.at{h:LH}{p:Option Addr}{n c:Nat}{l:List Int}(s:InS h p n c l){i:Nat}{x:Int}(d:l[i]?=some x):∃ a,p=some a/\h.get.cell? (a.add (i*1))=some (.int .i64 x):=by
 obtain⟨a,b,e⟩:=s.2.2.2 i x d;unfold IntE at e;rw[U2]at e;exact⟨a,b,e⟩
theorem InS.nil{h:LH}:InS h none 0 0 []:=⟨Nat.le_refl _,rfl,by simp,fun i x a=>by simp at a⟩
theorem growI{h₀ h:LH}{el:TypeId}{p:Option Addr}{n c:Nat}{l:List Int}(g:Growing IntEnc el 1 h₀.get h.get p n c l)(a:l.length<2^60):InS h p n c l:=by
 have s:Sl IntE 1 h.get p n l:=g.sl IntEnc.len (by omega) IntEnc.e (by omega);obtain⟨_,o,_⟩:=g.row;exact⟨o.le_cap,s⟩
theorem Zh{c:UInt8}:∀ {l x:Bs},x∈cut c l->x.length<=l.length
 | [],x,a=>by simp only[cut,List.mem_singleton]at a;rw[a];exact Nat.le_refl _
 | b::l,x,a=>by
  have d:=Zj c l;unfold cut at a;split at a
  ·rcases List.mem_cons.1 a with a|a
   ·rw[a];exact Nat.zero_le _
   ·exact Nat.le_succ_of_le (Zh a)
  ·rcases List.mem_cons.1 a with a|a
   ·have f:(cut c l).headD []∈cut c l:=by
     cases e:cut c l with
     | nil=>exact absurd e d
     | cons u w=>simp
    rw[a];exact Nat.succ_le_succ (Zh f)
   ·exact Nat.le_succ_of_le (Zh (List.mem_of_mem_tail a))
theorem Jr{α:Type}{l:List α}{i:Nat}{x:α}(h:l[i]?=some x):l.take (i+1)=l.take i++[x]:=by
 rw[List.take_add_one,h];rfl
end Go.TM.Tp
namespace Go.Y.Txt
open Go.TM.Tp
open Go.Lib (decDigits)
attribute [local irreducible] T.wp CV FWK
variable {h:LH}{p:Option Addr}{n c:Nat}
theorem t_pushN{X:XP}{Q:Leaf->LH->Prop}{h₀:LH}{K:Option Addr->Nat->Nat->T}{l:List Int}(x:Int)(t:l.length<=2^29)(g:Growing IntEnc 3 1 h₀.get h.get p n c l)(hle:h₀.le h)
 (o:∀ e d h',h₀.le h'->Growing IntEnc 3 1 h₀.get h'.get e (n+1) d (l++[x])->(K e (n+1) d).wp X Tryz.prog Q h') :
  (T.sem false (Instr.buildSlice 47 1 #[(0,.int .i64 x)]) fun v=>T.unS v fun a m mc=>T.sem false (Builtin.append_ #[47,47] 47 #[.slice p n c,.slice a m mc]) fun v=>T.unS v K).wp X Tryz.prog Q h:=by
 have u:=g.count IntEnc.len (by omega);refine Zq [.int .i64 x] undIs infI (by decide) (by decide) (by kernel_rfl) ?_;intro r s b _ f;refine gZ ?_;refine Hh (h₀:=h₀) (Enc:=IntEnc) x [.int .i64 x] rfl rfl undIs infI rfl (by omega) (by omega) (g.le b.1) (LH.le_trans hle b) rfl rfl f (by intro w hw;rw[List.mem_singleton]at hw;rw[hw];rfl) ?_;intro e d k i q j;refine gZ ?_;exact o e d k i j
def NumsA(o:Option (List Nat))(r:Value)(h:LH):Prop:=match o with
 | some m=>∃ p n c,r=.tuple #[.slice p n c,.bool true]/\InS h p n c (ints m)
 | none=>r=.tuple #[.slice none 0 0,.bool false]
theorem c3756{l:List Bs}(s:BsS h p n c l)(G:l.length<=2^20)(hb:∀ x∈l,x.length<=2^20):Gr Tryz.prog 107 #[.slice p n c] h fun r h'=>NumsA (numsL l) r h':=by
 refine w3756 Qk ?_;have H:=s.2.1;refine Ja (fun u vs h'=>h.le h'/\∃ (q:Option Addr) (m k i:Nat) (acc:List Nat),vs=[.slice none 0 0,.bool false,.slice q m k,.int .i64 i]/\i<=n/\u=n-i/\numsL (l.take i)=some acc/\Growing IntEnc 3 1 h.get h'.get q m k (ints acc))
  (fun vs h'=>h.le h'/\∃ (q:Option Addr) (m k:Nat) (i:Int) (acc:List Nat),vs=[.slice none 0 0,.bool false,.slice q m k,.int .i64 i]/\numsL l=some acc/\Growing IntEnc 3 1 h.get h'.get q m k (ints acc))
  ⟨LH.le_refl _,none,0,0,0,[],rfl,Nat.zero_le _,rfl,rfl,Growing.nil⟩ ?_ ?_
 ·rintro Y u vs A B ⟨e,q,m,k,i,acc,rfl,F,rfl,b,g⟩;have j:=Ka b;rw[List.length_take]at j;refine yJ (fun y=>?_) (fun y=>?_)
  ·have o:=List.getElem?_eq_getElem (show i<l.length by omega);have f:=List.getElem_mem (show i<l.length by omega);generalize l[i]=x at o f;obtain⟨a,E,z⟩:=(s.le e).at o;have C:0<=(i:Int)/\(i:Int)<(n:Int):=by omega
   refine gZ ?_;refine Qt (by rw[Int.toNat_natCast];exact z) ?_;refine t_pu (c3758 x (hb x f)) ?_;have d:=D7 (l.take i) x;rw[<- Jr o,b]at d;cases hv:numL x with
   | none =>
    unfold optV;refine yT ?_;refine gI ?_;refine gZ ?_;refine Qa ⟨e,?_⟩;rw[Hl hv f];exact rfl
   | some v =>
    unfold optV;rw[hv]at d;refine yF ?_;refine t_pushN (v:Int) (by unfold ints;rw[List.length_map];omega) g e fun D w h' t g'=>?_;refine Qi (B (n-(i+1)) _ _ (by omega) ⟨t,D,m+1,w,i+1,acc++[v],?_,by omega,rfl,d,?_⟩)
    ·rw[Qh (by omega) (by omega)];rfl
    ·unfold ints at g' ⊢;rw[List.map_append];exact g'
  ·rw[List.take_of_length_le (by omega)]at b;exact gH ⟨e,q,m,k,_,acc,rfl,b,g⟩
 ·rintro vs A ⟨e,q,m,k,i,acc,rfl,b,g⟩;have j:=Ka b;refine gZ ?_;refine Qa ⟨e,?_⟩;rw[b];exact⟨q,m,k,rfl,growI g (by unfold ints;rw[List.length_map];omega)⟩
def rangeV(o:Option (Nat×Nat)):Value:=match o with
 | some p=>.tuple #[.agg #[.int .i64 (p.1:Int),.int .i64 (p.2:Int)],.bool true]
 | none=>.tuple #[.agg #[.int .i64 0,.int .i64 0],.bool false]
theorem c3757(l:Bs)(J:l.length<=2^19):Gr Tryz.prog 108 #[.string (str l)] h fun r _=>r=rangeV (rangeL l):=by
 refine w3757 Qk ?_;have G:=J1 45 l;have B:∀ x∈cut 45 l,x.length<=2^20:=fun x y=>by
  have:=Zh y;omega
 refine t_gr (c3755 (h:=h) l 45 (by omega)) ?_;rintro _ I C ⟨p,n,k,rfl,s⟩;refine gZ ?_;refine t_gr (c3756 s (by omega) B) ?_;intro r F D hr;have d:=LH.le_trans C D;have A:=Zj 45 l;cases hv:numsL (cut 45 l) with
 | none =>
  rw[hv]at hr;have hr:r=.tuple #[.slice none 0 0,.bool false]:=hr;subst hr;have e:rangeL l=none:=by unfold rangeL;rw[hv]
  rw[e];refine gZ ?_;refine Q1 (fun vs h'=>False) ?_ (fun _ _ v=>v.elim);refine yT ?_;refine gZ ?_;exact Qa ⟨d,rfl⟩
 | some m =>
  rw[hv]at hr;obtain⟨q,E,K,rfl,o⟩:=hr;have f:=Ka hv;have u:=o.2.1;have g:(ints m).length=m.length:=by unfold ints;simp
  refine gZ ?_
  match m,hv,o,f,g with
  | [],hv,o,f,g =>
   exfalso;cases e:cut 45 l with
   | nil=>exact A e
   | cons a b=>rw[e]at f;simp at f
  | [a],hv,o,f,g =>
   have e:rangeL l=some (a,a):=by unfold rangeL;rw[hv]
   rw[e];have j:E=1:=by rw[u];rfl
   subst j;obtain⟨x,y,z⟩:=o.at (i:=0) (x:=(a:Int)) rfl;rw[Nat.zero_mul]at z;refine Q1 (fun vs h'=>vs=[.bool false,.int .i64 0,.int .i64 0]/\F=h') ?_ ?_
   ·refine yF ?_;refine gZ ?_;refine t_if (fun e=>absurd e (by decide)) (fun _=>?_);refine gZ ?_;refine Ql (fun e=>absurd e (by decide)) (fun _=>?_);refine gZ ?_;exact Qi ⟨rfl,rfl⟩
   rintro vs _ ⟨rfl,rfl⟩;have w1:wrap .i64 (((1:Nat):Int)-1)=0:=by rw[Qh (by omega) (by omega)];rfl
   rw[w1];refine gZ ?_;exact Qa ⟨d,rfl⟩
  | [a,b],hv,o,f,g =>
   have j:E=2:=by rw[u];rfl
   subst j;obtain⟨x,y,z⟩:=o.at (i:=0) (x:=(a:Int)) rfl;obtain⟨L,w,H⟩:=o.at (i:=1) (x:=(b:Int)) rfl;rw[y]at w;cases w;rw[Nat.zero_mul]at z;rw[Nat.one_mul]at H;by_cases t:a=b
   ·have e:rangeL l=none:=by unfold rangeL;rw[hv];simp[t]
    rw[e];refine Q1 (fun vs h'=>False) ?_ (fun _ _ v=>v.elim);refine yF ?_;refine gZ ?_;refine t_if (fun e=>absurd e (by decide)) (fun _=>?_);refine gZ ?_;refine Ql (fun _=>?_) (fun e=>absurd e (by decide));refine gZ ?_;refine Ql (fun _=>?_) (fun e=>absurd e (by simp[t]));refine gZ ?_;exact Qa ⟨d,rfl⟩
   ·have e:rangeL l=some (a,b):=by unfold rangeL;rw[hv];simp[t]
    rw[e];refine Q1 (fun vs h'=>vs=[.bool false,.int .i64 0,.int .i64 0]/\F=h') ?_ ?_
    ·refine yF ?_;refine gZ ?_;refine t_if (fun e=>absurd e (by decide)) (fun _=>?_);refine gZ ?_;refine Ql (fun _=>?_) (fun e=>absurd e (by decide));refine gZ ?_;refine Ql (fun e=>absurd e (by simp;omega)) (fun _=>?_);refine gZ ?_;exact Qi ⟨rfl,rfl⟩
    rintro vs _ ⟨rfl,rfl⟩;have w1:wrap .i64 (((2:Nat):Int)-1)=1:=by rw[Qh (by omega) (by omega)];rfl
    rw[w1];refine gZ ?_;exact Qa ⟨d,rfl⟩
  | a::b::c::m,hv,o,f,g =>
   have e:rangeL l=none:=by unfold rangeL;rw[hv]
   rw[e];refine Q1 (fun vs h'=>False) ?_ (fun _ _ v=>v.elim);refine yF ?_;refine gZ ?_;refine t_if (fun _=>?_) (fun e=>absurd (show (E:Int)>2 by rw[u,g];simp;omega) e);refine gZ ?_;exact Qa ⟨d,rfl⟩
end Go.Y.Txt
end
section
namespace Go.TM.Tp
theorem Yw{X:XP}{P:Program}{Q:Leaf->LH->Prop}{h:LH}{K:Value->T}{t:TypeId}{x y:Operand}{a b:List UInt8}(hu:P.underlying t=some .string)(c:(K (.bool (!decide (a=b)))).wp X P Q h) :
  (T.sem false (Sem.bind (eqGuard .neq t x y (.string (str a)) (.string (str b))) fun _=>binOp .neq t (.string (str a)) (.string (str b))) K).wp X P Q h:=by
 refine Q9 (A:=fun w h'=>h'=h.get/\(K w).wp X P Q h) (Qu _ _ ?_) (by rintro w h' ⟨rfl,hw⟩;exact hw);unfold eqGuard;simp only[Bool.not_true,Bool.not_false,Bool.false_eq_true,if_false,if_true,Qg];unfold binOp;show Qd P (Op.stringOp .neq (str a) (str b)) _ _ _;unfold Op.stringOp;rw[Qg];refine⟨rfl,?_⟩;have e:=str_list (str a) (str b);have:(!((str a).toList==(str b).toList)) = !decide (a=b):=by
  congr 1;by_cases h:a=b
  ·rw[decide_eq_true h,e.2 (by rw[h])]
  ·rw[decide_eq_false h,Bool.eq_false_iff];exact fun h'=>h (str_inj (e.1 h'))
 first
  | exact(congrArg (fun b=>(K (.bool b)).wp X P Q h) this).mpr c
  | (simp only[bne];rw[this];exact c)
theorem fieldsR_none{l:Bs}(h:(58:UInt8)∉l):fieldsR l=none:=by unfold fieldsR;rw[Zs h]
theorem fieldsR_some{w r:Bs}(h:(58:UInt8)∉w):fieldsR (w++58::r)=if w=[] then none else if (cut 59 r).getLast?=some [] then some (w,(cut 59 r).dropLast) else none:=by
 have a:=Zj 58 r;unfold fieldsR;rw[Zz h];cases e:cut 58 r with
 | nil=>exact absurd e a
 | cons p ps =>
  have:=Do 58 r;rw[e]at this;simp only[this]
theorem last_at{α:Type}{l:List α}{n:Nat}(a:n+1=l.length):l.getLast?=l[n]?:=by
 rw[List.getLast?_eq_getElem?];congr 1;omega
end Go.TM.Tp
namespace Go.Y.Txt
open Go.TM.Tp
open Go.Lib (decDigits)
attribute [local irreducible] T.wp CV FWK
variable {h:LH}
theorem c3773(l:Bs)(C:l.length<=2^19):Gr Tryz.prog 158 #[.string (str l)] h fun r h'=>(l=[]/\r=.tuple #[.slice none 0 0,.bool true])\/(l≠[]/\(([]∈cut 44 l/\r=.tuple #[.slice none 0 0,.bool false])\/([]∉cut 44 l/\∃ p n k,r=.tuple #[.slice p n k,.bool true]/\BsS h' p n k (cut 44 l)))):=by
 refine w3773 Qk ?_;have t:=J1 44 l;refine Zp (b:=[]) undS ?_;refine yI (fun e=>?_) (fun e=>?_)
 ·exact Qa ⟨LH.le_refl _,.inl ⟨by simpa using e,rfl⟩⟩
 have d:l≠[]:=by simpa using e
 refine t_gr (c3755 (h:=h) l 44 (by omega)) ?_;rintro _ q g ⟨p,n,k,rfl,s⟩;have D:=s.2.1;refine gZ ?_;refine Ja (fun u vs h'=>q=h'/\∃ i:Nat,vs=[.slice none 0 0,.bool false,.int .i64 i]/\i<=n/\u=n-i/\[]∉(cut 44 l).take i) (fun vs h'=>q=h'/\∃ i:Int,vs=[.slice none 0 0,.bool false,.int .i64 i]/\[]∉cut 44 l)
  ⟨rfl,0,rfl,Nat.zero_le _,rfl,by simp⟩ ?_ ?_
 ·rintro Y u vs _ y ⟨rfl,i,rfl,B,rfl,c⟩;refine yJ (fun v=>?_) (fun v=>?_)
  ·have m:=List.getElem?_eq_getElem (show i<(cut 44 l).length by omega);have f:=List.getElem_mem (show i<(cut 44 l).length by omega);generalize (cut 44 l)[i]=x at m f;obtain⟨a,A,w⟩:=s.at m;have z:0<=(i:Int)/\(i:Int)<(n:Int):=by omega
   refine gZ ?_;refine Qt (by rw[Int.toNat_natCast];exact w) ?_;refine Zp (b:=[]) undS ?_;refine yI (fun j=>?_) (fun j=>?_)
   ·have:x=[]:=by simpa using j
    subst this;refine gI ?_;refine gZ ?_;exact Qa ⟨g,.inr ⟨d,.inl ⟨f,rfl⟩⟩⟩
   ·have o:x≠[]:=by simpa using j
    refine Qi (y (n-(i+1)) _ _ (by omega) ⟨rfl,i+1,?_,by omega,rfl,?_⟩)
    ·rw[Qh (by omega) (by omega)];rfl
    ·rw[Jr m];intro hm;rcases List.mem_append.1 hm with hm|hm
     ·exact c hm
     ·exact o (List.mem_singleton.1 hm).symm
  ·rw[List.take_of_length_le (by omega)]at c;exact gH ⟨rfl,_,rfl,c⟩
 ·rintro vs _ ⟨rfl,i,rfl,c⟩;refine gZ ?_;exact Qa ⟨g,.inr ⟨d,.inr ⟨c,p,n,k,rfl,s⟩⟩⟩
theorem c3730(l:Bs)(y:l.length<=2^19):Gr Tryz.prog 51 #[.string (str l)] h fun r h'=>∃ p n k,r=.slice p n k/\BsS h' p n k (linesL l):=by
 refine w3730 Qk ?_;have q:=J1 10 l;refine t_gr (c3755 (h:=h) l 10 (by omega)) ?_;rintro _ v d ⟨p,n,k,rfl,s⟩;have z:=s.2.1;have f:=Zj 10 l;have o:0<(cut 10 l).length:=List.length_pos_iff.2 f;obtain⟨m,rfl⟩ : ∃ m,n=m+1:=⟨n-1,by omega⟩
 have g:=List.getElem?_eq_getElem (show m<(cut 10 l).length by omega);have c:=last_at (l:=cut 10 l) (n:=m) (by omega);generalize (cut 10 l)[m]=x at g;rw[g]at c;obtain⟨a,w,t⟩:=s.at g;have w1:wrap .i64 (((m+1:Nat):Int)-1)=(m:Int):=by rw[Qh (by omega) (by omega)];omega
 refine gZ ?_;rw[w1];have u:0<=(m:Int)/\(m:Int)<((m+1:Nat):Int):=by omega
 refine gZ ?_;refine Qt (by rw[Int.toNat_natCast];exact t) ?_;refine Zp (b:=[]) undS ?_;refine yI (fun e=>?_) (fun e=>?_)
 ·have:x=[]:=by simpa using e
  subst this;refine Zo undSs infS (i:=m) (by have:=s.1;omega) ?_;refine gZ ?_;refine Qa ⟨d,p,m,k,rfl,?_⟩;unfold linesL;rw[if_pos c];exact s.init
 ·have j:x≠[]:=by simpa using e
  refine Qa ⟨d,p,m+1,k,rfl,?_⟩;unfold linesL;rw[if_neg (by rw[c];simp[j])];exact s
def FieldsA(o:Option (Bs×List Bs))(r:Value)(h:LH):Prop:=match o with
 | some x=>∃ p n k,r=.tuple #[.string (str x.1),.slice p n k,.bool true]/\BsS h p n k x.2
 | none=>r=.tuple #[.string (str []),.slice none 0 0,.bool false]
theorem c3731(l:Bs)(R:l.length<=2^19):Gr Tryz.prog 52 #[.string (str l)] h fun r h'=>FieldsA (fieldsR l) r h':=by
 refine w3731 Qk ?_;refine Ja (fun L vs h'=>h=h'/\∃ i:Nat,vs=[.int .i64 i]/\i<=l.length/\L=l.length-i/\(58:UInt8)∉l.take i) (fun vs h'=>h=h'/\∃ i:Nat,vs=[.int .i64 i]/\i<=l.length/\(58:UInt8)∉l.take i/\(i<l.length->l[i]?=some 58))
  ⟨rfl,0,rfl,Nat.zero_le _,rfl,by simp⟩ ?_ ?_
 ·rintro Y L vs _ O ⟨rfl,i,rfl,D,rfl,d⟩;refine gZ ?_;refine Q5 undS ?_;refine yJ (fun M=>?_) (fun M=>?_)
  ·have v:i<l.length:=by omega
   have hb:=List.getElem?_eq_getElem v;generalize l[i]=b at hb;refine J3 undS hb ?_;refine yI (fun t=>?_) (fun t=>?_)
   ·refine Qi (O (l.length-(i+1)) _ _ (by omega) ⟨rfl,i+1,?_,v,rfl,?_⟩)
    ·rw[Qh (by omega) (by omega)];rfl
    ·rw[Jr hb];intro hm;rcases List.mem_append.1 hm with hm|hm
     ·exact d hm
     ·have:=List.mem_singleton.1 hm;subst this;simp at t
   ·refine gH ⟨rfl,i,rfl,D,d,fun _=>?_⟩;rw[hb];have:(b.toNat:Int)=58:=by simpa using t
    congr 1;exact UInt8.toNat_inj.1 (by show b.toNat=58;omega)
  ·exact gH ⟨rfl,i,rfl,D,d,fun h'=>absurd h' (by omega)⟩
 rintro vs _ ⟨rfl,i,rfl,D,d,C⟩;refine gZ ?_;by_cases g:i=l.length
 ·have z:fieldsR l=none:=fieldsR_none (by rw[g,List.take_of_length_le (Nat.le_refl _)]at d;exact d);rw[z];refine Q1 (fun vs h'=>False) ?_ (fun _ _ j=>j.elim);refine Ql (fun e=>?_) (fun e=>?_)
  ·refine gI ?_;refine gZ ?_;exact Qa ⟨LH.le_refl _,rfl⟩
  ·refine Q5 undS ?_;refine gZ ?_;refine Ql (fun t=>?_) (fun t=>absurd t (by simp[g]));refine gI ?_;refine gZ ?_;exact Qa ⟨LH.le_refl _,rfl⟩
 ·have u:i<l.length:=by omega
  have hb:=C u;have o:l=l.take i++58::l.drop (i+1):=by
   have B:l[i]=58:=by
    have:=List.getElem?_eq_getElem u;rw[hb]at this;exact(Option.some.inj this).symm
   rw[<- B,<- List.drop_eq_getElem_cons u,List.take_append_drop]
  have j:=fieldsR_some (w:=l.take i) (r:=l.drop (i+1)) d;rw[<- o]at j;by_cases y:i=0
  ·have z:fieldsR l=none:=by rw[j,if_pos (by rw[y];rfl)]
   rw[z];refine Q1 (fun vs h'=>False) ?_ (fun _ _ j=>j.elim);refine Ql (fun e=>?_) (fun e=>absurd e (by simp[y]));refine gI ?_;refine gZ ?_;exact Qa ⟨LH.le_refl _,rfl⟩
  ·have G:l.take i≠[]:=fun e=>by
    have B:(l.take i).length=0:=by rw[e];rfl
    rw[List.length_take]at B;omega
   rw[if_neg G]at j;refine Q1 (fun vs h'=>vs=[.string (str []),.slice none 0 0,.bool false]/\h=h') ?_ ?_
   ·refine Ql (fun e=>absurd e (by simp;omega)) (fun _=>?_);refine Q5 undS ?_;refine gZ ?_;refine Ql (fun e=>absurd (show i=l.length by exact_mod_cast (show (i:Int)=(l.length:Int) by simpa using e)) g) (fun _=>?_);exact Qi ⟨rfl,rfl⟩
   rintro vs _ ⟨rfl,rfl⟩;refine gZ ?_;rw[Qh (by omega) (by omega)];refine K2 (a:=i+1) undS (by omega) ?_;refine gZ ?_;have F:(l.drop (i+1)).length<=2^19:=by rw[List.length_drop];omega
   generalize l.drop (i+1)=r at j F;have K:=J1 59 r;refine t_gr (c3755 (h:=h) r 59 (by omega)) ?_;rintro _ N q ⟨p,n,k,rfl,s⟩;have z:=s.2.1;have E:=Zj 59 r;have J:0<(cut 59 r).length:=List.length_pos_iff.2 E;obtain⟨m,rfl⟩ : ∃ m,n=m+1:=⟨n-1,by omega⟩
   have H:=List.getElem?_eq_getElem (show m<(cut 59 r).length by omega);have c:=last_at (l:=cut 59 r) (n:=m) (by omega);generalize (cut 59 r)[m]=x at H;rw[H]at c;obtain⟨a,Q,t⟩:=s.at H;have w1:wrap .i64 (((m+1:Nat):Int)-1)=(m:Int):=by rw[Qh (by omega) (by omega)];omega
   refine gZ ?_;rw[w1];have P:0<=(m:Int)/\(m:Int)<((m+1:Nat):Int):=by omega
   refine gZ ?_;refine Qt (by rw[Int.toNat_natCast];exact t) ?_;refine Yw (b:=[]) undS ?_;refine yI (fun A=>?_) (fun A=>?_)
   ·have I:x≠[]:=by simpa using A
    rw[j,if_neg (by rw[c];simp[I])];exact Qa ⟨q,rfl⟩
   ·have:x=[]:=by simpa using A
    subst this;rw[j,if_pos c];have f:m<=k:=by have:=s.1;omega
    have fin:FieldsA (some (l.take i,(cut 59 r).dropLast)) (.tuple #[.string (str (l.take i)),.slice p m k,.bool true]) N:=⟨p,m,k,rfl,s.init⟩
    refine Jw ?_ ?_
    ·refine K3 undS (by omega) (Qj ?_);refine gZ ?_;refine Jw ?_ ?_
     ·refine Zo undSs infS (i:=m) f ?_;refine gZ ?_;exact Qa ⟨q,fin⟩
     ·refine gZ ?_;refine Zo undSs infS (i:=m) f ?_;refine gZ ?_;exact Qa ⟨q,fin⟩
    ·refine Zo undSs infS (i:=m) f ?_;refine gZ ?_;refine K3 undS (by omega) (Qj ?_);refine gZ ?_;exact Qa ⟨q,fin⟩
end Go.Y.Txt
end
section
namespace Go.TM.Tp
open Go.Lib (decDigits)
def u8V(b:UInt8):Value:=.int .u8 (b.toNat:Int)
variable {P:Program}{a:Addr}{n c:Nat}
theorem lwp_ofBytes{Q:Value->Cells->Prop}{E:Halt->Cells->Prop}{h:Cells}{l:Bs}(hn:l.length=n)(hc:∀ (j:Nat) w,(l.map u8V)[j]?=some w->h.cell? (a.add j)=some w)(hq:Q (.string (str l)) h):Qd P (Conv.bytesToString (.slice (some a) n c)) Q E h:=by
 show Qd P (do
  let mut s:=ByteArray.empty
  for c in <- loadCells a n do
   let .int .u8 n := c | stuck "bytesToString: byte expected"
   s:=s.push (UInt8.ofNat n.toNat)
  pure (.string s)) Q E h
 simp only[lwp_bind];refine Wd (l:=l.map u8V) (by simpa using hn) hc ?_;rw[List.forIn_toArray];have key:∀ (l m:Bs) (Q:ByteArray->Cells->Prop),Q (str (m++l)) h->Qd P (forIn (l.map u8V) (str m) fun c (s:ByteArray)=>match c with
   | .int .u8 n=>(do pure PUnit.unit;pure (ForInStep.yield (s.push (UInt8.ofNat n.toNat))):Sem (ForInStep ByteArray))
   | _ => stuck "bytesToString: byte expected") Q E h := by
  intro l
  induction l with
  | nil=>intro m Q hq;rw[List.append_nil]at hq;exact hq
  | cons b l ih =>
   intro m Q hq;rw[List.map_cons,List.forIn_cons,lwp_bind];have e:(str m).push (UInt8.ofNat ((b.toNat:Int)).toNat)=str (m++[b]):=by
    apply ByteArray.ext;simp[str]
   show Qd P (forIn (l.map u8V) ((str m).push (UInt8.ofNat ((b.toNat:Int)).toNat)) _) Q E h;rw[e];exact ih (m++[b]) Q (by rw[List.append_assoc];exact hq)
 exact key l [] _ hq
theorem Ga{X:XP}{Q:Leaf->LH->Prop}{h:LH}{K:Value->T}{src dst el:TypeId}{l:Bs}(b:P.underlying src=some (.slice el))(d:P.underlying dst=some .string)(e:P.underlying el=some (.int .u8))(g:l.length=n)(hc:∀ (j:Nat) w,(l.map u8V)[j]?=some w->h.get.cell? (a.add j)=some w)
 (f:(K (.string (str l))).wp X P Q h):(T.sem false (convert src dst (.slice (some a) n c)) K).wp X P Q h:=by
 refine Q9 (A:=fun w h'=>h'=h.get/\w=.string (str l)) ?_ (by rintro w h' ⟨rfl,rfl⟩;exact f);unfold convert;simp only[lwp_bind,Qc b,Qc d,Qc e];exact lwp_ofBytes g hc ⟨rfl,rfl⟩
theorem Hs(h:n<10):decDigits n=[UInt8.ofNat (48+n)]:=by rw[decDigits,dif_pos h]
theorem Ht(h:¬ n<10):decDigits n=decDigits (n / 10)++[UInt8.ofNat (48+n%10)]:=by rw[decDigits,dif_neg h]
theorem dig_v{k:Nat}(h:k<10):IntKind.wrap .u8 (wrap .i64 (48+(k:Int)))=((UInt8.ofNat (48+k)).toNat:Int):=by
 rw[Qh (by omega) (by omega),U6 (by omega),small_byte h];omega
theorem Uo(x:Span):da x=if x.first.toNat=x.last.toNat then decDigits x.first.toNat else decDigits x.first.toNat++45::decDigits x.last.toNat:=rfl
def lineTo(w:Bs)(fs:List Bs):Bs:=w++58::(fs.flatMap fun f=>f++[59])
theorem lineTo_snoc(w:Bs)(fs:List Bs)(f:Bs):lineTo w (fs++[f])=lineTo w fs++f++[59]:=by simp[lineTo]
theorem lineTo_end(w:Bs)(fs:List Bs):lineTo w fs++[10]=lineS w fs:=by simp[lineTo,lineS]
theorem Uc{c:UInt8}:∀ {l:List Bs} {x:Bs},l≠[]->joinS c (l++[x])=joinS c l++c::x
 | [],_,h=>absurd rfl h
 | [a],x,_=>rfl
 | a::b::l,x,_=>by
  have:=Uc (c:=c) (l:=b::l) (x:=x) (by simp);show a++c::joinS c ((b::l)++[x])=_;rw[this];show _=(a++c::joinS c (b::l))++c::x;simp
end Go.TM.Tp
namespace Go.Y.Txt
open Go.TM.Tp
open Go.Lib (decDigits)
attribute [local irreducible] T.wp CV FWK
theorem undBy:Tryz.prog.underlying 78=some (.slice 5):=by kernel_rfl
theorem undU:Tryz.prog.underlying 5=some (.int .u8):=by kernel_rfl
theorem infU:(Tryz.prog.info? 5).map (fun i=>(i.size,i.bytes,i.zero))=some (1,1,some (.int .u8 0)):=by kernel_rfl
theorem Yc{X:XP}{Q:Leaf->LH->Prop}{h:LH}{K:Value->T}{k:Nat}{x:Int}(g:k<10)(i:x=(k:Int))(f:∀ a n c h',h.le h'->(∀ (j:Nat) w,([UInt8.ofNat (48+k)].map u8V)[j]?=some w->h'.get.cell? (Addr.add ⟨a,0,none⟩ j)=some w)->n=1->(K (.slice (some ⟨a,0,none⟩) n c)).wp X Tryz.prog Q h') :
  (T.sem false (Instr.buildSlice 78 1 #[(0,.int .u8 (IntKind.wrap .u8 (wrap .i64 (48+x))))]) K).wp X Tryz.prog Q h:=by
 subst i;rw[dig_v g];refine Zq [u8V (UInt8.ofNat (48+k))] undBy infU (by decide) (by decide) (by kernel_rfl) ?_;intro r e d _ b;exact f r 1 1 e d b rfl
theorem c3723:∀ (n:Nat) {h:LH},n<1000000000->Gr Tryz.prog 44 #[.int .i64 (n:Int)] h fun r _=>r=.string (str (decDigits n)):=by
 intro n
 induction n using Nat.strongRecOn with
 | ind n v =>
  intro h A;refine w3723 Qk ?_;refine t_if (fun e=>?_) (fun e=>?_)
  ·have g:n<10:=by omega
   refine Yc g rfl fun a m c i b hc hm=>?_;subst hm;refine gZ ?_;refine Ga undBy undS undU (l:=[UInt8.ofNat (48+n)]) rfl hc ?_;refine Qj ?_;refine gZ ?_;rw[Hs g];exact Qa ⟨b,rfl⟩
  ·have g:¬ n<10:=by omega
   have p:Int.tdiv (n:Int) 10=((n / 10:Nat):Int):=by rw[Int.tdiv_eq_ediv_of_nonneg (by omega)];rfl
   have q:Int.tmod (n:Int) 10=((n%10:Nat):Int):=by rw[Int.tmod_eq_emod_of_nonneg (by omega)];rfl
   have s:(10:Int)≠0:=by decide
   have z:=Ds (k:=9) (n:=n / 10) (by omega);rw[p,q,Qh (n:=((n / 10:Nat):Int)) (by omega) (by omega)];have cat:∀ {x y:Operand} {X:XP} {Q:Leaf->LH->Prop} {h:LH} {K:Value->T},(K (.string (str (decDigits n)))).wp X Tryz.prog Q h->(T.sem false (Sem.bind (eqGuard .add 9 x y (.string (str (decDigits (n / 10)))) (.string (str [UInt8.ofNat (48+n%10)]))) fun _=>binOp .add 9 (.string (str (decDigits (n / 10)))) (.string (str [UInt8.ofNat (48+n%10)]))) K).wp X Tryz.prog Q h:=fun u =>
    Zi undS (by simp;omega) (by rw[<- Ht g];exact u)
   have f:∀ {h:LH},Gr Tryz.prog 44 #[.int .i64 ((n / 10:Nat):Int)] h fun r _=>r=.string (str (decDigits (n / 10))):=fun {h}=>v (n / 10) (by omega) (by omega);refine gZ ?_;refine Jw ?_ ?_
   ·refine t_gr f ?_;rintro _ i b rfl;refine Qj ?_;refine gZ ?_;refine Yc (Nat.mod_lt n (by omega)) rfl fun a m c o d hc hm=>?_;subst hm;refine gZ ?_;refine Ga undBy undS undU (l:=[UInt8.ofNat (48+n%10)]) rfl hc ?_;refine Qj ?_;refine gZ ?_;refine cat (Qj ?_);refine gZ ?_;exact Qa ⟨LH.le_trans b d,rfl⟩
   ·refine Yc (Nat.mod_lt n (by omega)) rfl fun a m c i b hc hm=>?_;subst hm;refine gZ ?_;refine Jw ?_ ?_
    ·refine t_gr f ?_;rintro _ o d rfl;refine Qj ?_;refine gZ ?_;refine Ga undBy undS undU (l:=[UInt8.ofNat (48+n%10)]) rfl (fun j w t=>Qe d.1 (hc j w t)) ?_;refine Qj ?_;refine gZ ?_;refine cat (Qj ?_);refine gZ ?_;exact Qa ⟨LH.le_trans b d,rfl⟩
    ·refine Ga undBy undS undU (l:=[UInt8.ofNat (48+n%10)]) rfl hc ?_;refine Qj ?_;refine gZ ?_;refine t_gr f ?_;rintro _ o d rfl;refine Qj ?_;refine gZ ?_;refine cat (Qj ?_);refine gZ ?_;exact Qa ⟨LH.le_trans b d,rfl⟩
end Go.Y.Txt
end
section
namespace Go.TM.Tp
section
variable {P:Program} {h:Cells} {E:Halt->Cells->Prop}
theorem bytes_of(l:Bs):((str l).extract 0 l.length).data.map (fun b=>Value.int .u8 (b.toNat:Int))=(l.map u8V).toArray:=by
 rw[Wx,List.take_length];simp[str,u8V]
theorem lwp_appendStr{Q:Value->Cells->Prop}{ts:Array TypeId}{ty sT xT el:TypeId}{inf:TypeInfo}{z:Value}{p:Option Addr}{n c:Nat}{vs:List Value}{l:Bs}(h0:ts[0]?=some sT)(B:ts[1]?=some xT)(hu:P.underlying sT=some (.slice el))(M:P.underlying xT=some .string)
 (F:P.info? el=some inf)(X:inf.zero=some z)(L:z.cells.size=1)(w:inf.size=1)(hb:inf.bytes<=1024)(W:n+l.length<=2^30)(own:OwnRow el 1 h p n c vs)
 (J:∀ A R h',OwnRow el 1 h' A (n+l.length) R (vs++l.map u8V)->KeptBut p h h'->(A=p\/∃ r,A=some ⟨r,0,none⟩/\h r=none)->Q (.slice A (n+l.length) R) h'):Qd P (Builtin.append_ ts ty #[.slice p n c,.string (str l)]) Q E h:=by
 unfold Builtin.append_;rw[h0,B];simp only[List.getElem?_toArray,List.getElem?_cons_zero,List.getElem?_cons_succ];simp only[lwp_bind,Qc hu,Qy F,Qc M,Qg,Bool.false_eq_true,if_false,Bool.not_false,if_true,Builtin.lenOf,Jy];obtain⟨f,o⟩:=own;have one:∀ v∈l.map u8V,isOne v=true:=by
  intro v hv;obtain⟨b,_,rfl⟩:=List.mem_map.1 hv;rfl
 by_cases d:n+l.length<=c
 ·simp only[if_pos d,lwp_bind,Builtin.firstCells,Qg,bytes_of];rcases o with⟨rfl,rfl,rfl⟩|⟨r,cs,rfl,hr,s,H,hv⟩
  ·have:l=[]:=List.eq_nil_of_length_eq_zero (by omega);subst this;simp only[Qg];exact J _ _ _ ⟨by simp at f ⊢;exact f,.inl ⟨rfl,rfl,rfl⟩⟩ (fun _ _ M _=>M) (.inl rfl)
  ·simp only[];have hle:n+(l.map u8V).length<=cs.size:=by rw[List.length_map,s];omega
   have C:Addr.add ⟨r,0,none⟩ (n*inf.size)=⟨r,n,none⟩:=by rw[w,Nat.mul_one,Qo,Nat.zero_add]
   rw[C];rw[lwp_bind];refine Wm (l.map u8V) 0 h r n cs el hr (by omega) one ?_;rw[Qg];refine J _ _ _ ⟨by simp[f],.inr ⟨r,_,rfl,Qm _ _ _,?_,d,?_⟩⟩ ?_ (.inl rfl)
   ·rw[size_setMany];exact s
   ·intro j v i;rw[setMany_get (by omega)];by_cases G:j<vs.length
    ·rw[if_neg (by omega)];rw[List.getElem?_append_left G]at i;exact hv j v i
    ·rw[List.getElem?_append_right (by omega)]at i;have V:j-vs.length<(l.map u8V).length:=(List.getElem?_eq_some_iff.1 i).1;rw[if_pos (by omega),<- i];congr 1;omega
   ·intro O x g I;have:O≠r:=fun e=>I _ rfl e.symm;rw[Qp _ _ this];exact g
 ·have u:¬ ((((n+l.length:Nat):Int)>IntKind.i64.max)/\(False\/inf.bytes=0)):=by
   rintro⟨B,_⟩;have e:IntKind.i64.max=9223372036854775807:=rfl;rw[e]at B;omega
  have y:=nextslicecap_le (Nat.lt_of_not_le d);have k:¬ (Builtin.nextslicecap (n+l.length) c*inf.bytes>2^48):=by
   have:=Nat.mul_le_mul y hb;have Y:(2*(n+l.length)+400)*1024<=(2*2^30+400)*1024:=Nat.mul_le_mul_right _ (by omega);have:(2*2^30+400)*1024<=2^48:=by decide
   omega
  simp only[if_neg d,lwp_bind,Jq F,if_neg u,if_neg k,Qg];have D:∀ {K:Nat->Cells->Prop},(∀ a,n+l.length<=a->K a h)->Qd P (choose (Question.appendCap (n+l.length) c el)) K E h:=by
   intro K q;show (if _ then _ else _);split
   ·rename_i U;simp[Question.forced]at U
   ·intro t;exact q _ (Nat.le_add_right _ _)
  refine D fun a C=>?_;have m:∀ {K:Unit->Cells->Prop},K () h->Qd P (askRoom (a*inf.bytes)) K E h:=by
   intro K q;unfold askRoom;split
   ·exact⟨.inl rfl,q⟩
   ·exact q
  refine m ?_;have hold:∀ {K:Array Value->Cells->Prop},(∀ old:Array Value,old.toList=vs->K old h)->Qd P (Builtin.firstCells inf.size n (Value.slice p n c)) K E h:=by
   intro K q;rcases o with⟨rfl,rfl,rfl⟩|⟨r,cs,rfl,hr,s,H,hv⟩
   ·have:vs=[]:=List.eq_nil_of_length_eq_zero (by rw[f]);simp only[Builtin.firstCells,Qg];exact q #[] (by rw[this])
   ·simp only[Builtin.firstCells];refine Wd (l:=vs) (by rw[f,w]) (fun j v i=>?_) (q _ rfl);rw[Qo,Nat.zero_add];simp only[Cells.cell?,hr,Option.isSome_none,Bool.false_eq_true,if_false];exact hv j v i
  refine hold fun old hold=>?_;simp only[Builtin.firstCells,Qg,bytes_of,Je F X];refine Zf fun r hr=>?_;have N:(Builtin.zeroCells z.cells (a-(n+l.length))).size=a-(n+l.length):=by simp[Builtin.zeroCells,L]
  refine J _ _ _ ⟨by simp[f],.inr ⟨r,_,rfl,Qm _ _ _,?_,C,?_⟩⟩ ?_ (.inr ⟨r,rfl,hr⟩)
  ·have S:old.size=n:=by rw[<- Array.length_toList,hold,f,Nat.mul_one]
   simp only[Array.size_append,S,N,List.size_toArray,List.length_map];omega
  ·intro j v i;have hlen:j<(vs++l.map u8V).length:=(List.getElem?_eq_some_iff.1 i).1;rw[<- Array.getElem?_toList,Array.toList_append,Array.toList_append,hold,List.getElem?_append_left (by simpa using hlen)];exact i
  ·intro O x g _;have:O≠r:=by rintro rfl;rw[hr]at g;cases g
   rw[Qp _ _ this];exact g
end
section
variable {P:Program} {X:XP} {Q:Leaf->LH->Prop}
variable {h:LH}{K:Value->T}{ty:TypeId}{p:Option Addr}{n c:Nat}
theorem t_appStr{ts:Array TypeId}{sT xT el:TypeId}{by_:Nat}{z:Value}{vs:List Value}{l:Bs}(h0:ts[0]?=some sT)(o:ts[1]?=some xT)(hu:P.underlying sT=some (.slice el))(t:P.underlying xT=some .string)
 (q:(P.info? el).map (fun i=>(i.size,i.bytes,i.zero))=some (1,by_,some z))(g:z.cells.size=1)(hb:by_<=1024)(f:n+l.length<=2^30)(own:OwnRow el 1 h.get p n c vs)
 (s:∀ d e h',OwnRow el 1 h' d (n+l.length) e (vs++l.map u8V)->KeptBut p h.get h'->(d=p\/∃ r,d=some ⟨r,0,none⟩/\h.get r=none)->(K (.slice d (n+l.length) e)).wp X P Q { h with get:=h' }):(T.sem false (Builtin.append_ ts ty #[.slice p n c,.string (str l)]) K).wp X P Q h:=by
 obtain⟨i,j,k,m,g4⟩:=Zk q;subst m;exact Q9 (A:=fun v h'=>∃ d e,v=.slice d (n+l.length) e/\OwnRow el 1 h' d (n+l.length) e (vs++l.map u8V)/\KeptBut p h.get h'/\(d=p\/∃ r,d=some ⟨r,0,none⟩/\h.get r=none)) (lwp_appendStr h0 o hu t j g4 g k hb f own fun d e h' a b c=>⟨d,e,rfl,a,b,c⟩)
  (by rintro v h' ⟨d,e,rfl,a,b,c⟩;exact s d e h' a b c)
theorem t_sliceData{ts:Array TypeId}{e:TypeId}(hu:P.underlying ty=some (.pointer e))(j:∀ a,p=some a->∃ m cs el d,h.get a.block=some (m,.cells cs el d))
 (i:∀ q h',h.le h'->(c≠0->q=p)->(K (.pointer q)).wp X P Q h'):(T.sem false (Builtin.unsafeSliceData_ ts ty #[.slice p n c]) K).wp X P Q h:=by
 refine Q9 (A:=fun v h'=>∃ q,v=.pointer q/\h.get.le h'/\(c≠0->q=p)) ?_ (by rintro v h' ⟨q,rfl,f,g⟩;exact i q { h with get:=h' } ⟨f,rfl,rfl,rfl⟩ g);cases p with
 | none=>exact⟨none,rfl,Cells.le_refl _,fun _=>rfl⟩
 | some a =>
  show Qd P (if c≠0 then pure (Value.pointer (some a)) else do
   if (<- viewAt a.block).isSome then pure (Value.pointer (some a)) else pure (Value.pointer (some ⟨<- newObj (.view a (<- elemOf ty)),0,none⟩))) _ _ _
  by_cases hc:c=0
  ·rw[if_neg (fun h=>h hc)];obtain⟨m,cs,el,d,hr⟩:=j a rfl;unfold viewAt;simp only[lwp_bind,Qg];refine(Kv hr).2 ?_;simp only[Option.isSome_some,if_true,Qg,Option.isSome_none,Bool.false_eq_true,if_false];unfold elemOf;simp only[lwp_bind,Qc hu,Qg];intro r b;exact⟨_,rfl,Kd _ b,fun h=>absurd hc h⟩
  ·rw[if_pos hc];exact⟨_,rfl,Cells.le_refl _,fun _=>rfl⟩
end
variable {P:Program}
theorem lies_bytes{u:TypeId}{c n:Nat}(b:P.depth≠0)(a:P.cellsOf u=1)(f:n<=c):liesAt P P.depth u (c / P.cellsOf u) 0 u n=true:=by
 obtain⟨d,e⟩:=Nat.exists_eq_succ_of_ne_zero b;have:rowAt P (sameLayout P P.depth · u) P.depth u (c / P.cellsOf u) 0 n=true:=by
  rw[e,a];unfold rowAt;unfold sameLayout;simp[a,f]
 rw[e]at this ⊢;unfold liesAt;rw[e,this,Bool.true_or]
theorem lwp_loadBytes{P:Program}{E:Halt->Cells->Prop}{h:Cells}:∀ (l:Bs) (a:Addr) (acc:Bs) {Q:ByteArray->Cells->Prop},(∀ (j:Nat) w,(l.map u8V)[j]?=some w->h.cell? (a.add j)=some w)->Q (str (acc++l)) h->Qd P (loadBytes a (str acc) l.length) Q E h
 | [],a,acc,Q,_,c=>by
  rw[List.append_nil]at c;exact c
 | b::l,a,acc,Q,hc,c=>by
  show Qd P (load a >>= _) _ _ _;rw[lwp_bind];refine⟨rfl,_,by have:=hc 0 _ rfl;rwa[addr0']at this,?_⟩;show Qd P (loadBytes (a.add 1) ((str acc).push (((b.toNat:Int).toNat).toUInt8)) l.length) Q E h;have e:(str acc).push (((b.toNat:Int).toNat).toUInt8)=str (acc++[b]):=by
   rw[Int.toNat_natCast];apply ByteArray.ext;simp[str,ByteArray.push]
  rw[e];refine lwp_loadBytes l (a.add 1) (acc++[b]) (fun j w d=>?_) (by rw[List.append_assoc];exact c);rw[W7,Nat.add_comm];exact hc (j+1) w d
where
 addr0' (a:Addr):a.add 0=a:=by unfold Addr.add;split<;>simp_all
def ButP(q:Option Addr)(h h':LH):Prop:=(∀ r,(∀ a,q=some a->a.block≠r)->h'.get r=h.get r)/\h'.chans=h.chans/\h'.pend=h.pend/\h'.todo=h.todo
theorem ButP.le{q:Option Addr}{h₀ h h':LH}(hle:h₀.le h)(f:NewIn h₀.get q)(b:ButP q h h'):h₀.le h' :=
 ⟨fun r x c=>by rw[b.1 r (fun a d e=>by have:=f a d;rw[e,c]at this;cases this)];exact hle.1 r x c,b.2.1.trans hle.2.1,b.2.2.1.trans hle.2.2.1,b.2.2.2.trans hle.2.2.2⟩
theorem t_unsafeStr{X:XP}{Q:Leaf->LH->Prop}{h:LH}{K:Value->T}{ts:Array TypeId}{ty o el:TypeId}{q:Option Addr}{l:Bs}(h0:ts[0]?=some o)(hu:P.underlying o=some (.pointer el))(s:P.depth≠0)(p:P.cellsOf el=1)(n:l.length<=2^60)
 (y:l≠[]->∃ (r:Nat) (cs:Array Value) (m:Nat×Nat),q=some ⟨r,0,none⟩/\h.get r=some (true,.cells cs el m)/\l.length<=cs.size/\∀ (j:Nat) w,(l.map u8V)[j]?=some w->cs[j]?=some w)
 (x:∀ h',ButP q h h'->(l=[]->h'=h)->(K (.string (str l))).wp X P Q h'):(T.sem false (Builtin.unsafeString_ ts ty #[.pointer q,.int .i64 (l.length:Int)]) K).wp X P Q h:=by
 refine Q9 (A:=fun v h'=>v=.string (str l)/\ButP q h { h with get:=h' }/\(l=[]->h'=h.get)) ?_ (by rintro v h' ⟨rfl,b,e⟩;exact x _ b fun n=>by rw[e n]);have c:IntKind.i64.max=9223372036854775807:=rfl;show Qd P ((pure (l.length:Int):Sem Int) >>= _) _ _ _;rw[lwp_bind,Qg];rw[h0];dsimp only;rw[if_neg (by omega)];rw[if_neg (by rw[c];omega)];by_cases d:l=[]
 ·subst d;cases q with
  | none=>exact⟨rfl,⟨fun _ _=>rfl,rfl,rfl,rfl⟩,fun _=>rfl⟩
  | some a=>exact⟨rfl,⟨fun _ _=>rfl,rfl,rfl,rfl⟩,fun _=>rfl⟩
 ·have hlen:0<l.length:=List.length_pos_iff.2 d;obtain⟨r,cs,m,rfl,hr,f,hc⟩:=y d;simp only[];rw[if_neg (by omega)];unfold elemOf variablesAt;simp only[lwp_bind,Qc hu,Qg,Jm];refine(Kv hr).2 ?_;simp only[Int.toNat_natCast,Qg];rw[if_pos (lies_bytes s p f)];rw[lwp_bind];refine lwp_loadBytes l ⟨r,0,none⟩ [] (fun j w u=>?_) ?_
  ·rw[Qo,Nat.zero_add];simp only[Cells.cell?,hr,Option.isSome_none,Bool.false_eq_true,if_false];exact hc j w u
  rw[List.nil_append,lwp_bind];refine⟨by omega,⟨_,hr,fun i t=>t⟩,rfl,⟨fun k g=>?_,rfl,rfl,rfl⟩,fun e=>absurd e d⟩;have:k≠r:=fun e=>g _ rfl e.symm;show Cells.freeze h.get ⟨r,0,none⟩ l.length k=h.get k;unfold Cells.freeze;rw[if_neg this]
end Go.TM.Tp
end
section
namespace Go.Y
set_option maxHeartbeats 0
set_option linter.unusedVariables false
variable {X:XP} {h:LH} {A:Value->LH->Prop}
variable {a b c d e f g i j k l m:Int}{n o p q r s t u v w x y z:Nat}{B C D E F G H I J K L M:Option Addr}
theorem w3714{d:ByteArray}{g:Addr}:FX X 34 #[.string d,.slice B n o,.pointer (some g)] h A (.sem false (Sem.bind (eqGuard BinOp.add 9 (Operand.tmp 5) (Operand.const (.string { data:=#[58] })) (.string d) (.string { data:=#[58] })) fun e=>binOp BinOp.add 9 (.string d) (.string { data:=#[58] })) fun a=>.unStr a fun b=>.cl 36 #[.slice B n o,.string { data:=#[59] }] fun a=>.unStr a fun f=>.sem false (Sem.bind (eqGuard BinOp.add 9 (Operand.tmp 6) (Operand.tmp 8) (.string b) (.string f)) fun e=>binOp BinOp.add 9 (.string b) (.string f)) fun a=>.unStr a fun b=>.sem false (Sem.bind (eqGuard BinOp.add 9 (Operand.tmp 9) (Operand.const (.string { data:=#[59,10] })) (.string b) (.string { data:=#[59,10] })) fun e=>binOp BinOp.add 9 (.string b) (.string { data:=#[59,10] })) fun a=>.unStr a fun b=>.cT 35 #[.pointer (some g),.string b] fun a c=>.ui a fun i=>.unCons c fun a c=>.unNil c (.rt (.tuple #[]))):=fk [] [] [] Tryz.f34
theorem w3717:FX X 37 #[a] h A (.cl 86 #[a] fun c=>.unStr c fun b=>.rt (.string b)):=fk [] [] [] Tryz.f37
theorem w3718:FX X 38 #[.agg #[a,b]] h A (bif a==b then .cl 37 #[a] fun d=>.unStr d fun c=>.rt (.string c) else .cl 37 #[a] fun d=>.unStr d fun c=>.nds [b,.pp 1 1,.pp 1 0] (.both (.sem false (Sem.bind (eqGuard BinOp.add 9 (Operand.tmp 13) (Operand.const (.string { data:=#[45] })) (.string c) (.string { data:=#[45] })) fun f=>binOp BinOp.add 9 (.string c) (.string { data:=#[45] })) fun d=>.unStr d fun c=>.nds [b,.pp 1 1,.pp 1 0] (.cl 37 #[b] fun d=>.unStr d fun e=>.nds [.pp 1 1,.pp 1 0] (.sem false (Sem.bind (eqGuard BinOp.add 9 (Operand.tmp 14) (Operand.tmp 17) (.string c) (.string e)) fun f=>binOp BinOp.add 9 (.string c) (.string e)) fun d=>.unStr d fun c=>.nds [.pp 1 1,.pp 1 0] (.rt (.string c))))) (.cl 37 #[b] fun d=>.unStr d fun e=>.nds [.pp 1 1,.pp 1 0] (.sem false (Sem.bind (eqGuard BinOp.add 9 (Operand.tmp 13) (Operand.const (.string { data:=#[45] })) (.string c) (.string { data:=#[45] })) fun f=>binOp BinOp.add 9 (.string c) (.string { data:=#[45] })) fun d=>.unStr d fun c=>.nds [.pp 1 1,.pp 1 0] (.sem false (Sem.bind (eqGuard BinOp.add 9 (Operand.tmp 14) (Operand.tmp 17) (.string c) (.string e)) fun f=>binOp BinOp.add 9 (.string c) (.string e)) fun d=>.unStr d fun c=>.nds [.pp 1 1,.pp 1 0] (.rt (.string c))))))):=fk [1] [] [] Tryz.f38
theorem w3719:FX X 39 #[.slice B n o] h A (.loop [.slice none 0 0,.int .i64 0] (fun a=>.popS a fun c b d a=>.pi a fun e a=>.unNil a (bif decide (e<(↑n:Int)) then .need (0<=e/\e<(↑n:Int)) (.someA B fun i=>.li (i.add (e.toNat*1)) fun l=>.cl 37 #[l] fun f=>.unStr f fun g=>.sem false (Instr.buildSlice 81 1 #[(0,.string g)]) fun f=>.unS f fun j m k=>.sem false (Builtin.append_ #[81,81] 81 #[.slice c b d,.slice j m k]) fun f=>.unS f fun c b d=>.ag [.slice c b d,.int .i64 (wrap .i64 (e+1))]) else .bk [.slice c b d,e])) (fun a=>.popS a fun c b d a=>.pi a fun e a=>.unNil a (.cl 36 #[.slice c b d,.string { data:=#[44] }] fun f=>.unStr f fun g=>.rt (.string g))) (fun a=>.popS a fun c b d a=>.pi a fun b a=>.unNil a (.rt (.string { data:=#[] }))) fun p q=>.fail):=fk [] [⟨0,[(3,.slice),(8,.int .i64)],[],[],[],[]⟩] [] Tryz.f39
theorem w3704:FX X 9 #[.agg #[a,b,c,d,.slice B n o,.slice C p q,.slice D r s]] h A (.cI 33 #[.agg #[a,b,c,d,.slice B n o,.slice C p q,.slice D r s]] fun e=>bif e != 0 then .rt (.tuple #[.string { data:=#[] },e]) else .new 80 #[.pointer none,.slice none 0 0] fun j=>.cl 37 #[a] fun f=>.unStr f fun l=>.nds [d,.pp 1 3,c,.pp 1 2,b,.pp 1 1,.pp 1 0,.val (.func (Fn.func 34) #[] #[.pointer (some ⟨j,0,none⟩)])] (.cl 37 #[b] fun f=>.unStr f fun H=>.nds [d,.pp 1 3,c,.pp 1 2,.pp 1 1,.pp 1 0,.val (.func (Fn.func 34) #[] #[.pointer (some ⟨j,0,none⟩)])] (.cl 37 #[c] fun f=>.unStr f fun I=>.nds [d,.pp 1 3,.pp 1 2,.pp 1 1,.pp 1 0,.val (.func (Fn.func 34) #[] #[.pointer (some ⟨j,0,none⟩)])] (.cl 37 #[d] fun f=>.unStr f fun J=>.nds [.pp 1 3,.pp 1 2,.pp 1 1,.pp 1 0,.val (.func (Fn.func 34) #[] #[.pointer (some ⟨j,0,none⟩)])] (.sem false (Instr.buildSlice 81 4 #[(0,.string l),(1,.string H),(2,.string I),(3,.string J)]) fun f=>.unS f fun i e k=>.nds [.pp 1 3,.pp 1 2,.pp 1 1,.pp 1 0,.val (.func (Fn.func 34) #[] #[.pointer (some ⟨j,0,none⟩)])] (.callv false (.func (Fn.func 34) #[] #[.pointer (some ⟨j,0,none⟩)]) #[.string { data:=#[117,115,101] },.slice i e k] fun f=>.unTup f fun t=>.unNil t (.nds [.pp 1 3,.pp 1 2,.pp 1 1,.pp 1 0] (.loop [.int .i64 0] (fun g=>.pi g fun e g=>.unNil g (bif decide (e<(↑n:Int)) then .need (0<=e/\e<(↑n:Int)) (.someA B fun i=>.li ((i.add (e.toNat*2)).add 0) fun w=>.li ((i.add (e.toNat*2)).add 1) fun v=>.cl 38 #[.agg #[w,v]] fun f=>.unStr f fun l=>.sem false (Instr.buildSlice 81 1 #[(0,.string l)]) fun f=>.unS f fun i m k=>.callv false (.func (Fn.func 34) #[] #[.pointer (some ⟨j,0,none⟩)]) #[.string { data:=#[101,120,99,117,115,101] },.slice i m k] fun f=>.unTup f fun t=>.unNil t (.ag [.int .i64 (wrap .i64 (e+1))])) else .bk [e])) (fun g=>.pi g fun e g=>.unNil g (.loop [.int .i64 0] (fun g=>.pi g fun e g=>.unNil g (bif decide (e<(↑p:Int)) then .need (0<=e/\e<(↑p:Int)) (.someA C fun i=>.li ((i.add (e.toNat*4)).add 0) fun w=>.li ((i.add (e.toNat*4)).add 1) fun v=>.li ((i.add (e.toNat*4)).add 2) fun m=>.loadS ((i.add (e.toNat*4)).add 3) fun u x k=>.cl 38 #[.agg #[w,v]] fun f=>.unStr f fun l=>.nds [.S u x k,.pp 10 3,m,.pp 10 2,.pp 10 0,.val (.func (Fn.func 34) #[] #[.pointer (some ⟨j,0,none⟩)])] (.cl 37 #[m] fun f=>.unStr f fun y=>.nds [.S u x k,.pp 10 3,.pp 10 2,.pp 10 0,.val (.func (Fn.func 34) #[] #[.pointer (some ⟨j,0,none⟩)])] (.cl 39 #[.slice u x k] fun f=>.unStr f fun z=>.nds [.pp 10 3,.pp 10 2,.pp 10 0,.val (.func (Fn.func 34) #[] #[.pointer (some ⟨j,0,none⟩)])] (.sem false (Instr.buildSlice 81 3 #[(0,.string l),(1,.string y),(2,.string z)]) fun f=>.unS f fun i G k=>.nds [.pp 10 3,.pp 10 2,.pp 10 0,.val (.func (Fn.func 34) #[] #[.pointer (some ⟨j,0,none⟩)])] (.callv false (.func (Fn.func 34) #[] #[.pointer (some ⟨j,0,none⟩)]) #[.string { data:=#[112,97,112,101,114] },.slice i G k] fun f=>.unTup f fun t=>.unNil t (.nds [.pp 10 3,.pp 10 2,.pp 10 0] (.ag [.int .i64 (wrap .i64 (e+1))]))))))) else .bk [e])) (fun g=>.pi g fun e g=>.unNil g (.loop [.int .i64 0] (fun g=>.pi g fun e g=>.unNil g (bif decide (e<(↑r:Int)) then .need (0<=e/\e<(↑r:Int)) (.someA D fun i=>.li ((i.add (e.toNat*3)).add 0) fun w=>.li ((i.add (e.toNat*3)).add 1) fun v=>.loadS ((i.add (e.toNat*3)).add 2) fun u m k=>.cl 37 #[w] fun f=>.unStr f fun l=>.nds [.S u m k,.pp 12 2,v,.pp 12 1,.pp 12 0,.val (.func (Fn.func 34) #[] #[.pointer (some ⟨j,0,none⟩)])] (.cl 37 #[v] fun f=>.unStr f fun y=>.nds [.S u m k,.pp 12 2,.pp 12 1,.pp 12 0,.val (.func (Fn.func 34) #[] #[.pointer (some ⟨j,0,none⟩)])] (.cl 39 #[.slice u m k] fun f=>.unStr f fun z=>.nds [.pp 12 2,.pp 12 1,.pp 12 0,.val (.func (Fn.func 34) #[] #[.pointer (some ⟨j,0,none⟩)])] (.sem false (Instr.buildSlice 81 3 #[(0,.string l),(1,.string y),(2,.string z)]) fun f=>.unS f fun i x k=>.nds [.pp 12 2,.pp 12 1,.pp 12 0,.val (.func (Fn.func 34) #[] #[.pointer (some ⟨j,0,none⟩)])] (.callv false (.func (Fn.func 34) #[] #[.pointer (some ⟨j,0,none⟩)]) #[.string { data:=#[114,101,113,117,101,115,116] },.slice i x k] fun f=>.unTup f fun t=>.unNil t (.nds [.pp 12 2,.pp 12 1,.pp 12 0] (.ag [.int .i64 (wrap .i64 (e+1))]))))))) else .bk [e])) (fun g=>.pi g fun e g=>.unNil g (.cI 40 #[.pointer (some ⟨j,0,none⟩)] fun e=>bif decide (e>60000) then .rt (.tuple #[.string { data:=#[] },.int .i64 2]) else .cl 41 #[.pointer (some ⟨j,0,none⟩)] fun f=>.unStr f fun l=>.rt (.tuple #[.string l,.int .i64 0]))) (fun g=>.pi g fun e g=>.unNil g (.rt (.tuple #[.string { data:=#[] },.int .i64 0]))) fun E F=>.fail)) (fun g=>.pi g fun e g=>.unNil g (.rt (.tuple #[.string { data:=#[] },.int .i64 0]))) fun E F=>.fail)) (fun g=>.pi g fun e g=>.unNil g (.rt (.tuple #[.string { data:=#[] },.int .i64 0]))) fun E F=>.fail)))))))):=fk [1,8,10,12] [⟨0,[(37,.int .i64)],[1],[],[],[]⟩,⟨2,[(50,.int .i64)],[1],[],[],[]⟩,⟨4,[(70,.int .i64)],[1],[],[],[]⟩] [] Tryz.f9
theorem w3727{f:ByteArray}:FX X 48 #[.string f] h A (.cT 95 #[.string f,.string { data:=#[58] }] fun b a=>.unStr b fun f=>.unCons a fun b a=>.unStr b fun E=>.unCons a fun b a=>.unB b fun e=>.unNil a (.cT 96 #[.string E,.string { data:=#[59] }] fun b a=>.unStr b fun F=>.unCons a fun b a=>.unB b fun C=>.unNil a (.cl 97 #[.string F,.string { data:=#[59] }] fun b=>.unS b fun c d g=>.blk (bif !e then .loadV { block:=0,off:=0 } fun b=>.loadV { block:=0,off:=0 } fun l=>.ne l b (.rn [.nilIface,b]) else bif !C then .loadV { block:=0,off:=0 } fun b=>.loadV { block:=0,off:=0 } fun l=>.ne l b (.rn [.nilIface,b]) else .ag [.nilIface,.nilIface]) (fun a=>.popV a fun b a=>.popV a fun l a=>.unNil a (.blk (.sem false (Sem.bind (eqGuard BinOp.eql 9 (Operand.tmp 44) (Operand.const (.string { data:=#[117,115,101] })) (.string f) (.string { data:=#[117,115,101] })) fun p=>binOp BinOp.eql 9 (.string f) (.string { data:=#[117,115,101] })) fun b=>.unB b fun e=>bif e then .ag [.bool ((↑d:Int)==4)] else .ag [false]) (fun a=>.popB a fun e a=>.unNil a (bif e then .cT 98 #[.slice c d g] fun b a=>.unS b fun c d g=>.unCons a fun b a=>.unNil a (.sem false (Sem.bind (eqGuard BinOp.neq 83 (Operand.tmp 56) (Operand.const .nilIface) b .nilIface) fun p=>binOp BinOp.neq 83 b .nilIface) fun n=>.unB n fun e=>bif e then .rt (.tuple #[.nilIface,b]) else .need ((0:Int)<=0/\0<(↑d:Int)) (.someA c fun q=>.li (q.add 0) fun i=>.need ((0:Int)<=1/\1<(↑d:Int)) (.someA c fun o=>.li (o.add 1) fun j=>.need ((0:Int)<=2/\2<(↑d:Int)) (.someA c fun r=>.li (r.add 2) fun k=>.need ((0:Int)<=3/\3<(↑d:Int)) (.someA c fun c=>.li (c.add 3) fun d=>.rt (.tuple #[.iface 104 (.agg #[i,j,k,d]),.nilIface])))))) else .blk (.sem false (Sem.bind (eqGuard BinOp.eql 9 (Operand.tmp 74) (Operand.const (.string { data:=#[101,120,99,117,115,101] })) (.string f) (.string { data:=#[101,120,99,117,115,101] })) fun p=>binOp BinOp.eql 9 (.string f) (.string { data:=#[101,120,99,117,115,101] })) fun b=>.unB b fun e=>bif e then .ag [.bool ((↑d:Int)==1)] else .ag [false]) (fun a=>.popB a fun e a=>.unNil a (bif e then .need ((0:Int)<=0/\0<(↑d:Int)) (.someA c fun c=>.loadStr (c.add 0) fun f=>.cT 99 #[.string f] fun b a=>.unAgg b fun m=>.pi m fun d y=>.pi y fun i z=>.unNil z (.unCons a fun b a=>.unNil a (.rt (.tuple #[.iface 106 (.agg #[d,i]),b])))) else .blk (.sem false (Sem.bind (eqGuard BinOp.eql 9 (Operand.tmp 93) (Operand.const (.string { data:=#[112,97,112,101,114] })) (.string f) (.string { data:=#[112,97,112,101,114] })) fun p=>binOp BinOp.eql 9 (.string f) (.string { data:=#[112,97,112,101,114] })) fun b=>.unB b fun e=>bif e then .ag [.bool ((↑d:Int)==3)] else .ag [false]) (fun a=>.popB a fun e a=>.unNil a (bif e then .need ((0:Int)<=0/\0<(↑d:Int)) (.someA c fun q=>.loadStr (q.add 0) fun f=>.cT 99 #[.string f] fun b a=>.unAgg b fun m=>.pi m fun i y=>.pi y fun j z=>.unNil z (.unCons a fun b a=>.unNil a (.need ((0:Int)<=1/\1<(↑d:Int)) (.someA c fun o=>.loadStr (o.add 1) fun f=>.cl 100 #[.string f] fun n=>.unTup n fun m=>.unCons m fun w a=>.ui w fun k=>.unCons a fun s a=>.unNil a (.need ((0:Int)<=2/\2<(↑d:Int)) (.someA c fun c=>.loadStr (c.add 2) fun f=>.cl 101 #[.string f] fun x=>.unTup x fun m=>.unCons m fun G a=>.unS G fun c d g=>.unCons a fun H a=>.unNil a (.sem false (Instr.buildSlice 235 3 #[(0,b),(1,s),(2,H)]) fun b=>.unS b fun r v D=>.nds [.val (.iface 108 (.agg #[i,j,k,.slice c d g])),.val (.agg #[i,j,k,.slice c d g]),.val (.agg #[i,j,k,.slice c d g]),.S c d g,k,.val (.agg #[i,j])] (.cl 102 #[.slice r v D] fun b=>.nds [.val (.iface 108 (.agg #[i,j,k,.slice c d g])),.val (.agg #[i,j,k,.slice c d g]),.val (.agg #[i,j,k,.slice c d g]),.S c d g,k,.val (.agg #[i,j])] (.rt (.tuple #[.iface 108 (.agg #[i,j,k,.slice c d g]),b])))))))))) else .blk (.sem false (Sem.bind (eqGuard BinOp.eql 9 (Operand.tmp 133) (Operand.const (.string { data:=#[114,101,113,117,101,115,116] })) (.string f) (.string { data:=#[114,101,113,117,101,115,116] })) fun p=>binOp BinOp.eql 9 (.string f) (.string { data:=#[114,101,113,117,101,115,116] })) fun b=>.unB b fun e=>bif e then .ag [.bool ((↑d:Int)==3)] else .ag [false]) (fun a=>.popB a fun e a=>.unNil a (bif e then .sem false (Instr.sliceAt 81 (.slice c d g) none (some (.int .i64 2)) none) fun I=>.unS I fun q i g=>.cT 98 #[.slice q i g] fun b a=>.unS b fun o j g=>.unCons a fun b a=>.unNil a (.need ((0:Int)<=2/\2<(↑d:Int)) (.someA c fun c=>.loadStr (c.add 2) fun f=>.cl 101 #[.string f] fun n=>.unTup n fun m=>.unCons m fun w a=>.unS w fun c d g=>.unCons a fun s a=>.unNil a (.sem false (Sem.bind (eqGuard BinOp.neq 83 (Operand.tmp 153) (Operand.const .nilIface) b .nilIface) fun p=>binOp BinOp.neq 83 b .nilIface) fun x=>.unB x fun e=>bif e then .rt (.tuple #[.nilIface,b]) else .need ((0:Int)<=0/\0<(↑j:Int)) (.someA o fun r=>.li (r.add 0) fun k=>.need ((0:Int)<=1/\1<(↑j:Int)) (.someA o fun B=>.li (B.add 1) fun v=>.ne s s (.rt (.tuple #[.iface 110 (.agg #[k,v,.slice c d g]),s]))))))) else .loadV { block:=0,off:=0 } fun b=>.loadV { block:=0,off:=0 } fun n=>.ne n b (.rt (.tuple #[.nilIface,b])))) (fun a=>.popB a fun e a=>.unNil a (.rt (.tuple #[b,l]))) fun t u=>.fail)) (fun a=>.popB a fun e a=>.unNil a (.rt (.tuple #[b,l]))) fun t u=>.fail)) (fun a=>.popB a fun e a=>.unNil a (.rt (.tuple #[b,l]))) fun t u=>.fail)) (fun a=>.popB a fun e a=>.unNil a (.rt (.tuple #[b,l]))) fun t u=>.fail)) (fun a=>.popV a fun b a=>.popV a fun l a=>.unNil a (.rt (.tuple #[b,l]))) fun t u=>.fail))):=fk [11,13] [] [⟨2000132,[(132,.bool)],[],[],[],[]⟩,⟨2000092,[(92,.bool)],[],[],[],[]⟩,⟨2000073,[(73,.bool)],[],[],[],[]⟩,⟨2000043,[(43,.bool)],[],[],[],[]⟩,⟨6,[(2,.any),(3,.any)],[],[],[],[]⟩] Tryz.f48
theorem w3747:FX X 98 #[.slice B n o] h A (.loop [.slice none 0 0,.nilIface,.slice none 0 0,.int .i64 0] (fun a=>.popS a fun c e d a=>.popV a fun g a=>.popS a fun i f j a=>.pi a fun b a=>.unNil a (bif decide (b<(↑n:Int)) then .need (0<=b/\b<(↑n:Int)) (.someA B fun l=>.loadStr (l.add (b.toNat*1)) fun x=>.cl 100 #[.string x] fun y=>.unTup y fun t=>.unCons t fun z a=>.ui z fun u=>.unCons a fun k a=>.unNil a (.sem false (Sem.bind (eqGuard BinOp.neq 83 (Operand.tmp 20) (Operand.const .nilIface) k .nilIface) fun F=>binOp BinOp.neq 83 k .nilIface) fun C=>.unB C fun q=>bif q then .rn [.slice none 0 0,k,.slice i f j,b] else .sem false (Instr.buildSlice 47 1 #[(0,.int .i64 u)]) fun D=>.unS D fun m v r=>.sem false (Builtin.append_ #[47,47] 47 #[.slice i f j,.slice m v r]) fun E=>.unS E fun p w s=>.ag [.slice c e d,g,.slice p w s,.int .i64 (wrap .i64 (b+1))])) else .bk [.slice c e d,g,.slice i f j,b])) (fun a=>.popS a fun c e d a=>.popV a fun g a=>.popS a fun c e d a=>.pi a fun f a=>.unNil a (.rt (.tuple #[.slice c e d,.nilIface]))) (fun a=>.popS a fun c e d a=>.popV a fun g a=>.popS a fun i f j a=>.pi a fun b a=>.unNil a (.rt (.tuple #[.slice c e d,g]))) fun G H=>.fail):=fk [] [⟨0,[(2,.slice),(3,.any),(4,.slice),(11,.int .i64)],[],[],[],[]⟩] [] Tryz.f98
theorem w3748{k:ByteArray}:FX X 99 #[.string k] h A (.cl 97 #[.string k,.string { data:=#[45] }] fun b=>.unS b fun d a e=>.cT 98 #[.slice d a e] fun b c=>.unS b fun d a e=>.unCons c fun b c=>.unNil c (.blk (.sem false (Sem.bind (eqGuard BinOp.neq 83 (Operand.tmp 12) (Operand.const .nilIface) b .nilIface) fun m=>binOp BinOp.neq 83 b .nilIface) fun b=>.unB b fun f=>bif f then .nds [true,true,.U,.U,.U,.U,true] (.loadV { block:=0,off:=0 } fun b=>.loadV { block:=0,off:=0 } fun g=>.ne g b (.rn [b,.int .i64 0,.int .i64 0])) else bif decide ((↑a:Int)>2) then .nds [.B (decide ((↑a:Int)>2)),.B (decide ((↑a:Int)>2)),.val (.int .i64 (↑a:Int)),.S d a e] (.nf f false (.nds [.B (decide ((↑a:Int)>2)),.B (decide ((↑a:Int)>2)),.val (.int .i64 (↑a:Int)),.S d a e] (.nf f false (.nds [.U,.U,.U,.U,.B (decide ((↑a:Int)>2)),.B (decide ((↑a:Int)>2)),.val (.int .i64 (↑a:Int)),.S d a e] (.nf f false (.loadV { block:=0,off:=0 } fun b=>.loadV { block:=0,off:=0 } fun g=>.ne g b (.rn [b,.int .i64 0,.int .i64 0]))))))) else bif (↑a:Int)==2 then .need ((0:Int)<=0/\0<(↑a:Int)) (.someA d fun j=>.li (j.add 0) fun i=>.need ((0:Int)<=1/\1<(↑a:Int)) (.someA d fun d=>.li (d.add 1) fun a=>bif i==a then .loadV { block:=0,off:=0 } fun b=>.loadV { block:=0,off:=0 } fun g=>.ne g b (.rn [b,.int .i64 0,.int .i64 0]) else .ag [.nilIface,.int .i64 0,.int .i64 0])) else .nds [.U,.U,.U,.U,.B ((↑a:Int)==2),.val (.int .i64 (↑a:Int)),.S d a e] (.nf (decide ((↑a:Int)>2)) false (.nds [.B (decide ((↑a:Int)>2)),.B (decide ((↑a:Int)>2)),.val (.int .i64 (↑a:Int)),.S d a e] (.nf f false (.ag [.nilIface,.int .i64 0,.int .i64 0]))))) (fun c=>.popV c fun b c=>.pi c fun i c=>.pi c fun n c=>.unNil c (.need ((0:Int)<=0/\0<(↑a:Int)) (.someA d fun j=>.li (j.add 0) fun l=>.need (0<=wrap .i64 ((↑a:Int)-1)/\wrap .i64 ((↑a:Int)-1)<(↑a:Int)) (.someA d fun d=>.li (d.add ((wrap .i64 ((↑a:Int)-1)).toNat*1)) fun a=>.rt (.tuple #[.agg #[l,a],.nilIface]))))) (fun c=>.popV c fun b c=>.pi c fun a c=>.pi c fun i c=>.unNil c (.rt (.tuple #[.agg #[a,i],b]))) fun o p=>.fail)):=fk [2] [] [⟨4,[(3,.any),(12288,.int .i64),(12289,.int .i64)],[],[],[],[]⟩] Tryz.f99
theorem w3749{b:ByteArray}:FX X 100 #[.string b] h A (.sem false (Builtin.len_ #[9] 3 #[.string b]) fun a=>.ui a fun c=>.cB 133 #[c,.int .i64 1,.int .i64 9] fun e=>bif !e then .loadV { block:=0,off:=0 } fun a=>.loadV { block:=0,off:=0 } fun f=>.ne f a (.rt (.tuple #[.int .i64 0,a])) else .cl 155 #[.string b,.string { data:=#[48,49,50,51,52,53,54,55,56,57] }] fun a=>.unStr a fun g=>.sem false (Sem.bind (eqGuard BinOp.neq 9 (Operand.tmp 10) (Operand.const (.string { data:=#[] })) (.string g) (.string { data:=#[] })) fun i=>binOp BinOp.neq 9 (.string g) (.string { data:=#[] })) fun a=>.unB a fun e=>bif e then .loadV { block:=0,off:=0 } fun a=>.loadV { block:=0,off:=0 } fun f=>.ne f a (.rt (.tuple #[.int .i64 0,a])) else .sem false (Instr.index 9 (.string b) (.int .i64 0)) fun a=>.unI .u8 a fun c=>bif c==48 then .sem false (Sem.bind (eqGuard BinOp.neq 9 (Operand.tmp 18) (Operand.const (.string { data:=#[48] })) (.string b) (.string { data:=#[48] })) fun i=>binOp BinOp.neq 9 (.string b) (.string { data:=#[48] })) fun a=>.unB a fun e=>bif e then .loadV { block:=0,off:=0 } fun a=>.loadV { block:=0,off:=0 } fun f=>.ne f a (.rt (.tuple #[.int .i64 0,a])) else .cT 156 #[.string b] fun a d=>.ui a fun c=>.unCons d fun a d=>.unNil d (.rt (.tuple #[c,a])) else .cT 156 #[.string b] fun a d=>.ui a fun c=>.unCons d fun a d=>.unNil d (.rt (.tuple #[c,a]))):=fk [] [] [] Tryz.f100
theorem w3750{b:ByteArray}:FX X 101 #[.string b] h A (.sem false (Sem.bind (eqGuard BinOp.eql 9 (Operand.tmp 4) (Operand.const (.string { data:=#[] })) (.string b) (.string { data:=#[] })) fun i=>binOp BinOp.eql 9 (.string b) (.string { data:=#[] })) fun a=>.unB a fun g=>bif g then .rt (.tuple #[.slice none 0 0,.nilIface]) else .cl 97 #[.string b,.string { data:=#[44] }] fun a=>.unS a fun c e d=>.cT 98 #[.slice c e d] fun a f=>.unS a fun c e d=>.unCons f fun a f=>.unNil f (.rt (.tuple #[.slice c e d,a]))):=fk [] [] [] Tryz.f101
def n3706(d0 : ByteArray) : T := .sem false (Builtin.len_ #[9] 3 #[.string d0]) fun d => .ui d fun i => bif decide (i > 60000) then .rt (.tuple #[.agg #[.int .i64 0, .int .i64 0, .int .i64 0, .int .i64 0, .slice none 0 0, .slice none 0 0, .slice none 0 0], .int .i64 0, .int .i64 2]) else .cl 47 #[.string d0] fun d => .each d [.int .i64 0, .int .i64 0, .int .i64 0, .int .i64 0, .slice none 0 0, .slice none 0 0, .slice none 0 0, .int .i64 0, .int .i64 0, .int .i64 0] (fun r1 a => .unCons r1 fun d z0 => .unStr d fun Y => .unNil z0 (.pi a fun i a => .pi a fun p a => .pi a fun q a => .pi a fun r a => .popS a fun f s g a => .popS a fun k t n a => .popS a fun l u o a => .pi a fun e a => .pi a fun I a => .pi a fun b a => .unNil a (.cl 49 #[.string Y, .string { data := #[10] }] fun d => .unStr d fun Y => .cT 48 #[.string Y] fun d a => .unCons a fun q0 a => .unNil a (.blk (.loadV { block := 0, off := 0 } fun Z => .cl 50 #[q0, Z] fun a0 => .unB a0 fun m => bif m then .nU (.both (.nds [.U,true] (.both (.nds [.U,true,true,true,.val (.int .i64 (wrap .i64 (e + 1)))] (.rn [.int .i64 0, .int .i64 0, .int .i64 0, .int .i64 0, .slice none 0 0, .slice none 0 0, .slice none 0 0, .int .i64 (wrap .i64 (e + 1)), .int .i64 3])) (.nds [true,true,true,.val (.int .i64 (wrap .i64 (e + 1)))] (.rn [.int .i64 0, .int .i64 0, .int .i64 0, .int .i64 0, .slice none 0 0, .slice none 0 0, .slice none 0 0, .int .i64 (wrap .i64 (e + 1)), .int .i64 3])))) (.nds [.U,true,true,true,true,.val (.int .i64 (wrap .i64 (e + 1)))] (.rn [.int .i64 0, .int .i64 0, .int .i64 0, .int .i64 0, .slice none 0 0, .slice none 0 0, .slice none 0 0, .int .i64 (wrap .i64 (e + 1)), .int .i64 3]))) else .callv false (.func (Fn.method "touchmark/use.place") #[d] #[]) #[] fun b0 => .ui b0 fun c => .nd b (bif decide (c < b) then .both (.nds [.U,.B (decide (c < b)),.B (decide (c < b)),b] (.both (.nds [.U,.B (decide (c < b)),.B (decide (c < b)),b,.B (decide (c < b)),.B (decide (c < b)),b,.B (decide (c < b)),.B (decide (c < b)),b,.val (.int .i64 (wrap .i64 (e + 1)))] (.rn [.int .i64 0, .int .i64 0, .int .i64 0, .int .i64 0, .slice none 0 0, .slice none 0 0, .slice none 0 0, .int .i64 (wrap .i64 (e + 1)), .int .i64 3])) (.nds [.B (decide (c < b)),.B (decide (c < b)),b,.B (decide (c < b)),.B (decide (c < b)),b,.B (decide (c < b)),.B (decide (c < b)),b,.val (.int .i64 (wrap .i64 (e + 1)))] (.rn [.int .i64 0, .int .i64 0, .int .i64 0, .int .i64 0, .slice none 0 0, .slice none 0 0, .slice none 0 0, .int .i64 (wrap .i64 (e + 1)), .int .i64 3])))) (.nds [.U,.B (decide (c < b)),.B (decide (c < b)),b,.B (decide (c < b)),.B (decide (c < b)),b,.B (decide (c < b)),.B (decide (c < b)),b,.B (decide (c < b)),.B (decide (c < b)),b,.val (.int .i64 (wrap .i64 (e + 1)))] (.rn [.int .i64 0, .int .i64 0, .int .i64 0, .int .i64 0, .slice none 0 0, .slice none 0 0, .slice none 0 0, .int .i64 (wrap .i64 (e + 1)), .int .i64 3])) else .callv false (.func (Fn.method "touchmark/use.place") #[d] #[]) #[] fun d => .ui d fun v => .nds [.B (wrap .i64 (e + 1) == 1),.val (.int .i64 (wrap .i64 (e + 1))),.B (decide (c < b)),.B (decide (c < b)),b] (bif !(v == 0) == (wrap .i64 (e + 1) == 1) then .nd (.int .i64 (wrap .i64 (e + 1))) (.rn [.int .i64 0, .int .i64 0, .int .i64 0, .int .i64 0, .slice none 0 0, .slice none 0 0, .slice none 0 0, .int .i64 (wrap .i64 (e + 1)), .int .i64 3]) else .ag [i, .int .i64 p, .int .i64 q, .int .i64 r, .slice f s g, .slice k t n, .slice l u o, .int .i64 (wrap .i64 (e + 1)), .int .i64 I]))) (fun a => .pi a fun i a => .pi a fun c a => .pi a fun v a => .pi a fun G a => .popS a fun f B g a => .popS a fun w C y a => .popS a fun x D z a => .pi a fun E a => .pi a fun F a => .unNil a (.callv false (.func (Fn.method "touchmark/use.place") #[d] #[]) #[] fun Z => .ui Z fun H => .sem false (Instr.typeAssert d 98 104 true) fun a0 => .unTup a0 fun j => .unCons j fun b0 a => .unAgg b0 fun j => .pi j fun g0 f1 => .pi f1 fun c0 g1 => .pi g1 fun R i1 => .pi i1 fun J j1 => .unNil j1 (.unCons a fun t0 a => .unB t0 fun m => .unNil a (bif m then .nds [J,.pp 9 3,R,.pp 9 2,c0,.pp 9 1,J,.pp 9 3,R,.pp 9 2,J,.pp 9 3] (.ag [g0, .int .i64 c0, .int .i64 R, .int .i64 J, .slice f B g, .slice w C y, .slice x D z, .int .i64 E, .int .i64 F, .int .i64 H]) else .sem false (Instr.typeAssert d 98 106 true) fun u0 => .unTup u0 fun j => .unCons j fun v0 a => .unAgg v0 fun j => .pi j fun i0 k1 => .pi k1 fun j0 l1 => .unNil l1 (.unCons a fun x0 a => .unB x0 fun m => .unNil a (bif m then .sem false (Instr.buildSlice 22 1 #[(0, .agg #[i0, .int .i64 j0])]) fun d => .unS d fun K S N => .sem false (Builtin.append_ #[22, 22] 22 #[.slice f B g, .slice K S N]) fun d => .unS d fun f U g => .ag [i, .int .i64 c, .int .i64 v, .int .i64 G, .slice f U g, .slice w C y, .slice x D z, .int .i64 E, .int .i64 F, .int .i64 H] else .sem false (Instr.typeAssert d 98 108 true) fun y0 => .unTup y0 fun j => .unCons j fun r0 a => .unAgg r0 fun j => .pi j fun S m1 => .pi m1 fun U o1 => .pi o1 fun k0 a1 => .popS a1 fun K l0 N b1 => .unNil b1 (.unCons a fun s0 a => .unB s0 fun m => .unNil a (bif m then .sem false (Instr.buildSlice 23 1 #[(0, .agg #[S, .int .i64 U, .int .i64 k0, .slice K l0 N])]) fun d => .unS d fun L V O => .sem false (Builtin.append_ #[23, 23] 23 #[.slice w C y, .slice L V O]) fun d => .unS d fun M W Q => .ag [i, .int .i64 c, .int .i64 v, .int .i64 G, .slice f B g, .slice M W Q, .slice x D z, .int .i64 E, .int .i64 F, .int .i64 H] else .sem false (Instr.typeAssert d 98 110 true) fun d => .unTup d fun j => .unCons j fun d a => .unAgg d fun j => .pi j fun V c1 => .pi c1 fun W d1 => .popS d1 fun L m0 O e1 => .unNil e1 (.unCons a fun d a => .unB d fun m => .unNil a (bif m then .sem false (Instr.buildSlice 24 1 #[(0, .agg #[V, .int .i64 W, .slice L m0 O])]) fun d => .unS d fun M o0 Q => .sem false (Builtin.append_ #[24, 24] 24 #[.slice x D z, .slice M o0 Q]) fun d => .unS d fun e0 p0 f0 => .ag [i, .int .i64 c, .int .i64 v, .int .i64 G, .slice f B g, .slice w C y, .slice e0 p0 f0, .int .i64 E, .int .i64 F, .int .i64 H] else .ag [i, .int .i64 c, .int .i64 v, .int .i64 G, .slice f B g, .slice w C y, .slice x D z, .int .i64 E, .int .i64 F, .int .i64 H])))))))))) (fun a => .pi a fun i a => .pi a fun c a => .pi a fun v a => .pi a fun G a => .popS a fun f B g a => .popS a fun w C y a => .popS a fun x D z a => .pi a fun E a => .pi a fun F a => .unNil a (.rn [i, .int .i64 c, .int .i64 v, .int .i64 G, .slice f B g, .slice w C y, .slice x D z, .int .i64 E, .int .i64 F, .int .i64 b])) fun p1 q1 => .fail)))) (fun a => .pi a fun i a => .pi a fun p a => .pi a fun q a => .pi a fun r a => .popS a fun f s g a => .popS a fun k t n a => .popS a fun l u o a => .pi a fun e a => .pi a fun I a => .pi a fun b a => .unNil a (bif e == 0 then .rt (.tuple #[.agg #[.int .i64 0, .int .i64 0, .int .i64 0, .int .i64 0, .slice none 0 0, .slice none 0 0, .slice none 0 0], .int .i64 0, .int .i64 3]) else .cI 33 #[.agg #[i, .int .i64 p, .int .i64 q, .int .i64 r, .slice f s g, .slice k t n, .slice l u o]] fun c => bif c != 0 then .rt (.tuple #[.agg #[.int .i64 0, .int .i64 0, .int .i64 0, .int .i64 0, .slice none 0 0, .slice none 0 0, .slice none 0 0], .int .i64 0, .int .i64 c]) else .rt (.tuple #[.agg #[i, .int .i64 p, .int .i64 q, .int .i64 r, .slice f s g, .slice k t n, .slice l u o], .int .i64 0, .int .i64 0]))) (fun a => .pi a fun i a => .pi a fun p a => .pi a fun q a => .pi a fun r a => .popS a fun f s g a => .popS a fun k t n a => .popS a fun l u o a => .pi a fun e a => .pi a fun I a => .pi a fun b a => .unNil a (bif e == 0 then .rt (.tuple #[.agg #[.int .i64 0, .int .i64 0, .int .i64 0, .int .i64 0, .slice none 0 0, .slice none 0 0, .slice none 0 0], .int .i64 0, .int .i64 3]) else .cI 33 #[.agg #[i, .int .i64 p, .int .i64 q, .int .i64 r, .slice f s g, .slice k t n, .slice l u o]] fun c => bif c != 0 then .rt (.tuple #[.agg #[.int .i64 0, .int .i64 0, .int .i64 0, .int .i64 0, .slice none 0 0, .slice none 0 0, .slice none 0 0], .int .i64 0, .int .i64 c]) else .rt (.tuple #[.agg #[i, .int .i64 p, .int .i64 q, .int .i64 r, .slice f s g, .slice k t n, .slice l u o], .int .i64 0, .int .i64 0]))) (fun a => .pi a fun i a => .pi a fun p a => .pi a fun q a => .pi a fun r a => .popS a fun f s g a => .popS a fun k t n a => .popS a fun l u o a => .pi a fun e a => .pi a fun I a => .pi a fun b a => .unNil a (.rt (.tuple #[.agg #[i, .int .i64 p, .int .i64 q, .int .i64 r, .slice f s g, .slice k t n, .slice l u o], .int .i64 e, .int .i64 I]))) fun p1 q1 => .fail
theorem w3706(text:ByteArray):FX X 11 #[.string text] h A (n3706 text):=fk [2,3,4,5,9,10,11,12] [{ id:=0,slots:=[(12288,.int .i64),(12289,.int .i64),(12290,.int .i64),(12291,.int .i64),(12292,.slice),(12293,.slice),(12294,.slice),(16384,.int .i64),(20480,.int .i64),(24576,.int .i64)],ro:=[],outs:=[],ps:=[.cell (.str)] }] [⟨10,[(12288,.int .i64),(12289,.int .i64),(12290,.int .i64),(12291,.int .i64),(12292,.slice),(12293,.slice),(12294,.slice),(16384,.int .i64),(20480,.int .i64)],[5],[],[],[]⟩] Tryz.f11
theorem w3807:FX X 268 #[.agg #[a,b,c,d]] h A (.rt (.int .i64 0)):=fk [1] [] [] Tryz.f268
theorem w3808:FX X 269 #[.agg #[a,b]] h A (.rt (.int .i64 1)):=fk [1] [] [] Tryz.f269
theorem w3809:FX X 270 #[.agg #[a,b,c,.slice B n o]] h A (.rt (.int .i64 2)):=fk [1] [] [] Tryz.f270
theorem w3810:FX X 271 #[.agg #[a,b,.slice B n o]] h A (.rt (.int .i64 3)):=fk [1] [] [] Tryz.f271
end Go.Y
end
section
namespace Go.Y.Txt
open Go.TM.Tp
attribute [local irreducible] T.wp CV FWK
variable {h:LH}
theorem c3720{r n c:Nat}{p q:Option Addr}(hb:h.get r=some (true,.cells #[.pointer p,.slice q n c] 80 (0,0))):Pu Tryz.prog 40 #[.pointer (some ⟨r,0,none⟩)] h (.int .i64 (n:Int)):=by
 refine w3720 Qk ?_;have a:h.get.cell? ((⟨r,0,none⟩ : Addr).add 1)=some (.slice q n c):=J6 (i:=1) hb rfl;refine gZ ?_;exact Qa ⟨rfl,rfl⟩
theorem c3807(a b c d:Int):Pu Tryz.prog 268 #[.agg #[a,b,c,d]] h (.int .i64 0):=by
 refine w3807 Qk ?_;exact Qa ⟨rfl,rfl⟩
theorem c3808(a b:Int):Pu Tryz.prog 269 #[.agg #[a,b]] h (.int .i64 1):=by
 refine w3808 Qk ?_;exact Qa ⟨rfl,rfl⟩
theorem c3809(a b d:Int)(p:Option Addr)(n c:Nat):Pu Tryz.prog 270 #[.agg #[a,b,d,.slice p n c]] h (.int .i64 2):=by
 refine w3809 Qk ?_;exact Qa ⟨rfl,rfl⟩
theorem c3810(a b:Int)(p:Option Addr)(n c:Nat):Pu Tryz.prog 271 #[.agg #[a,b,.slice p n c]] h (.int .i64 3):=by
 refine w3810 Qk ?_;exact Qa ⟨rfl,rfl⟩
end Go.Y.Txt
end

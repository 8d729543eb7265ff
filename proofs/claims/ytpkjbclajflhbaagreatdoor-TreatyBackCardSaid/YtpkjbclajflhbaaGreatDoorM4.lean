/- Contracts and laws for the proof, joined by a program. No condition. -/
import Derived.Test.YtpkjbclajflhbaaGreatDoorM3
set_option linter.all false
noncomputable section
open Go Go.Conc Go.TM Go.Proofs
set_option maxRecDepth 100000
open Go.IntKind (wrap)
namespace Go.TM
section
variable {P:Program} {E:Halt->Cells->Prop} {h:Cells}
def ByteE(h:Cells)(a:Addr)(c:UInt8):Prop:=h.cell? (a.add 0)=some (.int .u8 (c.toNat:Int))
variable {el:TypeId}{s:ByteArray}{K:Value->T}
theorem freeze_upd{h:Cells}{r:Nat}{cs:Array Value}{k:Nat}:(h.upd r (true,.cells cs el (0,0))).freeze { block:=r,off:=k } 1=h.upd r (true,.cells cs el (k,k+1)):=by
 funext a;unfold Cells.freeze Cells.upd;by_cases e:a=r
 ·subst e;simp[frzO]
 ·simp[e]
theorem lwp_bytes{Q:Value->Cells->Prop}(d:∀ r cap,h r=none->s.size<=cap->∀ cs:Array Value,(∀ (i:Nat) c,s.data[i]?=some c->cs[i]?=some (.int .u8 (c.toNat:Int)))->Q (.slice (some ⟨r,0,none⟩) s.size cap) (h.upd r (true,.cells cs el (cs.size,cs.size+1)))):Qe P (Conv.stringToBytes el s) Q E h:=by
 unfold Conv.stringToBytes;rw[lwp_bind];show (if _ then _ else _);split
 ·rename_i a;simp[Question.forced]at a
 ·intro t;simp only[lwp_bind];refine Z4 fun r hr=>?_;unfold markStringish;rw[lwp_bind];refine⟨⟨_,Qk _ _ _⟩,?_⟩;have e:∀ (cs:Array Value),(h.upd r (true,.cells cs el (0,0))).shape? r=some (el,cs.size):=by
   intro cs;unfold Cells.shape?;rw[Qk]
  simp only[e];refine⟨by decide,⟨_,Qk _ _ _,fun _=>id⟩,?_⟩;rw[freeze_upd];refine d r _ hr (Nat.le_add_right _ _) _ fun i c hc=>?_;have b:i<s.data.size:=(Array.getElem?_eq_some_iff.1 hc).1;rw[Array.getElem?_append_left (by simpa using b),Array.getElem?_map,hc];rfl
variable {X:XP} {Q:Leaf->LH->Prop}
theorem t_bytes{h:LH}{src dst:TypeId}(h1:P.underlying src=some .string)(h2:P.underlying dst=some (.slice el))(h3:P.underlying el=some (.int .u8))(g:s.size<4611686018427387904)
 (e:∀ r cap h',h.le h'->Sl ByteE 1 h'.get (some ⟨r,0,none⟩) s.size s.data.toList->(K (.slice (some ⟨r,0,none⟩) s.size cap)).wp X P Q h'):(T.sem false (convert src dst (.string s)) K).wp X P Q h:=by
 refine Jh (A:=fun w h'=>∃ r cap,w=.slice (some ⟨r,0,none⟩) s.size cap/\h.get.le h'/\Sl ByteE 1 h' (some ⟨r,0,none⟩) s.size s.data.toList) ?_ (by rintro w h' ⟨r,cap,rfl,f,b⟩;exact e r cap _ ⟨f,rfl,rfl,rfl⟩ b);unfold convert;simp only[lwp_bind,Qd h1,Qd h2,Qd h3];refine lwp_bytes fun r cap hr d cs a=>⟨r,cap,rfl,J6 _ hr,?_⟩;refine⟨by rw[Array.length_toList];rfl,by rw[Array.length_toList];exact g,fun i c hc=>⟨_,rfl,?_⟩⟩;unfold ByteE;rw[Qa,Qa];simp only[Nat.zero_add,Nat.mul_one,Nat.add_zero];unfold Cells.cell?;rw[Qk];exact a i c (by simpa using hc)
theorem t_indexS{h:LH}{t:TypeId}{i:Nat}{c:UInt8}(hu:P.underlying t=some .string)(hc:s.data[i]?=some c)(b:(K (.int .u8 (c.toNat:Int))).wp X P Q h):(T.sem false (Instr.index t (.string s) (.int .i64 (i:Int))) K).wp X P Q h:=by
 refine Jh (A:=fun w h'=>h'=h.get/\w=.int .u8 (c.toNat:Int)) ?_ (by rintro w h' ⟨rfl,rfl⟩;exact b);unfold Instr.index;simp only[asIntOf,lwp_bind,Qg,Qd hu];have a:i<s.size:=(Array.getElem?_eq_some_iff.1 hc).1;have h1:s[(i:Int).toNat]?=some c:=by
  rw[Int.toNat_natCast,getElem?_pos s i a];have:=Array.getElem?_eq_getElem (xs:=s.data) (i:=i) a;rw[this]at hc;exact hc
 rw[if_pos (by omega),h1];exact⟨rfl,rfl⟩
end
section
variable {X:XP} {P:Program}
theorem H7{f : FuncId}{fd : Func}{e : Array Value -> Sem Value}{args : Array Value}{h : LH}{Q : Value -> LH -> Prop}(hf : P.funcs[f]? = some fd)(hn : (fd.name == "runtime.NumGoroutine") = false)(hb : fd.body = none)(h1 : (Extern.findNext fd).isNone = true)(h2 : Extern.find fd = some e)
 (hw:Qe P (e args) (fun v h'=>Q v { h with get:=h' }) (fun _ _=>False) h.get):CV X P (.func (.func f) #[] #[]) args h Q:=by
 intro main R hR fr cs _ hk;have h1':Extern.findNext fd=none:=by cases e:Extern.findNext fd with|none=>rfl|some x=>rw[e]at h1;cases h1
 simp only[Deferred.ofValue,lwp_bind,Qg,invoke,callFunc,Jr,Array.append_empty,Array.empty_append];rw[hf];simp only;rw[if_neg (by rw[hn];simp),if_pos (by rw[hb];rfl)];rw[h1',h2];refine⟨.inr ⟨f,rfl⟩,?_⟩;show Qe P (do let v <- e args;pure (Next.value v)) _ _ _;rw[lwp_bind];refine Q6 _ hw (fun v h' hq=>?_) fun _ _ hf=>hf;rw[Qg];have:=hk v { h with get:=h' } (fun _=>none) (fun _=>.inr rfl) hq;rw[Hy]at this;exact this
end
section
def str(l:List UInt8):ByteArray:=⟨l.toArray⟩
theorem Jx(l:List UInt8):(str l).size=l.length:=by simp[str,ByteArray.size]
theorem str_data(l:List UInt8):(str l).data.toList=l:=by simp[str]
theorem str_inj{a b:List UInt8}(h:str a=str b):a=b:=by
 have:=congrArg (fun s:ByteArray=>s.data.toList) h;simpa[str] using this
theorem str_of(s:ByteArray):s=str s.data.toList:=by simp[str]
theorem W3(l:List UInt8)(a b:Nat):(str l).extract a b=str ((l.take b).drop a):=by
 apply ByteArray.ext;simp only[str,ByteArray.data_extract,List.extract_toArray];congr 1;simp[List.extract,List.drop_take]
theorem str_append(a b:List UInt8):str a++str b=str (a++b):=by
 apply ByteArray.ext;simp[str]
section
variable {X:XP} {P:Program} {Q:Leaf->LH->Prop} {h:LH} {K:Value->T} {t t':TypeId}
variable {s:ByteArray}{a b:Nat}{x y:Operand}
theorem Jf{l:List UInt8}(hu:P.underlying t=some .string)(a:(K (.int .i64 (l.length:Int))).wp X P Q h):(T.sem false (Builtin.len_ #[t] t' #[.string (str l)]) K).wp X P Q h :=
 t_lenStr hu (by rw[Jx];exact a)
theorem Kd{l:List UInt8}{i:Nat}{c:UInt8}(hu:P.underlying t=some .string)(hc:l[i]?=some c)(a:(K (.int .u8 (c.toNat:Int))).wp X P Q h):(T.sem false (Instr.index t (.string (str l)) (.int .i64 (i:Int))) K).wp X P Q h :=
 t_indexS hu (by simpa[str] using hc) a
theorem t_sliceS(hu:P.underlying t=some .string)(d:a<=b)(hb:b<=s.size)(c:(K (.string (s.extract a b))).wp X P Q h):(T.sem false (Instr.sliceAt t (.string s) (some (.int .i64 (a:Int))) (some (.int .i64 (b:Int))) none) K).wp X P Q h:=by
 refine Jh (A:=fun v h'=>h'=h.get/\v=.string (s.extract a b)) ?_ (by rintro v h' ⟨rfl,rfl⟩;exact c);unfold Instr.sliceAt;simp only[lwp_bind,Qd hu];unfold Instr.slice;simp only[lwp_bind,Qd hu,Option.isSome_none,Bool.false_eq_true,if_false];unfold Instr.sliceBounds Instr.sliceBound;simp only[lwp_bind,Qg,asIntOf];rw[if_pos (show 0<=(b:Int)/\(b:Int)<=(s.size:Int) by omega)];simp only[Qg,lwp_bind,Int.toNat_natCast];rw[if_pos (show 0<=(a:Int)/\(a:Int)<=(b:Int) by omega)];simp only[Qg,lwp_bind,Int.toNat_natCast];exact⟨trivial,trivial⟩
theorem t_tailS(hu:P.underlying t=some .string)(c:a<=s.size)(b:(K (.string (s.extract a s.size))).wp X P Q h):(T.sem false (Instr.sliceAt t (.string s) (some (.int .i64 (a:Int))) none none) K).wp X P Q h:=by
 refine Jh (A:=fun v h'=>h'=h.get/\v=.string (s.extract a s.size)) ?_ (by rintro v h' ⟨rfl,rfl⟩;exact b);unfold Instr.sliceAt;simp only[lwp_bind,Qd hu];unfold Instr.slice;simp only[lwp_bind,Qd hu,Option.isSome_none,Bool.false_eq_true,if_false];unfold Instr.sliceBounds Instr.sliceBound;simp only[lwp_bind,Qg,asIntOf];rw[if_pos (show 0<=(a:Int)/\(a:Int)<=(s.size:Int) by omega)];simp only[Qg,lwp_bind,Int.toNat_natCast];exact⟨trivial,trivial⟩
theorem W2{l:List UInt8}{n:Nat}(hu:P.underlying t=some .string)(b:n<=l.length)(a:(K (.string (str (l.take n)))).wp X P Q h):(T.sem false (Instr.sliceAt t (.string (str l)) none (some (.int .i64 (n:Int))) none) K).wp X P Q h:=by
 refine Jh (A:=fun v h'=>h'=h.get/\v=.string ((str l).extract 0 n)) ?_ (by rintro v h' ⟨rfl,rfl⟩;rw[W3];exact a);have c:=Jx l;unfold Instr.sliceAt;simp only[lwp_bind,Qd hu];unfold Instr.slice;simp only[lwp_bind,Qd hu,Option.isSome_none,Bool.false_eq_true,if_false];unfold Instr.sliceBounds Instr.sliceBound;simp only[lwp_bind,Qg,asIntOf];rw[if_pos (show 0<=(n:Int)/\(n:Int)<=((str l).size:Int) by omega)];simp only[Qg,lwp_bind,Int.toNat_natCast];exact⟨trivial,trivial⟩
theorem t_sliceB{l:List UInt8}(hu:P.underlying t=some .string)(c:a<=b)(hb:b<=l.length)(d:(K (.string (str ((l.take b).drop a)))).wp X P Q h):(T.sem false (Instr.sliceAt t (.string (str l)) (some (.int .i64 (a:Int))) (some (.int .i64 (b:Int))) none) K).wp X P Q h :=
 t_sliceS hu c (by rw[Jx];exact hb) (by rw[W3];exact d)
theorem G0{l:List UInt8}(hu:P.underlying t=some .string)(b:a<=l.length)(c:(K (.string (str (l.drop a)))).wp X P Q h):(T.sem false (Instr.sliceAt t (.string (str l)) (some (.int .i64 (a:Int))) none none) K).wp X P Q h :=
 t_tailS hu (by rw[Jx];exact b) (by rw[W3,Jx,List.take_of_length_le (Nat.le_refl _)];exact c)
theorem t_catS{a b:ByteArray}(hu:P.underlying t=some .string)(d:a.size+b.size<=2^62)(c:(K (.string (a++b))).wp X P Q h) :
  (T.sem false (Sem.bind (eqGuard .add t x y (.string a) (.string b)) fun _=>binOp .add t (.string a) (.string b)) K).wp X P Q h:=by
 refine Jh (A:=fun w h'=>h'=h.get/\(K w).wp X P Q h) (Qy _ _ ?_) (by rintro w h' ⟨rfl,hw⟩;exact hw);unfold eqGuard;simp only[Bool.not_true,Bool.not_false,Bool.false_eq_true,if_false,if_true,Qg];unfold binOp;show Qe P (Op.stringOp .add a b) _ _ _;unfold Op.stringOp;have e:IntKind.i64.max=9223372036854775807:=rfl;simp only[];rw[if_neg (by rw[e];omega),Qg];exact⟨rfl,c⟩
theorem Y1{a b:List UInt8}(hu:P.underlying t=some .string)(d:a.length+b.length<=2^62)(c:(K (.string (str (a++b)))).wp X P Q h) :
  (T.sem false (Sem.bind (eqGuard .add t x y (.string (str a)) (.string (str b))) fun _=>binOp .add t (.string (str a)) (.string (str b))) K).wp X P Q h :=
 t_catS hu (by rw[Jx,Jx];exact d) (by rw[str_append];exact c)
theorem Db{a b:List UInt8}(hu:P.underlying t=some .string)(d:(K (.bool (decide (a=b)))).wp X P Q h) :
  (T.sem false (Sem.bind (eqGuard .eql t x y (.string (str a)) (.string (str b))) fun _=>binOp .eql t (.string (str a)) (.string (str b))) K).wp X P Q h :=
 t_eqStr hu fun c hc=>by
  have:c=decide (a=b):=by
   cases c with
   | true=>exact(decide_eq_true (str_inj (hc.1 rfl))).symm
   | false =>
    symm;rw[decide_eq_false_iff_not];intro e;have:=hc.2 (by rw[e]);cases this
  rw[this];exact d
end
end
end Go.TM
section
namespace Go.TM.Tp
variable {P:Program} {E:Halt->Cells->Prop} {h:Cells}
variable {r:Nat}{m:Bool}{cs:Array Value}{el src dst:TypeId}{Q:Value->Cells->Prop}
theorem shape_at{fr:Nat×Nat}(hr:h r=some (m,.cells cs el fr)):h.shape? r=some (el,cs.size):=by
 unfold Cells.shape?;rw[hr]
theorem Kz{Q:Option (TypeId×Nat)->Cells->Prop}{fr:Nat×Nat}(hr:h r=some (m,.cells cs el fr)):Qe P (shape r) Q E h↔Q (some (el,cs.size)) h:=by
 constructor
 ·rintro⟨_,h2⟩;rw[shape_at hr]at h2;exact h2
 ·intro h2;refine⟨⟨_,hr⟩,?_⟩;rw[shape_at hr];exact h2
theorem lwp_seenAt{Q:Addr->Cells->Prop}{a:Addr}{fr:Nat×Nat}(hr:h a.block=some (m,.cells cs el fr))(b:Q a h):Qe P (Conv.seenAt a) Q E h:=by
 unfold Conv.seenAt viewAt;simp only[lwp_bind];rw[Kz hr];simp only[Option.isSome_some,if_true,Qg];exact b
theorem lwp_toUnsafe{t:TypeId}{j:TypeInfo}{fr:Nat×Nat}(d:P.underlying src=some (.pointer t))(a:P.underlying dst=some .unsafePointer)(e:P.info? t=some j)(b:j.size≠0)(hr:h r=some (m,.cells cs el fr))(hc:0<cs.size)(c:Q (.pointer (some ⟨r,0,none⟩)) h) :
  Qe P (convert src dst (.pointer (some ⟨r,0,none⟩))) Q E h:=by
 simp only[convert,lwp_bind,Qd d,Qd a,Conv.unsafePointer];refine lwp_seenAt hr ?_;unfold cellsIn;simp only[lwp_bind];rw[Kz hr];simp only[Qg,Q0 e];have h1:¬ (0>=cs.size):=by omega
 simp only[h1,decide_false,Bool.false_and,Bool.or_false,decide_eq_true_eq,b,if_false,Qg,Bool.false_eq_true,or_false];exact c
theorem lwp_fromUnsafe{u:TypeId}{j:TypeInfo}{fr:Nat×Nat}(d:P.underlying src=some .unsafePointer)(a:P.underlying dst=some (.pointer u))(hu:P.info? u=some j)(hr:h r=some (m,.cells cs el fr))(b:liesAt P P.depth el (cs.size / P.cellsOf el) 0 u 1=true)(c:Q (.pointer (some ⟨r,0,none⟩)) h) :
  Qe P (convert src dst (.pointer (some ⟨r,0,none⟩))) Q E h:=by
 simp only[convert,lwp_bind,Qd d,Qd a,Conv.unsafePointer];refine lwp_seenAt hr ?_;unfold variablesAt;simp only[lwp_bind,Q0 hu,Jr];rw[Kz hr];simp only[Qg,b,decide_true,Bool.or_true,or_true,if_true];exact c
end Go.TM.Tp
end
section
namespace Go.Y
set_option maxHeartbeats 0
set_option linter.unusedVariables false
variable {X:XP} {h:LH} {A:Value->LH->Prop}
variable {a b c d e f g i j k l m:Int}{n o p q r s t u v w x y z:Nat}{B C D E F G H I J K L M:Option Addr}
theorem w3715{e:ByteArray}:FX X 35 #[.pointer B,.string e] h A (.cl 84 #[.pointer B] fun b=>.unTup b fun g=>.unNil g (.someA B fun c=>.loadS (c.add 1) fun i a d=>.sem false (Builtin.append_ #[78,9] 78 #[.slice i a d,.string e]) fun b=>.unS b fun c a d=>.someA B fun f=>.store ((f.add 1).add 0) (.slice c a d) (.sem false (Builtin.len_ #[9] 3 #[.string e]) fun b=>.ui b fun a=>.rt (.tuple #[a,.nilIface])))):=fk [] [] [] Tryz.f35
theorem w3716{j:ByteArray}:FX X 36 #[.slice B n o,.string j] h A (bif (↑n:Int)==0 then .rt (.string { data:=#[] }) else bif (↑n:Int)==1 then .need ((0:Int)<=0/\0<(↑n:Int)) (.someA B fun e=>.loadStr (e.add 0) fun d=>.rt (.string d)) else .blk (.sem false (Builtin.len_ #[9] 3 #[.string j]) fun c=>.ui c fun b=>bif decide (b>0) then .sem false (Builtin.len_ #[9] 3 #[.string j]) fun c=>.ui c fun b=>.need (wrap .i64 ((↑n:Int)-1)≠0) (bif decide (b>=wrap .i64 (Int.tdiv 9223372036854775807 (wrap .i64 ((↑n:Int)-1)))) then .fail else .sem false (Builtin.len_ #[9] 3 #[.string j]) fun c=>.ui c fun b=>.ag [.int .i64 (wrap .i64 (0+wrap .i64 (b*wrap .i64 ((↑n:Int)-1))))]) else .ag [.int .i64 0]) (fun a=>.pi a fun b a=>.unNil a (.loop [b,.int .i64 0] (fun a=>.pi a fun b a=>.pi a fun g a=>.unNil a (bif decide (g<(↑n:Int)) then .need (0<=g/\g<(↑n:Int)) (.someA B fun e=>.loadStr (e.add (g.toNat*1)) fun d=>.sem false (Builtin.len_ #[9] 3 #[.string d]) fun c=>.ui c fun f=>bif decide (f>wrap .i64 (9223372036854775807-b)) then .fail else .sem false (Builtin.len_ #[9] 3 #[.string d]) fun c=>.ui c fun p=>.ag [.int .i64 (wrap .i64 (b+p)),.int .i64 (wrap .i64 (g+1))]) else .bk [b,g])) (fun a=>.pi a fun b a=>.pi a fun g a=>.unNil a (.new 80 #[.pointer none,.slice none 0 0] fun i=>.cl 85 #[.pointer (some ⟨i,0,none⟩),b] fun c=>.unTup c fun m=>.unNil m (.need ((0:Int)<=0/\0<(↑n:Int)) (.someA B fun e=>.loadStr (e.add 0) fun d=>.cT 35 #[.pointer (some ⟨i,0,none⟩),.string d] fun c a=>.ui c fun b=>.unCons a fun c a=>.unNil a (.sem false (Instr.sliceAt 81 (.slice B n o) (some (.int .i64 1)) none none) fun q=>.unS q fun e b r=>.loop [.int .i64 0] (fun a=>.pi a fun f a=>.unNil a (bif decide (f<(↑b:Int)) then .need (0<=f/\f<(↑b:Int)) (.someA e fun e=>.loadStr (e.add (f.toNat*1)) fun d=>.cT 35 #[.pointer (some ⟨i,0,none⟩),.string j] fun c a=>.ui c fun b=>.unCons a fun c a=>.unNil a (.cT 35 #[.pointer (some ⟨i,0,none⟩),.string d] fun c a=>.ui c fun b=>.unCons a fun c a=>.unNil a (.ag [.int .i64 (wrap .i64 (f+1))]))) else .bk [f])) (fun a=>.pi a fun b a=>.unNil a (.cl 41 #[.pointer (some ⟨i,0,none⟩)] fun c=>.unStr c fun d=>.rt (.string d))) (fun a=>.pi a fun b a=>.unNil a (.rt (.string { data:=#[] }))) fun k l=>.fail))))) (fun a=>.pi a fun b a=>.pi a fun b a=>.unNil a (.rt (.string { data:=#[] }))) fun k l=>.fail)) (fun a=>.pi a fun b a=>.unNil a (.rt (.string { data:=#[] }))) fun k l=>.fail):=fk [] [⟨1,[(5,.int .i64),(41,.int .i64)],[],[],[],[]⟩,⟨3,[(65,.int .i64)],[],[],[],[]⟩] [⟨11,[(5,.int .i64)],[],[],[],[]⟩] Tryz.f36
theorem w3720:FX X 40 #[.pointer B] h A (.someA B fun a=>.loadS (a.add 1) fun d b c=>.rt (.int .i64 (↑b:Int))):=fk [] [] [] Tryz.f40
theorem w3721:FX X 41 #[.pointer B] h A (.someA B fun b=>.loadS (b.add 1) fun e d c=>.someA B fun a=>.loadS (a.add 1) fun j f i=>.sem false (Builtin.unsafeSliceData_ #[78] 162 #[.slice e d c]) fun g=>.nd (.int .i64 (↑f:Int)) (.loadS (a.add 1) fun e d c=>.ne (.slice e d c) (.slice j f i) (.nO (a.add 1) (.someA B fun k=>.nq k a (.nds [.val (.pointer B),.O (b.add 1)] (.someA B fun l=>.nq l b (.nd (.pointer B) (.sem false (Builtin.unsafeString_ #[162,3] 9 #[g,.int .i64 (↑f:Int)]) fun g=>.unStr g fun o=>.loadS (a.add 1) fun e d c=>.ne (.slice e d c) (.slice j f i) (.nO (a.add 1) (.someA B fun m=>.nq m a (.nds [.val (.pointer B),.O (b.add 1)] (.someA B fun n=>.nq n b (.nd (.pointer B) (.rt (.string o))))))))))))))):=fk [] [] [] Tryz.f41
theorem w3739:FX X 84 #[.pointer B] h A (.someA B fun a=>.loadP (a.add 0) fun c=>.sem false (Sem.bind (eqGuard BinOp.eql 77 (Operand.tmp 5) (Operand.const (.pointer none)) (.pointer c) (.pointer none)) fun d=>binOp BinOp.eql 77 (.pointer c) (.pointer none)) fun b=>.unB b fun f=>bif f then .sem false (convert 77 231 (.pointer B)) fun b=>.unP b fun a=>.callv false (.func (Fn.func 146) #[] #[]) #[.pointer a] fun b=>.unP b fun a=>.sem false (convert 231 77 (.pointer a)) fun b=>.unP b fun a=>.someA B fun e=>.store ((e.add 0).add 0) (.pointer a) (.rt (.tuple #[])) else .someA B fun a=>.loadP (a.add 0) fun c=>.sem false (Sem.bind (eqGuard BinOp.neq 77 (Operand.tmp 17) (Operand.tmp 18) (.pointer c) (.pointer B)) fun d=>binOp BinOp.neq 77 (.pointer c) (.pointer B)) fun b=>.unB b fun B=>bif B then .fail else .rt (.tuple #[])):=fk [] [] [] Tryz.f84
theorem w3740:FX X 85 #[.pointer B,a] h A (.cl 84 #[.pointer B] fun b=>.unTup b fun f=>.unNil f (.blk (bif decide (a<0) then .fail else .ag []) (fun j=>.unNil j (.someA B fun d=>.loadS (d.add 1) fun i n e=>.someA B fun c=>.loadS (c.add 1) fun q g m=>.sem false (Builtin.cap_ #[78] 3 #[.slice i n e]) fun b=>.ui b fun o=>.nds [a,.val (.int .i64 (↑g:Int))] (.loadS (c.add 1) fun i p e=>.ne (.slice i p e) (.slice q g m) (.nO (c.add 1) (.someA B fun k=>.nq k c (.nds [.val (.pointer B),.O (d.add 1)] (.someA B fun l=>.nq l d (.nd (.pointer B) (bif decide (wrap .i64 (o-(↑g:Int))<a) then .cl 147 #[.pointer B,a] fun b=>.unTup b fun f=>.unNil f (.rt (.tuple #[])) else .rt (.tuple #[])))))))))) (fun j=>.unNil j (.rt (.tuple #[]))) fun r s=>.fail)):=fk [] [] [⟨3,[],[],[],[],[]⟩] Tryz.f85
theorem w3766:FX X 147 #[.pointer B,a] h A (.someA B fun b=>.loadS (b.add 1) fun d x e=>.someA B fun c=>.loadS (c.add 1) fun k f i=>.sem false (Builtin.cap_ #[78] 3 #[.slice d x e]) fun g=>.ui g fun j=>.nd (.int .i64 (↑f:Int)) (.loadS (c.add 1) fun d y e=>.ne (.slice d y e) (.slice k f i) (.nO (c.add 1) (.someA B fun n=>.nq n c (.nds [.val (.pointer B),a,.O (b.add 1)] (.someA B fun o=>.nq o b (.nd (.pointer B) (.callv false (.func (Fn.func 172) #[] #[]) #[.int .i64 (wrap .i64 (wrap .i64 (2*j)+a))] fun g=>.unS g fun p z e=>.nds [.val (.int .i64 (wrap .i64 (2*j))),.val (.int .i64 (↑f:Int))] (.loadS (c.add 1) fun d C u=>.ne (.slice d C u) (.slice k f i) (.nO (c.add 1) (.someA B fun q=>.nq q c (.nds [.val (.pointer B),a,.O (b.add 1)] (.someA B fun r=>.nq r b (.nd (.pointer B) (.sem false (Instr.sliceAt 78 (.slice p z e) none (some (.int .i64 (↑f:Int))) none) fun E=>.unS E fun l m e=>.nd (.int .i64 (wrap .i64 (2*j))) (.loadS (c.add 1) fun d D v=>.ne (.slice d D v) (.slice k f i) (.nO (c.add 1) (.someA B fun s=>.nq s c (.nds [.val (.pointer B),a,.O (b.add 1)] (.someA B fun t=>.nq t b (.nd (.pointer B) (.someA B fun b=>.loadS (b.add 1) fun d a w=>.sem false (Builtin.copy_ #[78,78] 3 #[.slice l m e,.slice d a w]) fun g=>.someA B fun b=>.store ((b.add 1).add 0) (.slice l m e) (.rt (.tuple #[])))))))))))))))))))))))):=fk [] [] [] Tryz.f147
theorem w3726{a:ByteArray}:FX X 47 #[.string a] h A (.new 9 #[.string a] fun b=>.rt (.func (Fn.func 93) #[] #[.pointer (some ⟨b,0,none⟩)])):=fk [] [] [] Tryz.f47
theorem w3743{k:Value}{c:Addr}:FX X 93 #[k,.pointer (some c)] h A (.loop [] (fun j=>.unNil j (.loadStr c fun b=>.sem false (Builtin.len_ #[9] 3 #[.string b]) fun d=>.ui d fun a=>bif decide (a>0) then .loadStr c fun b=>.cI 94 #[.string b,.int .u8 10] fun a=>bif decide (a>=0) then .loadStr c fun b=>.loadStr c fun g=>.both (.sem false (Instr.sliceAt 9 (.string b) none (some (.int .i64 (wrap .i64 (a+1)))) none) fun e=>.unStr e fun b=>.nds [.val (.int .i64 (wrap .i64 (a+1))),a] (.loadStr c fun l=>.ne (.string l) (.string g) (.nd a (.both (.sem false (Instr.sliceAt 9 (.string g) (some (.int .i64 (wrap .i64 (a+1)))) none none) fun e=>.unStr e fun i=>.nds [a,a,a] (.store (c.add 0) (.string i) (.callv false k #[.string b] fun d=>.unB d fun f=>bif !f then .rn [] else .ag []))) (.nds [.val (.int .i64 (wrap .i64 (a+1))),a] (.loadStr c fun i=>.ne (.string i) (.string g) (.sem false (Instr.sliceAt 9 (.string g) (some (.int .i64 (wrap .i64 (a+1)))) none none) fun e=>.unStr e fun m=>.nd a (.store (c.add 0) (.string m) (.callv false k #[.string b] fun d=>.unB d fun f=>bif !f then .rn [] else .ag []))))))))) (.sem false (Instr.sliceAt 9 (.string g) (some (.int .i64 (wrap .i64 (a+1)))) none none) fun e=>.unStr e fun l=>.nds [a,.val (.int .i64 (wrap .i64 (a+1))),a] (.loadStr c fun i=>.ne (.string i) (.string b) (.sem false (Instr.sliceAt 9 (.string b) none (some (.int .i64 (wrap .i64 (a+1)))) none) fun e=>.unStr e fun b=>.nds [a,a,a] (.store (c.add 0) (.string l) (.callv false k #[.string b] fun d=>.unB d fun f=>bif !f then .rn [] else .ag []))))) else .loadStr c fun b=>.store (c.add 0) (.string { data:=#[] }) (.callv false k #[.string b] fun d=>.unB d fun f=>bif !f then .rn [] else .ag []) else .bk [])) (fun j=>.unNil j (.rt (.tuple #[]))) (fun j=>.unNil j (.rt (.tuple #[]))) fun n o=>.fail):=fk [] [⟨0,[],[],[],[],[]⟩] [] Tryz.f93
theorem w3728{a:ByteArray}{b:ByteArray}:FX X 49 #[.string a,.string b] h A (.cl 103 #[.string a,.string b] fun c=>.unStr c fun a=>.rt (.string a)):=fk [] [] [] Tryz.f49
theorem w3752{a:ByteArray}{b:ByteArray}:FX X 103 #[.string a,.string b] h A (.cB 157 #[.string a,.string b] fun d=>bif d then .sem false (Builtin.len_ #[9] 3 #[.string a]) fun c=>.ui c fun e=>.sem false (Builtin.len_ #[9] 3 #[.string b]) fun c=>.ui c fun f=>.sem false (Instr.sliceAt 9 (.string a) none (some (.int .i64 (wrap .i64 (e-f)))) none) fun g=>.unStr g fun a=>.rt (.string a) else .rt (.string a)):=fk [] [] [] Tryz.f103
theorem w3744{c:ByteArray}{d:ByteArray}:FX X 95 #[.string c,.string d] h A (.cT 152 #[.string c,.string d] fun a b=>.unStr a fun c=>.unCons b fun a b=>.unStr a fun f=>.unCons b fun a b=>.unB a fun e=>.unNil b (.rt (.tuple #[.string c,.string f,e]))):=fk [] [] [] Tryz.f95
theorem w3768{a:ByteArray}{f:ByteArray}:FX X 152 #[.string a,.string f] h A (.cI 175 #[.string a,.string f] fun b=>bif decide (b>=0) then .both (.sem false (Instr.sliceAt 9 (.string a) none (some (.int .i64 b)) none) fun c=>.unStr c fun e=>.nds [.val (.string f),b,.val (.string a)] (.both (.sem false (Builtin.len_ #[9] 3 #[.string f]) fun g=>.ui g fun d=>.nds [b,.val (.string a)] (.both (.sem false (Instr.sliceAt 9 (.string a) (some (.int .i64 (wrap .i64 (b+d)))) none none) fun c=>.unStr c fun a=>.nds [b,b] (.rt (.tuple #[.string e,.string a,true]))) (.nds [.val (.int .i64 (wrap .i64 (b+d))),b,.val (.string a)] (.sem false (Instr.sliceAt 9 (.string a) (some (.int .i64 (wrap .i64 (b+d)))) none none) fun c=>.unStr c fun a=>.nd b (.rt (.tuple #[.string e,.string a,true])))))) (.nds [.val (.string f),b,.val (.string a)] (.sem false (Builtin.len_ #[9] 3 #[.string f]) fun g=>.ui g fun d=>.nds [b,.val (.string a)] (.sem false (Instr.sliceAt 9 (.string a) (some (.int .i64 (wrap .i64 (b+d)))) none none) fun c=>.unStr c fun a=>.nd b (.rt (.tuple #[.string e,.string a,true]))))))) (.sem false (Builtin.len_ #[9] 3 #[.string f]) fun g=>.ui g fun d=>.nds [b,.val (.string a),b,.val (.string a)] (.both (.sem false (Instr.sliceAt 9 (.string a) none (some (.int .i64 b)) none) fun c=>.unStr c fun e=>.nds [.val (.int .i64 (wrap .i64 (b+d))),b,.val (.string a)] (.both (.sem false (Instr.sliceAt 9 (.string a) (some (.int .i64 (wrap .i64 (b+d)))) none none) fun c=>.unStr c fun a=>.nds [b,b] (.rt (.tuple #[.string e,.string a,true]))) (.nds [.val (.int .i64 (wrap .i64 (b+d))),b,.val (.string a)] (.sem false (Instr.sliceAt 9 (.string a) (some (.int .i64 (wrap .i64 (b+d)))) none none) fun c=>.unStr c fun a=>.nd b (.rt (.tuple #[.string e,.string a,true])))))) (.sem false (Instr.sliceAt 9 (.string a) (some (.int .i64 (wrap .i64 (b+d)))) none none) fun c=>.unStr c fun e=>.nds [b,b,.val (.string a)] (.sem false (Instr.sliceAt 9 (.string a) none (some (.int .i64 b)) none) fun c=>.unStr c fun a=>.nds [b,b] (.rt (.tuple #[.string a,.string e,true])))))) else .rt (.tuple #[.string a,.string { data:=#[] },false])):=fk [] [] [] Tryz.f152
theorem w3745{a:ByteArray}{d:ByteArray}:FX X 96 #[.string a,.string d] h A (.cT 153 #[.string a,.string d] fun b c=>.unStr b fun a=>.unCons c fun b c=>.unB b fun e=>.unNil c (.rt (.tuple #[.string a,e]))):=fk [] [] [] Tryz.f96
theorem w3769{a:ByteArray}{b:ByteArray}:FX X 153 #[.string a,.string b] h A (.cB 157 #[.string a,.string b] fun d=>bif !d then .rt (.tuple #[.string a,false]) else .sem false (Builtin.len_ #[9] 3 #[.string a]) fun c=>.ui c fun e=>.sem false (Builtin.len_ #[9] 3 #[.string b]) fun c=>.ui c fun f=>.sem false (Instr.sliceAt 9 (.string a) none (some (.int .i64 (wrap .i64 (e-f)))) none) fun g=>.unStr g fun a=>.rt (.tuple #[.string a,true])):=fk [] [] [] Tryz.f153
theorem w3772{b:ByteArray}{c:ByteArray}:FX X 157 #[.string b,.string c] h A (.sem false (Builtin.len_ #[9] 3 #[.string b]) fun a=>.ui a fun d=>.sem false (Builtin.len_ #[9] 3 #[.string c]) fun a=>.ui a fun f=>bif decide (d>=f) then .sem false (Builtin.len_ #[9] 3 #[.string b]) fun a=>.ui a fun d=>.sem false (Builtin.len_ #[9] 3 #[.string c]) fun a=>.ui a fun g=>.sem false (Instr.sliceAt 9 (.string b) (some (.int .i64 (wrap .i64 (d-g)))) none none) fun i=>.unStr i fun b=>.sem false (Sem.bind (eqGuard BinOp.eql 9 (Operand.tmp 17) (Operand.tmp 18) (.string b) (.string c)) fun j=>binOp BinOp.eql 9 (.string b) (.string c)) fun a=>.unB a fun e=>.rt (.bool e) else .rt (.bool false)):=fk [] [] [] Tryz.f157
theorem w3746{a:ByteArray}{b:ByteArray}:FX X 97 #[.string a,.string b] h A (.cl 154 #[.string a,.string b,.int .i64 0,.int .i64 (-1)] fun f=>.unS f fun c e d=>.rt (.slice c e d)):=fk [] [] [] Tryz.f97
theorem w3770{d:ByteArray}{j:ByteArray}:FX X 154 #[.string d,.string j,a,b] h A (bif b==0 then .rt (.slice none 0 0) else .sem false (Sem.bind (eqGuard BinOp.eql 9 (Operand.tmp 14) (Operand.const (.string { data:=#[] })) (.string j) (.string { data:=#[] })) fun t=>binOp BinOp.eql 9 (.string j) (.string { data:=#[] })) fun f=>.unB f fun o=>bif o then .cl 176 #[.string d,b] fun f=>.unS f fun e b k=>.rt (.slice e b k) else .blk (bif decide (b<0) then .cI 177 #[.string d,.string j] fun b=>.ag [.int .i64 (wrap .i64 (b+1))] else .ag [b]) (fun c=>.pi c fun b c=>.unNil c (.sem false (Builtin.len_ #[9] 3 #[.string d]) fun f=>.ui f fun i=>.sem false (Instr.makeSlice 81 (.int .i64 (if wrap .i64 (i+1)<b then wrap .i64 (i+1) else b)) (.int .i64 (if wrap .i64 (i+1)<b then wrap .i64 (i+1) else b))) fun f=>.unS f fun e m k=>.loop [.string d,.int .i64 0] (fun c=>.popStr c fun d c=>.pi c fun g c=>.unNil c (bif decide (g<wrap .i64 ((if wrap .i64 (i+1)<b then wrap .i64 (i+1) else b)-1)) then .cI 178 #[.string d,.string j] fun b=>bif decide (b<0) then .bk [.string d,g] else .sem false (Instr.sliceAt 9 (.string d) none (some (.int .i64 (wrap .i64 (b+a)))) none) fun l=>.unStr l fun q=>.need (0<=g/\g<(↑m:Int)) (.someA e fun e=>.store ((e.add (g.toNat*1)).add 0) (.string q) (.sem false (Builtin.len_ #[9] 3 #[.string j]) fun f=>.ui f fun p=>.sem false (Instr.sliceAt 9 (.string d) (some (.int .i64 (wrap .i64 (b+p)))) none none) fun l=>.unStr l fun d=>.ag [.string d,.int .i64 (wrap .i64 (g+1))])) else .bk [.string d,g])) (fun c=>.popStr c fun d c=>.pi c fun b c=>.unNil c (.need (0<=b/\b<(↑m:Int)) (.someA e fun n=>.store ((n.add (b.toNat*1)).add 0) (.string d) (.sem false (Instr.sliceAt 81 (.slice e m k) none (some (.int .i64 (wrap .i64 (b+1)))) none) fun l=>.unS l fun e b k=>.rt (.slice e b k))))) (fun c=>.popStr c fun d c=>.pi c fun b c=>.unNil c (.rt (.slice none 0 0))) fun r s=>.fail)) (fun c=>.pi c fun b c=>.unNil c (.rt (.slice none 0 0))) fun r s=>.fail):=fk [] [⟨0,[(0,.str),(10,.int .i64)],[],[],[],[]⟩] [⟨7,[(3,.int .i64)],[],[],[],[]⟩] Tryz.f154
theorem w3776{d:ByteArray}{g:ByteArray}:FX X 175 #[.string d,.string g] h A (.sem false (Builtin.len_ #[9] 3 #[.string g]) fun c=>.ui c fun b=>.blk (.blk (bif b==0 then .ag [true] else .sem false (Sem.bind (eqGuard BinOp.eql 9 (Operand.tmp 20) (Operand.tmp 21) (.string g) (.string d)) fun u=>binOp BinOp.eql 9 (.string g) (.string d)) fun c=>.unB c fun i=>.ag [i]) (fun a=>.popB a fun i a=>.unNil a (bif i then .rn [.int .i64 0] else bif b==1 then .sem false (Instr.index 9 (.string g) (.int .i64 0)) fun c=>.unI .u8 c fun b=>.cI 151 #[.string d,.int .u8 b] fun b=>.rn [b] else .sem false (Builtin.len_ #[9] 3 #[.string d]) fun c=>.ui c fun r=>bif decide (b>=r) then .rn [.int .i64 (-1)] else .li { block:=4,off:=0 } fun p=>bif decide (b<=p) then .sem false (Builtin.len_ #[9] 3 #[.string d]) fun c=>.ui c fun b=>bif decide (b<=64) then .callv false (.func (Fn.func 202) #[] #[]) #[.string d,.string g] fun c=>.ui c fun b=>.rn [b] else .ag [.int .i64 0] else .ag [.int .i64 0])) (fun a=>.popB a fun i a=>.unNil a (.rn [.int .i64 0])) fun n o=>.fail) (fun a=>.pi a fun r a=>.unNil a (.sem false (Instr.index 9 (.string g) (.int .i64 0)) fun c=>.unI .u8 c fun p=>.sem false (Instr.index 9 (.string g) (.int .i64 1)) fun c=>.unI .u8 c fun v=>.sem false (Builtin.len_ #[9] 3 #[.string d]) fun c=>.ui c fun t=>.loop [r,.int .i64 0,.int .i64 0] (fun a=>.pi a fun q a=>.pi a fun j a=>.pi a fun f a=>.unNil a (bif decide (j<wrap .i64 (wrap .i64 (t-b)+1)) then .blk (.sem false (Instr.index 9 (.string d) (.int .i64 j)) fun c=>.unI .u8 c fun m=>bif m != p then .sem false (Instr.sliceAt 9 (.string d) (some (.int .i64 (wrap .i64 (j+1)))) (some (.int .i64 (wrap .i64 (wrap .i64 (t-b)+1)))) none) fun k=>.unStr k fun d=>.cI 151 #[.string d,.int .u8 p] fun b=>bif decide (b<0) then .rn [.int .i64 (-1),j] else .ag [q,.int .i64 (wrap .i64 (j+wrap .i64 (b+1)))] else .ag [q,j]) (fun a=>.pi a fun m a=>.pi a fun e a=>.unNil a (.blk (.sem false (Instr.index 9 (.string d) (.int .i64 (wrap .i64 (e+1)))) fun c=>.unI .u8 c fun l=>bif l==v then .sem false (Instr.sliceAt 9 (.string d) (some (.int .i64 e)) (some (.int .i64 (wrap .i64 (e+b)))) none) fun k=>.unStr k fun d=>.sem false (Sem.bind (eqGuard BinOp.eql 9 (Operand.tmp 90) (Operand.tmp 91) (.string d) (.string g)) fun u=>binOp BinOp.eql 9 (.string d) (.string g)) fun c=>.unB c fun i=>bif i then .rn [e] else .ag [m] else .ag [m]) (fun a=>.pi a fun l a=>.unNil a (.blk (.li { block:=4,off:=0 } fun s=>bif decide (b<=s) then .cI 203 #[.int .i64 (wrap .i64 (e+1))] fun b=>.ag [.bool (decide (wrap .i64 (f+1)>b))] else .ag [false]) (fun a=>.popB a fun i a=>.unNil a (bif i then .sem false (Instr.sliceAt 9 (.string d) (some (.int .i64 (wrap .i64 (e+1)))) none none) fun k=>.unStr k fun d=>.callv false (.func (Fn.func 202) #[] #[]) #[.string d,.string g] fun c=>.ui c fun b=>bif decide (b>=0) then .rn [.int .i64 (wrap .i64 (b+wrap .i64 (e+1))),.int .i64 (wrap .i64 (e+1)),.int .i64 (wrap .i64 (f+1))] else .rn [.int .i64 (-1),.int .i64 (wrap .i64 (e+1)),.int .i64 (wrap .i64 (f+1))] else .li { block:=4,off:=0 } fun s=>bif decide (b>s) then .need ((0:Int)<=4) (bif decide (wrap .i64 (f+1)>=wrap .i64 (4+Int.fdiv (wrap .i64 (e+1)) (2^4))) then bif decide (wrap .i64 (e+1)<wrap .i64 (wrap .i64 (t-b)+1)) then .sem false (Instr.sliceAt 9 (.string d) (some (.int .i64 (wrap .i64 (e+1)))) none none) fun k=>.unStr k fun d=>.cI 204 #[.string d,.string g] fun b=>bif decide (b<0) then .rn [.int .i64 (-1),.int .i64 (wrap .i64 (e+1)),.int .i64 (wrap .i64 (f+1))] else .rn [.int .i64 (wrap .i64 (wrap .i64 (e+1)+b)),.int .i64 (wrap .i64 (e+1)),.int .i64 (wrap .i64 (f+1))] else .ag [l,.int .i64 (wrap .i64 (e+1)),.int .i64 (wrap .i64 (f+1))] else .ag [l,.int .i64 (wrap .i64 (e+1)),.int .i64 (wrap .i64 (f+1))]) else .ag [l,.int .i64 (wrap .i64 (e+1)),.int .i64 (wrap .i64 (f+1))])) (fun a=>.popB a fun i a=>.unNil a (.rn [l,.int .i64 (wrap .i64 (e+1)),.int .i64 (wrap .i64 (f+1))])) fun n o=>.fail)) (fun a=>.pi a fun b a=>.unNil a (.rn [b,e,f])) fun n o=>.fail)) (fun a=>.pi a fun b a=>.pi a fun m a=>.unNil a (.rn [b,m,f])) fun n o=>.fail else .bk [q,j,f])) (fun a=>.pi a fun b a=>.pi a fun b a=>.pi a fun b a=>.unNil a (.rt (.int .i64 (-1)))) (fun a=>.pi a fun b a=>.pi a fun q a=>.pi a fun j a=>.unNil a (.rt (.int .i64 b))) fun n o=>.fail)) (fun a=>.pi a fun b a=>.unNil a (.rt (.int .i64 b))) fun n o=>.fail):=fk [] [⟨1,[(4,.int .i64),(8,.int .i64),(10,.int .i64)],[],[],[],[]⟩] [⟨2000016,[(16,.bool)],[],[],[],[]⟩,⟨2000107,[(107,.bool)],[],[],[],[]⟩,⟨23,[(4,.int .i64)],[],[],[],[]⟩,⟨21,[(4,.int .i64),(8,.int .i64)],[],[],[],[]⟩,⟨10,[(4,.int .i64)],[],[],[],[]⟩] Tryz.f175
theorem w3778{c:ByteArray}{e:ByteArray}:FX X 177 #[.string c,.string e] h A (.sem false (Builtin.len_ #[9] 3 #[.string e]) fun d=>.ui d fun b=>bif b==0 then .cI 205 #[.string c] fun b=>.rt (.int .i64 (wrap .i64 (b+1))) else .sem false (Builtin.len_ #[9] 3 #[.string e]) fun d=>.ui d fun b=>bif b==1 then .sem false (Instr.index 9 (.string e) (.int .i64 0)) fun d=>.unI .u8 d fun b=>.callv false (.func (Fn.func 207) #[] #[]) #[.string c,.int .u8 b] fun d=>.ui d fun b=>.rt (.int .i64 b) else .loop [.string c,.int .i64 0,.int .i64 0] (fun a=>.popStr a fun c a=>.pi a fun b a=>.pi a fun f a=>.unNil a (.cI 178 #[.string c,.string e] fun g=>bif g==-1 then .rn [.string c,f,f] else .sem false (Builtin.len_ #[9] 3 #[.string e]) fun d=>.ui d fun i=>.sem false (Instr.sliceAt 9 (.string c) (some (.int .i64 (wrap .i64 (g+i)))) none none) fun j=>.unStr j fun c=>.ag [.string c,b,.int .i64 (wrap .i64 (f+1))])) (fun a=>.popStr a fun c a=>.pi a fun b a=>.pi a fun f a=>.unNil a (.rt (.int .i64 b))) (fun a=>.popStr a fun c a=>.pi a fun b a=>.pi a fun f a=>.unNil a (.rt (.int .i64 b))) fun k l=>.fail):=fk [] [⟨0,[(0,.str),(4,.int .i64),(5,.int .i64)],[],[],[],[]⟩] [] Tryz.f177
theorem w3779{a:ByteArray}{b:ByteArray}:FX X 178 #[.string a,.string b] h A (.cI 175 #[.string a,.string b] fun c=>.rt (.int .i64 c)):=fk [] [] [] Tryz.f178
end Go.Y
end
section
namespace Go.TM.Tp
section
variable {P:Program} {E:Halt->Cells->Prop} {h:Cells}
theorem lwp_ptrEq{Q:Bool->Cells->Prop}{t te:TypeId}{j:TypeInfo}{d:Nat}{a b:Option Addr}(g:P.underlying t=some (.pointer te))(f:P.info? te=some j)(h0:j.size≠0)(c:a=none\/b=none\/a=b)(e:Q (decide (a=b)) h):Qe P (Op.equalIn (d+1) t (.pointer a) (.pointer b)) Q E h:=by
 unfold Op.equalIn;simp only[lwp_bind,Qd g];cases a with
 | none =>
  simp only[Qg];cases b<;>simpa using e
 | some a =>
  cases b with
  | none=>simp only[Qg];simpa using e
  | some b =>
   have:a=b:=by
    rcases c with h|h|h
    ·cases h
    ·cases h
    ·exact Option.some.inj h
   subst this;simp only[lwp_bind,Q0 f];rw[if_pos h0];unfold sameAddr;simp only[beq_self_eq_true,if_true,Qg];simpa using e
end
section
variable {X:XP} {P:Program} {Q:Leaf->LH->Prop}
variable {h:LH}{K:Value->T}{t te:TypeId}{x y:Operand}{a b:Option Addr}
theorem t_eqP{j:TypeInfo}(f:P.underlying t=some (.pointer te))(d:P.info? te=some j)(h0:j.size≠0)(c:a=none\/b=none\/a=b)(e:(K (.bool (decide (a=b)))).wp X P Q h) :
  (T.sem false (Sem.bind (eqGuard .eql t x y (.pointer a) (.pointer b)) fun _=>binOp .eql t (.pointer a) (.pointer b)) K).wp X P Q h:=by
 refine Jh (A:=fun w h'=>w=.bool (decide (a=b))/\h'=h.get) (Qy _ _ ?_) (by rintro w h' ⟨rfl,rfl⟩;exact e);unfold eqGuard;simp only[Bool.not_true,Bool.false_eq_true,if_false,Qg];unfold binOp;simp only[lwp_bind];exact lwp_ptrEq f d h0 c ⟨rfl,rfl⟩
theorem t_neP{j:TypeInfo}(f:P.underlying t=some (.pointer te))(d:P.info? te=some j)(h0:j.size≠0)(c:a=none\/b=none\/a=b)(e:(K (.bool (!decide (a=b)))).wp X P Q h) :
  (T.sem false (Sem.bind (eqGuard .neq t x y (.pointer a) (.pointer b)) fun _=>binOp .neq t (.pointer a) (.pointer b)) K).wp X P Q h:=by
 refine Jh (A:=fun w h'=>w=.bool (!decide (a=b))/\h'=h.get) (Qy _ _ ?_) (by rintro w h' ⟨rfl,rfl⟩;exact e);unfold eqGuard;simp only[Bool.not_true,Bool.false_eq_true,if_false,Qg];unfold binOp;simp only[lwp_bind];exact lwp_ptrEq f d h0 c ⟨rfl,rfl⟩
end
end Go.TM.Tp
end
section
namespace Go.TM
def Ov(h0:Cells)(h h':LH):Prop:=(∀ r x,h0 r≠none->h.get r=some x->h'.get r=some x)/\h'.chans=h.chans/\h'.pend=h.pend/\h'.todo=h.todo
theorem Hx{h0 h h':LH}(a:h0.le h)(o:Ov h0.get h h'):h0.le h':=⟨fun r x b=>o.1 r x (by rw[b];simp) (a.1 r x b),o.2.1.trans a.2.1,o.2.2.1.trans a.2.2.1,o.2.2.2.trans a.2.2.2⟩
def But(m:Nat)(h h':LH):Prop:=(∀ r,r≠m->h'.get r=h.get r)/\h'.chans=h.chans/\h'.pend=h.pend/\h'.todo=h.todo
theorem But.ov{m:Nat}{h0:Cells}{h h':LH}(b:But m h h')(hm:h0 m=none):Ov h0 h h':=⟨fun r x hr a=>by rw[b.1 r (fun e=>hr (by rw[e];exact hm))];exact a,b.2⟩
theorem Zn{h:Cells}{b i:Nat}{m:Bool}{cs:Array Value}{el:TypeId}{a:Nat×Nat}{v:Value}(hb:h b=some (m,.cells cs el a))(hv:cs[i]?=some v):h.cell? ⟨b,i,none⟩=some v:=by
 unfold Cells.cell?;rw[hb];exact hv
section
variable {X:XP} {P:Program} {Q:Leaf->LH->Prop}
variable {h:LH}{el:TypeId}{cs:Array Value}
theorem U5{k:Nat->T}(a:∀ r h1,h.le h1->h.get r=none->h1.get r=some (true,.cells cs el (0,0))->(k r).wp X P Q h1):(T.new el cs k).wp X P Q h :=
 Z5 fun r hr=>a r _ (Q4 hr) hr (Qk _ _ _)
theorem Ku{k:T}{b i:Nat}{v v₀:Value}(hb:h.get b=some (true,.cells cs el (0,0)))(h1:isOne v=true)(hv:cs[i]?=some v₀)(a:∀ h1:LH,But b h h1->h1.get b=some (true,.cells (cs.setIfInBounds i v) el (0,0))->k.wp X P Q h1):(T.store ⟨b,i,none⟩ v k).wp X P Q h:=by
 refine t_store h1 ⟨_,hb⟩ (Zn hb hv) (by simp[Cells.frozen?,hb]) (a _ ⟨fun r hr=>?_,rfl,rfl,rfl⟩ ?_)
 ·show h.get.setCell _ _ r=_;unfold Cells.setCell;rw[if_neg hr]
 ·show h.get.setCell _ _ b=_;unfold Cells.setCell;rw[if_pos rfl,hb];rfl
end
end Go.TM
end
section
namespace Go.Y.Txt
open Go.TM.Tp
attribute [local irreducible] T.wp CV FWK
theorem undPB:Tryz.prog.underlying 77=some (.pointer 80):=by kernel_rfl
theorem undUP:Tryz.prog.underlying 231=some .unsafePointer:=by kernel_rfl
theorem infB:(Tryz.prog.info? 80).map (·.size)=some 2:=by kernel_rfl
theorem liesB:liesAt Tryz.prog Tryz.prog.depth 80 (2 / Tryz.prog.cellsOf 80) 0 80 1=true:=by kernel_rfl
theorem infoB:∃ j,Tryz.prog.info? 80=some j/\j.size=2:=by
 have h:=infB;cases e:Tryz.prog.info? 80 with
 | none=>rw[e]at h;cases h
 | some j=>rw[e]at h;exact⟨j,rfl,Option.some.inj h⟩
theorem cv_noEscape{X:XP}{h:LH}(v:Value):CV X Tryz.prog (.func (.func 146) #[] #[]) #[v] h (fun r h'=>r=v/\h'=h):=by
 refine H7 (e:=Extern.AbiNoEscape.same) (fd:=Tryz.f146) (by kernel_rfl) (by kernel_rfl) (by kernel_rfl) (by kernel_rfl) (by kernel_rfl) ?_;show Qe _ (pure v) _ _ _;rw[Qg];exact⟨rfl,rfl⟩
theorem c3739{h:LH}{r:Nat}{p:Option Addr}{v:Value}(hb:h.get r=some (true,.cells #[.pointer p,v] 80 (0,0)))(l:p=none\/p=some ⟨r,0,none⟩) :
  FW X0 Tryz.prog 84 #[.pointer (some ⟨r,0,none⟩)] h fun w h'=>w=.tuple #[]/\But r h h'/\h'.get r=some (true,.cells #[.pointer (some ⟨r,0,none⟩),v] 80 (0,0)):=by
 obtain⟨j,b,k⟩:=infoB;have c:j.size≠0:=by omega
 have hc:0<(#[Value.pointer p,v]:Array Value).size:=Nat.zero_lt_succ _;refine w3739 Qr ?_;have f:h.get.cell? ((⟨r,0,none⟩ : Addr).add 0)=some (.pointer p):=Zn (i:=0) hb rfl;refine gS2 rfl (gL3 f ?_);refine t_eqP undPB b c (.inr (.inl rfl)) ?_;refine yI (fun e=>?_) (fun e=>?_)
 ·have a:p=none:=by simpa using e
  refine Jh (A:=fun w h'=>w=.pointer (some ⟨r,0,none⟩)/\h'=h.get) ?_ ?_
  ·have c1:=lwp_toUnsafe (P:=Tryz.prog) (E:=fun _ _=>False) (Q:=fun w h'=>w=.pointer (some ⟨r,0,none⟩)/\h'=h.get) undPB undUP b c hb hc (And.intro rfl rfl);exact c1
  rintro _ _ ⟨rfl,rfl⟩;refine gZ ?_;refine J3 (cv_noEscape _) ?_;rintro _ _ ⟨rfl,rfl⟩;refine gZ ?_;refine Jh (A:=fun w h'=>w=.pointer (some ⟨r,0,none⟩)/\h'=h.get) ?_ ?_
  ·have c1:=lwp_fromUnsafe (P:=Tryz.prog) (E:=fun _ _=>False) (Q:=fun w h'=>w=.pointer (some ⟨r,0,none⟩)/\h'=h.get) undUP undPB b hb liesB (And.intro rfl rfl);exact c1
  rintro _ _ ⟨rfl,rfl⟩;refine gZ ?_;refine Ku (i:=0) hb rfl (by rfl) fun h1 g a=>?_;exact Qn ⟨rfl,g,a⟩
 ·have a:p=some ⟨r,0,none⟩:=by
   rcases l with h1|h1
   ·rw[h1]at e;simp at e
   ·exact h1
  refine gS2 rfl (gL3 f ?_);refine t_neP undPB b c (.inr (.inr a)) ?_;refine gZ ?_;refine Qt (fun d=>by rw[a]at d;simp at d) (fun _=>?_);refine Qn ⟨rfl,⟨fun _ _=>rfl,rfl,rfl,rfl⟩,?_⟩;rw[<- a];exact hb
end Go.Y.Txt
end
namespace Go.TM.Tp
section
open Go.Lib (decDigits)
abbrev Bs:=List UInt8
def cut(c:UInt8):Bs->List Bs
 | []=>[[]]
 | b::l=>if b=c then []::cut c l else (b::(cut c l).headD [])::(cut c l).tail
variable {k:Nat}{l:List Nat}
theorem Wx(c:UInt8):∀ l,cut c l≠[]
 | []=>by simp[cut]
 | b::l=>by unfold cut;split<;>simp
theorem Kg{c:UInt8}:∀ {l:Bs},c∉l->cut c l=[l]
 | [],_=>rfl
 | b::l,h=>by
  have h1:b≠c:=fun e=>h (by simp[e]);have h2:c∉l:=fun e=>h (by simp[e]);unfold cut;rw[if_neg h1,Kg h2];rfl
theorem Kf{c:UInt8}:∀ {a l:Bs},c∉a->cut c (a++c::l)=a::cut c l
 | [],l,_=>by simp[cut]
 | b::a,l,h=>by
  have h1:b≠c:=fun e=>h (by simp[e]);have h2:c∉a:=fun e=>h (by simp[e]);rw[List.cons_append,cut,if_neg h1,Kf h2];rfl
theorem Zv(c:UInt8):∀ l:Bs,c∉l\/∃ a r,l=a++c::r/\c∉a
 | []=>.inl (by simp)
 | b::l=>by
  by_cases h:b=c
  ·exact .inr ⟨[],l,by simp[h],by simp⟩
  ·rcases Zv c l with h1|⟨a,r,rfl,h1⟩
   ·exact .inl (by simp[h1];exact fun e=>h e.symm)
   ·exact .inr ⟨b::a,r,rfl,by simp[h1];exact fun e=>h e.symm⟩
def linesL(t:Bs):List Bs:=if (cut 10 t).getLast?=some [] then (cut 10 t).dropLast else cut 10 t
theorem lines_nil:linesL []=[]:=rfl
theorem lines_one{t:Bs}(h:(10:UInt8)∉t)(h0:t≠[]):linesL t=[t]:=by
 unfold linesL;rw[Kg h];simp[h0]
theorem Dk{a r:Bs}(h:(10:UInt8)∉a):linesL (a++10::r)=a::linesL r:=by
 unfold linesL;rw[Kf h];have b:=Wx 10 r;rw[List.getLast?_cons_of_ne_nil b];split
 ·rw[List.dropLast_cons_of_ne_nil b]
 ·rfl
/-! ### Joined -/
def joinS(c:UInt8):List Bs->Bs
 | []=>[]
 | [a]=>a
 | a::b::l=>a++c::joinS c (b::l)
theorem Do{c:UInt8}{a:Bs}{l:List Bs}(h:l≠[]):joinS c (a::l)=a++c::joinS c l:=by
 cases l with
 | nil=>exact absurd rfl h
 | cons b l=>rfl
theorem Yf{c:UInt8}:∀ {l:List Bs},l≠[]->(∀ p∈l,c∉p)->cut c (joinS c l)=l
 | [],h,_=>absurd rfl h
 | [a],_,h=>Kg (h a (by simp))
 | a::b::l,_,h=>by
  show cut c (a++c::joinS c (b::l))=_;rw[Kf (h a (by simp)),Yf (by simp) (fun p d=>h p (List.mem_cons_of_mem _ d))]
def lineS(w:Bs)(fs:List Bs):Bs:=w++58::(fs.flatMap fun f=>f++[59])++[10]
theorem flat_join:∀ {l:List Bs},l≠[]->(l.flatMap fun f=>f++[59])=joinS 59 l++[59]:=by
 intro l b
 induction l with
 | nil=>exact absurd rfl b
 | cons a l c =>
  by_cases h0:l=[]
  ·subst h0;simp[joinS]
  ·rw[List.flatMap_cons,c h0,Do h0];simp
theorem lineS_join{w:Bs}{a:List Bs}(h:a≠[]):lineS w a=w++58::(joinS 59 a++[59,10]):=by
 unfold lineS;rw[flat_join h];simp
def fieldsL(l:Bs):Option (Bs×List Bs) :=
 match cut 58 l with
 | w::p::ps =>
  let r:=joinS 58 (p::ps)
  if w=[] then none else if r.getLast?=some 59 then some (w,cut 59 r.dropLast) else none
 | _=>none
theorem Yc(c:UInt8):∀ l:Bs,joinS c (cut c l)=l
 | []=>rfl
 | b::l=>by
  have a:=Wx c l;unfold cut;split
  ·rename_i h;rw[Do a,Yc c l,h];rfl
  ·have d:=Yc c l;cases e:cut c l with
   | nil=>exact absurd e a
   | cons x y =>
    rw[e]at d;cases y with
    | nil=>simp[joinS]at d ⊢;exact d
    | cons z y=>simp[joinS]at d ⊢;exact d
theorem fields_none{l:Bs}(h:(58:UInt8)∉l):fieldsL l=none:=by
 unfold fieldsL;rw[Kg h]
theorem fields_some{w r:Bs}(h:(58:UInt8)∉w):fieldsL (w++58::r)=if w=[] then none else if r.getLast?=some 59 then some (w,cut 59 r.dropLast) else none:=by
 have b:=Wx 58 r;unfold fieldsL;rw[Kf h];cases e:cut 58 r with
 | nil=>exact absurd e b
 | cons p ps =>
  have:=Yc 58 r;rw[e]at this;simp only[this]
/-! ### a -/
def digit(b:UInt8):Bool:=48<=b&&b<=57
def valL(l:Bs):Nat:=l.foldl (fun n b=>10*n+(b.toNat-48)) 0
def numL(l:Bs):Option Nat:=if (1<=l.length/\l.length<=9)/\l.all digit=true/\(l.head?=some 48->l.length=1) then some (valL l) else none
def numsL(l:List Bs):Option (List Nat):=l.mapM numL
theorem numsL_nil:numsL []=some []:=rfl
theorem Kk{a:Bs}{l:List Bs}:numsL (a::l)=(numL a).bind fun n=>(numsL l).bind fun m=>some (n::m):=by
 unfold numsL;rw[List.mapM_cons];rfl
def listL(l:Bs):Option (List Nat):=if l=[] then some [] else numsL (cut 44 l)
/-! ### Written numbers -/
theorem Y6(n:Nat):decDigits n≠[]:=by
 rw[decDigits];split<;>simp
theorem G2(h:k<10):(UInt8.ofNat (48+k)).toNat=48+k:=by
 rw[UInt8.toNat_ofNat'];omega
theorem dig_all(n:Nat):(decDigits n).all digit=true:=by
 induction n using Nat.strongRecOn with
 | ind n a =>
  have key:∀ k,k<10->digit (UInt8.ofNat (48+k))=true:=fun k h=>by
   have:=G2 h;simp only[digit,Bool.and_eq_true,decide_eq_true_eq];exact⟨UInt8.le_iff_toNat_le.2 (by rw[this];show 48<=_;omega),UInt8.le_iff_toNat_le.2 (by rw[this];show _<=57;omega)⟩
  rw[decDigits];split
  ·rename_i h;simp only[List.all_cons,List.all_nil,Bool.and_true];exact key n h
  ·rename_i h;rw[List.all_append,a (n / 10) (by omega)];simp only[List.all_cons,List.all_nil,Bool.and_true,Bool.true_and];exact key (n%10) (by omega)
theorem dig_val(n:Nat):valL (decDigits n)=n:=by
 induction n using Nat.strongRecOn with
 | ind n a =>
  rw[decDigits];split
  ·rename_i h;simp only[valL,List.foldl_cons,List.foldl_nil,G2 h];omega
  ·rename_i h;have:=a (n / 10) (by omega);unfold valL at this ⊢;rw[List.foldl_append,this];simp only[List.foldl_cons,List.foldl_nil,G2 (show n%10<10 by omega)];omega
theorem dig_len:∀ {n:Nat},n<10^(k+1)->(decDigits n).length<=k+1:=by
 induction k with
 | zero =>
  intro n h;rw[decDigits,dif_pos (by simpa using h)];simp
 | succ k a =>
  intro n h;rw[decDigits];split
  ·simp
  ·have:n / 10<10^(k+1):=by
    rw[Nat.pow_succ]at h;exact Nat.div_lt_of_lt_mul (by omega)
   have:=a this;simp;omega
theorem dig_head(n:Nat):(decDigits n).head?=some 48->n=0:=by
 induction n using Nat.strongRecOn with
 | ind n c =>
  rw[decDigits];split
  ·rename_i h;intro e;simp only[List.head?_cons,Option.some.injEq]at e;have:=congrArg UInt8.toNat e;rw[G2 h]at this;have h2:(48:UInt8).toNat=48:=rfl;omega
  ·rename_i h;intro e;have a:=Y6 (n / 10);have h1:(decDigits (n / 10)).head?=some 48:=by
    cases b:decDigits (n / 10) with
    | nil=>exact absurd b a
    | cons x y=>rw[b]at e;simpa using e
   have:=c (n / 10) (by omega) h1;omega
theorem num_dig{n:Nat}(h:n<10^9):numL (decDigits n)=some n:=by
 unfold numL;have h1:=Y6 n;have h2:=dig_len (k:=8) h;have h3:1<=(decDigits n).length:=by
  cases e:decDigits n with
  | nil=>exact absurd e h1
  | cons x y=>simp
 have a:(decDigits n).head?=some 48->(decDigits n).length=1:=fun e=>by
  have:=dig_head n e;subst this;rw[decDigits,dif_pos (by omega)];rfl
 rw[if_pos ⟨⟨h3,h2⟩,dig_all n,a⟩,dig_val]
theorem Un{c:UInt8}(hc:digit c=false)(n:Nat):c∉decDigits n:=by
 intro h;have:=List.all_eq_true.1 (dig_all n) c h;rw[hc]at this;cases this
theorem U7(h:∀ n∈l,n<10^9):numsL (l.map decDigits)=some l:=by
 induction l with
 | nil=>rfl
 | cons a l c =>
  rw[List.map_cons,Kk,num_dig (h a (by simp)),c fun n b=>h n (List.mem_cons_of_mem _ b)];rfl
def listS(l:List Nat):Bs:=joinS 44 (l.map decDigits)
theorem joinS_nil{c:UInt8}{l:List Bs}(h0:∀ p∈l,p≠[])(h:joinS c l=[]):l=[]:=by
 cases l with
 | nil=>rfl
 | cons a l =>
  by_cases e:l=[]
  ·subst e;simp[joinS]at h;exact absurd h (h0 a (by simp))
  ·rw[Do e]at h;simp at h
theorem list_listS(h:∀ n∈l,n<10^9):listL (listS l)=some l:=by
 unfold listL listS;split
 ·rename_i e;have:=joinS_nil (fun p a=>by obtain⟨n,_,rfl⟩:=List.mem_map.1 a;exact Y6 n) e;simp at this;rw[this]
 ·rename_i e;have c:l.map decDigits≠[]:=fun b=>e (by rw[b];rfl);rw[Yf c (fun p a=>by obtain⟨n,_,rfl⟩:=List.mem_map.1 a;exact Un (by decide) n),U7 h]
end
section
theorem Y3{l:Bs}{i:Nat}(h:i<l.length):(str l)[i]! = l[i]:=by
 have h1:i<(str l).size:=by rw[Jx];exact h
 rw[getElem!_pos (str l) i h1];show (str l).data[i]=_;simp[str]
theorem idx_none{c:UInt8}{l:Bs}(h:c∉l):((List.range (str l).size).find? fun i=>((str l)[i]!)==c)=none:=by
 rw[List.find?_eq_none];intro i a;rw[List.mem_range,Jx]at a;rw[Y3 a];simp only[beq_iff_eq];intro e;exact h (e▸List.getElem_mem a)
theorem idx_some{c:UInt8}{a r:Bs}(h:c∉a):((List.range (str (a++c::r)).size).find? fun i=>((str (a++c::r))[i]!)==c)=some a.length:=by
 rw[List.find?_range_eq_some];refine⟨?_,?_,fun j b=>?_⟩
 ·rw[Y3 (by simp)];simp
 ·rw[List.mem_range,Jx];simp
 ·rw[Y3 (by simp;omega),List.getElem_append_left b];simp only[Bool.not_eq_true',beq_eq_false_iff_ne];intro e;exact h (e▸List.getElem_mem b)
def firstI(c:UInt8)(l:Bs):Int:=match (cut c l) with
 | a::_::_=>a.length
 | _=>-1
theorem Dq{c:UInt8}{l:Bs}(h:c∉l):firstI c l = -1:=by unfold firstI;rw[Kg h]
theorem Wv{c:UInt8}{a r:Bs}(h:c∉a):firstI c (a++c::r)=a.length:=by
 unfold firstI;rw[Kf h];have:=Wx c r;cases e:cut c r with
 | nil=>exact absurd e this
 | cons x y=>rfl
theorem lwp_indexByte{P:Program}{l:Bs}{c:UInt8}{Q:Value->Cells->Prop}{E:Halt->Cells->Prop}{h:Cells}(d:Q (.int .i64 (firstI c l)) h):Qe P (Extern.BytealgIndexByte.indexByte #[.string (str l),.int .u8 (c.toNat:Int)]) Q E h:=by
 show Qe P (do
  let b <- Extern.Bytes.bytesOf (.string (str l));let c <- Extern.Bytes.asByte (.int .u8 (c.toNat:Int))
  match (List.range b.size).find? fun i=>(b[i]!)==c with
  | some i=>pure (goInt i)
  | none=>pure (goInt (-1))) Q E h
 simp only[Extern.Bytes.bytesOf,Extern.Bytes.asByte,lwp_bind,Qg];have hc:((c.toNat:Int)).toNat.toUInt8=c:=by simp
 rw[hc];rcases Zv c l with h1|⟨a,r,rfl,h1⟩
 ·rw[idx_none h1];rw[Dq h1]at d;exact d
 ·rw[idx_some h1];rw[Wv h1]at d;exact d
end
end Go.TM.Tp
section
namespace Go.TM
variable {P:Program} {X:XP} {Q:Leaf->LH->Prop}
theorem G1{α:Type}{Enc:α->List Value->Prop}{h h₀:LH}{K:Value->T}{ts:Array TypeId}{ty t el:TypeId}{s f:Nat}{z:Value}{parts:Array (Nat×Value)}{p:Option Addr}{n c:Nat}{l:List α}(x:α)(ws:List Value)(h0:ts[0]?=some t)(h1:ts[1]?=some t)(hu:P.underlying t=some (.slice el))
 (u:(P.info? el).map (fun i=>(i.size,i.bytes,i.zero))=some (s,f,some z))(q:z.cells.size=s)(hb:f<=1024)(A:1*s<=2^24/\1*s≠0)(B:Instr.fill (fun i=>some (i*s,s)) ((Array.range (1*s)).map (z.cells[·%z.cells.size]!)) parts.toList=some ws.toArray)
 (E:ws.length=s)(one:∀ v∈ws,isOne v=true)(F:n+1<=2^30)(g:Growing Enc el s h₀.get h.get p n c l)(hle:h₀.le h)(he:Enc x ws)
 (D:∀ o c' h',h₀.le h'->(∀ r y,(∀ a,p=some a->a.block≠r)->h.get r=some y->h'.get r=some y)->Growing Enc el s h₀.get h'.get o (n+1) c' (l++[x])->(K (.slice o (n+1) c')).wp X P Q h') :
  (T.sem false (Instr.buildSlice t 1 parts) fun v=>T.unS v fun a m H=>T.sem false (Builtin.append_ ts ty #[.slice p n c,.slice a m H]) K).wp X P Q h:=by
 refine Uy hu u A.1 A.2 B fun r hr=>?_;have e:h.le _:=Q4 (x:=(true,.cells ws.toArray el (0,0))) hr;refine gG ?_;refine t_grow (h₀:=h₀) (x:=x) (ws:=ws) h0 h1 hu hu u q hb F (g.le e.1) (LH.le_trans hle e) he E ?_ one fun o c' h' k d g'=>D o c' h' k (fun b y hb G=>d b y hb (e.1 b y G)) g';intro j w C;rw[Qa,Nat.zero_add];exact Q5 (by simpa using C)
end Go.TM
namespace Go.TM
variable {P:Program} {X:XP} {Q:Leaf->LH->Prop}
variable {h:LH}{k:Value->T}{t el:TypeId}{n s:Nat}{z:Value}
theorem Zu{b:Nat}{parts:Array (Nat×Value)}(ws:List Value)(hu:P.underlying t=some (.slice el))(d:(P.info? el).map (fun i=>(i.size,i.bytes,i.zero))=some (s,b,some z))(g:n*s<=2^24)(a:n*s≠0)
 (c:Instr.fill (fun i=>some (i*s,s)) ((Array.range (n*s)).map (z.cells[·%z.cells.size]!)) parts.toList=some ws.toArray)
 (f:∀ r h',h.le h'->h.get r=none->(∀ (j:Nat) w,ws[j]?=some w->h'.get.cell? (Addr.add ⟨r,0,none⟩ j)=some w)->(k (.slice (some ⟨r,0,none⟩) n n)).wp X P Q h'):(T.sem false (Instr.buildSlice t n parts) k).wp X P Q h :=
 Uy hu d g a c fun r hr=>f r _ (Q4 hr) hr fun j w e=>by
  rw[Qa,Nat.zero_add];exact Q5 (by simpa using e)
theorem D1{α:Type}{Enc:α->List Value->Prop}{h₀:LH}{ts:Array TypeId}{ty:TypeId}{b:Nat}{p:Option Addr}{c u r:Nat}{l:List α}(x:α)(ws:List Value)(h0:ts[0]?=some t)(h1:ts[1]?=some t)(hu:P.underlying t=some (.slice el))
 (f:(P.info? el).map (fun i=>(i.size,i.bytes,i.zero))=some (s,b,some z))(d:z.cells.size=s)(hb:b<=1024)(q:n+1<=2^30)(g:Growing Enc el s h₀.get h.get p n c l)(hle:h₀.le h)(he:Enc x ws)(o:ws.length=s)(hc:∀ (j:Nat) w,ws[j]?=some w->h.get.cell? (Addr.add ⟨r,0,none⟩ j)=some w)(one:∀ v∈ws,isOne v=true)
 (m:∀ e c' h',h₀.le h'->(∀ r y,(∀ a,p=some a->a.block≠r)->h.get r=some y->h'.get r=some y)->Growing Enc el s h₀.get h'.get e (n+1) c' (l++[x])->(k (.slice e (n+1) c')).wp X P Q h'):(T.sem false (Builtin.append_ ts ty #[.slice p n c,.slice (some ⟨r,0,none⟩) 1 u]) k).wp X P Q h :=
 t_grow (h₀:=h₀) (x:=x) (ws:=ws) h0 h1 hu hu f d hb q g hle he o hc one m
end Go.TM
namespace Go.TM
variable {P:Program} {X:XP} {Q:Leaf->LH->Prop}
variable {h:Cells}{r o:Nat}{cs:Array Value}{el:TypeId}{v:Value}
theorem setCell_updU{a:Nat×Nat}:(h.upd r (true,.cells cs el a)).setCell ⟨r,o,none⟩ v=h.upd r (true,.cells (cs.setIfInBounds o v) el a):=by
 funext k;unfold Cells.setCell Cells.upd;by_cases e:k=r
 ·subst e;simp
 ·simp[e]
theorem frozen_upd:(h.upd r (true,.cells cs el (0,0))).frozen? ⟨r,o,none⟩=false:=by
 unfold Cells.frozen?;simp[Cells.upd]
theorem Dw{h:LH}{a:Addr}{k:T}(b:a=⟨r,o,none⟩)(h1:isOne v=true)(d:o<cs.size)(c:k.wp X P Q { h with get:=h.get.upd r (true,.cells (cs.setIfInBounds o v) el (0,0)) }) :
  (T.store a v k).wp X P Q { h with get:=h.get.upd r (true,.cells cs el (0,0)) }:=by
 subst b;refine t_store (v₀:=cs[o]) h1 ⟨_,Qk _ _ _⟩ (Q5 (by simp[d])) frozen_upd ?_;show k.wp X P Q { h with get:=(h.get.upd r (true,.cells cs el (0,0))).setCell ⟨r,o,none⟩ v };rw[setCell_updU];exact c
def BoolE(h:Cells)(a:Addr)(b:Bool):Prop:=h.cell? (a.add 0)=some (.bool b)
theorem BoolE.grow:Grow BoolE:=fun _ _ _ _ a h=>a _ _ h
end Go.TM
end
section
namespace Go.TM
section
variable {P:Program} {X:XP} {Q:Leaf->LH->Prop}
theorem t_sliceLow{h:LH}{K:Value->T}{t el:TypeId}{s b:Nat}{z:Option Value}{p:Option Addr}{n c i:Nat}(hu:P.underlying t=some (.slice el))(e:(P.info? el).map (fun i=>(i.size,i.bytes,i.zero))=some (s,b,z))(f:i<=n)
 (g:(K (.slice (if c=i then p else p.map (·.add (i*s))) (n-i) (c-i))).wp X P Q h):(T.sem false (Instr.sliceAt t (.slice p n c) (some (.int .i64 (i:Int))) none none) K).wp X P Q h:=by
 obtain⟨inf,a,d,_,_⟩:=Zy e;refine Jh (A:=fun v h'=>v=.slice (if c=i then p else p.map (·.add (i*s))) (n-i) (c-i)/\h'=h.get) ?_ (by rintro v h' ⟨rfl,rfl⟩;exact g);unfold Instr.sliceAt;simp only[lwp_bind,Qd hu];unfold Instr.slice;simp only[lwp_bind,Qd hu];unfold Instr.sliceBounds Instr.sliceBound;simp only[lwp_bind,Qg,asIntOf,asInt];rw[if_pos (show 0<=(i:Int)/\(i:Int)<=(n:Int) by omega)];simp only[Qg,Q0 a,Int.toNat_natCast,d];exact⟨trivial,trivial⟩
end
theorem Sl.drop{α:Type}{E:Cells->Addr->α->Prop}{k:Nat}{h:Cells}{p:Option Addr}{n:Nat}{l:List α}(s:Sl E k h p n l){c i:Nat}(hc:n<=c):Sl E k h (if c=i then p else p.map (·.add (i*k))) (n-i) (l.drop i):=by
 refine⟨by rw[List.length_drop,s.1],by rw[List.length_drop];have:=s.2.1;omega,fun j x b=>?_⟩;rw[List.getElem?_drop]at b;have f:=(List.getElem?_eq_some_iff.1 b).1;have g:=s.1;obtain⟨a,e,d⟩:=s.2.2 _ x b;rw[if_neg (by omega),e];refine⟨a.add (i*k),rfl,?_⟩;rw[Addr.add_add',<- Nat.add_mul];exact d
theorem Rows.mono{α:Type}{Enc a:α->List Value->Prop}(he:∀ x ws,Enc x ws->a x ws){vs:List Value}{l:List α}(r:Rows Enc vs l):Rows a vs l:=by
 induction r with
 | nil=>exact .nil
 | snoc r h b=>exact b.snoc (he _ _ h)
section
variable {P:Program} {X:XP} {Q:Leaf->LH->Prop}
end
end Go.TM
end
section
namespace Go.Y
attribute [local irreducible] T.wp CV FWK
theorem W1{P:Program}{X:XP}{Q:Leaf->LH->Prop}{h:LH}{K:Value->T}{t el:TypeId}{s b:Nat}{z:Option Value}{p:Option Addr}{n c i:Nat}(hu:P.underlying t=some (.slice el))(f:(P.info? el).map (fun i=>(i.size,i.bytes,i.zero))=some (s,b,z))(g:i<=c)
 (j:(K (.slice p i c)).wp X P Q h):(T.sem false (Instr.sliceAt t (.slice p n c) none (some (.int .i64 (i:Int))) none) K).wp X P Q h:=by
 obtain⟨inf,a,d,_,_⟩:=Zy f;refine Jh (A:=fun v h'=>v=.slice p i c/\h'=h.get) ?_ (by rintro v h' ⟨rfl,rfl⟩;exact j);unfold Instr.sliceAt;simp only[lwp_bind,Qd hu];unfold Instr.slice;simp only[lwp_bind,Qd hu];unfold Instr.sliceBounds Instr.sliceBound;simp only[lwp_bind,Qg,asIntOf];rw[if_pos (show 0<=(i:Int)/\(i:Int)<=(c:Int) by omega)];simp only[Qg,Q0 a,Int.toNat_natCast,d,Nat.zero_mul,Nat.sub_zero];have e:(p.map fun x:Addr=>x.add 0)=p:=by cases p<;>simp[Addr.add]
 rw[e];simp
end Go.Y
end
section
namespace Go.TM.Tp
theorem Yy(a:Addr):a.add 0=a:=by unfold Addr.add;split<;>simp_all
def BsE(h:Cells)(a:Addr)(l:Bs):Prop:=h.cell? (a.add 0)=some (.string (str l))
theorem BsE.grow:Grow BsE:=fun _ _ _ _ a h=>a _ _ h
def BsEnc(l:Bs)(ws:List Value):Prop:=ws=[.string (str l)]
theorem BsEnc.len:∀ x ws,BsEnc x ws->ws.length=1:=by rintro x _ rfl;rfl
theorem BsEnc.e{h':Cells}:∀ a x ws,BsEnc x ws->(∀ (j:Nat) w,ws[j]?=some w->h'.cell? (a.add j)=some w)->BsE h' a x:=by
 rintro a x _ rfl hc;exact hc 0 _ rfl
theorem bs_one(l:Bs):∀ w∈[Value.string (str l)],isOne w=true:=by
 intro w hw;rw[List.mem_singleton]at hw;rw[hw];rfl
def BsS(h:LH)(p:Option Addr)(n c:Nat)(l:List Bs):Prop:=n<=c/\Sl BsE 1 h.get p n l
theorem BsS.le{h h':LH}{p:Option Addr}{n c:Nat}{l:List Bs}(a:h.le h')(s:BsS h p n c l):BsS h' p n c l:=⟨s.1,s.2.le BsE.grow a.1⟩
theorem BsS.at{h:LH}{p:Option Addr}{n c:Nat}{l:List Bs}(s:BsS h p n c l){i:Nat}{x:Bs}(d:l[i]?=some x):∃ a,p=some a/\h.get.cell? (a.add (i*1))=some (.string (str x)):=by
 obtain⟨a,b,e⟩:=s.2.2.2 i x d;unfold BsE at e;rw[Yy]at e;exact⟨a,b,e⟩
theorem growS{h₀ h:LH}{el:TypeId}{p:Option Addr}{n c:Nat}{l:List Bs}(g:Growing BsEnc el 1 h₀.get h.get p n c l)(a:l.length<2^60):BsS h p n c l:=by
 have b:=g.count BsEnc.len (by omega);have s:Sl BsE 1 h.get p n l:=g.sl BsEnc.len (by omega) BsEnc.e (by omega);obtain⟨_,o,_⟩:=g.row;exact⟨o.le_cap,s⟩
theorem Uo(c:UInt8):∀ l:Bs,(cut c l).length<=l.length+1
 | []=>by simp[cut]
 | b::l=>by
  have:=Uo c l;have a:=Wx c l;unfold cut;split
  ·simp;omega
  ·cases e:cut c l with
   | nil=>exact absurd e a
   | cons x y=>rw[e]at this;simp at this ⊢;omega
end Go.TM.Tp
namespace Go.Y.Txt
open Go.TM.Tp
open Go.Lib (decDigits)
attribute [local irreducible] T.wp CV FWK
theorem undS:Tryz.prog.underlying 9=some .string:=by kernel_rfl
theorem undSs:Tryz.prog.underlying 81=some (.slice 9):=by kernel_rfl
theorem infS:(Tryz.prog.info? 9).map (fun i=>(i.size,i.bytes,i.zero))=some (1,16,some (.string ⟨#[]⟩)):=by kernel_rfl
theorem undIs:Tryz.prog.underlying 47=some (.slice 3):=by kernel_rfl
theorem infI:(Tryz.prog.info? 3).map (fun i=>(i.size,i.bytes,i.zero))=some (1,8,some (.int .i64 0)):=by kernel_rfl
theorem t_pushS{X:XP}{Q:Leaf->LH->Prop}{h₀ h:LH}{K:Option Addr->Nat->Nat->T}{p:Option Addr}{n c:Nat}{l:List Bs}(x:Bs)(t:l.length<=2^29)(g:Growing BsEnc 9 1 h₀.get h.get p n c l)(hle:h₀.le h)
 (k:∀ d c' h',h₀.le h'->h.get.le h'.get\/True->Growing BsEnc 9 1 h₀.get h'.get d (n+1) c' (l++[x])->(K d (n+1) c').wp X Tryz.prog Q h') :
  (T.sem false (Instr.buildSlice 81 1 #[(0,.string (str x))]) fun v=>T.unS v fun a m q=>T.sem false (Builtin.append_ #[81,81] 81 #[.slice p n c,.slice a m q]) fun v=>T.unS v K).wp X Tryz.prog Q h:=by
 have u:=g.count BsEnc.len (by omega);refine Zu [.string (str x)] undSs infS (by decide) (by decide) (by kernel_rfl) ?_;intro r s b _ e;refine gZ ?_;refine D1 (h₀:=h₀) (Enc:=BsEnc) x [.string (str x)] rfl rfl undSs infS rfl (by omega) (by omega) (g.le b.1) (LH.le_trans hle b) rfl rfl e (bs_one x) ?_;intro d c' j f o i;refine gZ ?_;exact k d c' j f (.inr trivial) i
end Go.Y.Txt
end
section
namespace Go.TM.Tp
theorem wrapU8{n:Int}(h:0<=n/\n<=255):IntKind.wrap .u8 n=n:=by
 have:=Int.emod_eq_of_lt (a:=n) (b:=256) (by omega) (by omega);simp[IntKind.wrap,IntKind.signed,IntKind.bits];omega
theorem Ul{b:UInt8}:digit b=true↔48<=b.toNat/\b.toNat<=57:=by
 unfold digit;rw[Bool.and_eq_true,decide_eq_true_eq,decide_eq_true_eq,UInt8.le_iff_toNat_le,UInt8.le_iff_toNat_le];exact Iff.rfl
theorem val_snoc(l:Bs)(b:UInt8):valL (l++[b])=10*valL l+(b.toNat-48):=by unfold valL;rw[List.foldl_append];rfl
theorem val_lt:∀ {l:Bs},l.all digit=true->valL l<10^l.length:=by
 have key:∀ (l:Bs) (a:Nat),l.all digit=true->l.foldl (fun n b=>10*n+(b.toNat-48)) a<(a+1)*10^l.length:=by
  intro l
  induction l with
  | nil=>intro a _;simp
  | cons b l c =>
   intro a h;simp only[List.all_cons,Bool.and_eq_true]at h;have h1:=c (10*a+(b.toNat-48)) h.2;have h2:=(Ul.1 h.1).2;have h3:10*a+(b.toNat-48)+1<=(a+1)*10:=by omega
   rw[List.foldl_cons,List.length_cons,Nat.pow_succ,Nat.mul_comm (10^l.length) 10,<- Nat.mul_assoc];exact Nat.lt_of_lt_of_le h1 (Nat.mul_le_mul_right _ h3)
 intro l h;have:=key l 0 h;rw[Nat.zero_add,Nat.one_mul]at this;exact this
end Go.TM.Tp
namespace Go.Y.Txt
open Go.TM.Tp
open Go.Lib (decDigits)
attribute [local irreducible] T.wp CV FWK
end Go.Y.Txt
end
section
namespace Go.TM.Tp
open Go.Lib (decDigits)
def text(bs:List Bs):Bs:=bs.flatMap fun b=>b++[10]
variable {n:Int}{l:List Int}
theorem lines_text{bs:List Bs}(h:∀ b∈bs,(10:UInt8)∉b):linesL (text bs)=bs:=by
 induction bs with
 | nil=>rfl
 | cons b bs c =>
  have:text (b::bs)=b++10::text bs:=by simp[text]
  rw[this,Dk (h b (by simp)),c fun x a=>h x (List.mem_cons_of_mem _ a)]
theorem text_ne{b:Bs}{bs:List Bs}:text (b::bs)≠[]:=by simp[text]
theorem lines_text'{bs:List Bs}(h:∀ b∈bs,(10:UInt8)∉b)(h0:∀ b∈bs,b≠[]):linesL (text bs).dropLast=bs:=by
 induction bs with
 | nil=>rfl
 | cons b bs d =>
  have e:text (b::bs)=b++10::text bs:=by simp[text]
  cases bs with
  | nil =>
   have:(text [b]).dropLast=b:=by simp[text]
   rw[this,lines_one (h b (by simp)) (h0 b (by simp))]
  | cons c bs =>
   rw[e,List.dropLast_append_of_ne_nil (by simp),List.dropLast_cons_of_ne_nil text_ne,Dk (h b (by simp)),d (fun x a=>h x (List.mem_cons_of_mem _ a)) (fun x a=>h0 x (List.mem_cons_of_mem _ a))]
def rowS(w:Bs)(fs:List Bs):Bs:=w++58::(fs.flatMap fun f=>f++[59])
theorem row_line(w:Bs)(a:List Bs):lineS w a=rowS w a++[10]:=by simp[lineS,rowS]
theorem row_ne(w:Bs)(a:List Bs):rowS w a≠[]:=by simp[rowS]
theorem row_no{w:Bs}{a:List Bs}(hw:(10:UInt8)∉w)(b:∀ f∈a,(10:UInt8)∉f):(10:UInt8)∉rowS w a:=by
 unfold rowS;intro h;rcases List.mem_append.1 h with h|h
 ·exact hw h
 ·rcases List.mem_cons.1 h with h|h
  ·exact absurd h (by decide)
  ·obtain⟨f,h1,h2⟩:=List.mem_flatMap.1 h;rcases List.mem_append.1 h2 with h2|h2
   ·exact b f h1 h2
   ·exact absurd (List.mem_singleton.1 h2) (by decide)
theorem fields_row{w:Bs}{a:List Bs}(h0:w≠[])(hw:(58:UInt8)∉w)(b:a≠[])(c:∀ f∈a,(59:UInt8)∉f):fieldsL (rowS w a)=some (w,a):=by
 unfold rowS;rw[fields_some hw,if_neg h0,flat_join b];simp[Yf b c]
theorem dig_clean{c:UInt8}(hc:digit c=false){l:List Bs}(h:∀ p∈l,∃ n,p=decDigits n):∀ p∈l,c∉p:=fun p a=>by
 obtain⟨n,rfl⟩:=h p a;exact Un hc n
theorem joinS_no{c d:UInt8}(h:d≠c):∀ {l:List Bs},(∀ p∈l,d∉p)->d∉joinS c l
 | [],_=>by simp[joinS]
 | [a],h1=>h1 a (by simp)
 | a::b::l,h1=>by
  intro hm;rcases List.mem_append.1 hm with hm|hm
  ·exact h1 a (by simp) hm
  ·rcases List.mem_cons.1 hm with hm|hm
   ·exact h hm
   ·exact joinS_no h (fun p e=>h1 p (List.mem_cons_of_mem _ e)) hm
theorem listS_no{c:UInt8}(hc:digit c=false)(h:c≠44)(l:List Nat):c∉listS l:=by
 unfold listS;exact joinS_no h fun p a=>by obtain⟨n,_,rfl⟩:=List.mem_map.1 a;exact Un hc n
def ints(l:List Nat):List Int:=l.map fun n:Nat=>(n:Int)
def di(n:Int):Bs:=decDigits n.toNat
def li(l:List Int):Bs:=listS (l.map Int.toNat)
/-! ### What is written is read as it was -/
theorem Ke(h:0<=n):((n.toNat:Nat):Int)=n:=Int.toNat_of_nonneg h
def Fits(n:Int):Prop:=0<=n/\n<1000000000
theorem Fits.lt(h:Fits n):n.toNat<10^9:=by unfold Fits at h;omega
theorem ints_nat(h:∀ n∈l,Fits n):ints (l.map Int.toNat)=l:=by
 induction l with
 | nil=>rfl
 | cons a l c =>
  have:=c fun n b=>h n (List.mem_cons_of_mem _ b);unfold ints at this ⊢;rw[List.map_cons,List.map_cons,this,Ke (h a (by simp)).1]
theorem nat_lt(h:∀ n∈l,Fits n):∀ n∈l.map Int.toNat,n<10^9:=fun n a=>by
 obtain⟨z,b,rfl⟩:=List.mem_map.1 a;exact(h z b).lt
end Go.TM.Tp
end
section
namespace Go.TM.Tp
theorem nums_snoc:∀ (l:List Bs) (x:Bs),numsL (l++[x])=(numsL l).bind fun m=>(numL x).map fun n=>m++[n]
 | [],x=>by
  rw[List.nil_append,Kk,numsL_nil];cases numL x<;>rfl
 | a::l,x=>by
  rw[List.cons_append,Kk,Kk,nums_snoc l x];cases numL a with
  | none=>rfl
  | some n=>cases numsL l with
   | none=>rfl
   | some m=>cases numL x<;>rfl
theorem nums_none{x:Bs}(b:numL x=none):∀ {l:List Bs},x∈l->numsL l=none
 | [],h=>by cases h
 | a::l,h=>by
  rw[Kk];rcases List.mem_cons.1 h with rfl|h
  ·rw[b];rfl
  ·rw[nums_none b h];cases numL a<;>rfl
theorem Wq:∀ {l:List Bs} {m:List Nat},numsL l=some m->m.length=l.length
 | [],m,h=>by cases h;rfl
 | a::l,m,h=>by
  rw[Kk]at h;cases h1:numL a with
  | none=>rw[h1]at h;cases h
  | some n =>
   rw[h1]at h;cases h2:numsL l with
   | none=>rw[h2]at h;cases h
   | some k =>
    rw[h2]at h;cases h;simp[Wq h2]
end Go.TM.Tp
end
section
namespace Go.TM.Tp
def InS(h:LH)(p:Option Addr)(n c:Nat)(l:List Int):Prop:=n<=c/\Sl IntE 1 h.get p n l
theorem InS.le{h h':LH}{p:Option Addr}{n c:Nat}{l:List Int}(a:h.le h')(s:InS h p n c l):InS h' p n c l:=⟨s.1,s.2.le IntE.grow a.1⟩
theorem InS.at{h:LH}{p:Option Addr}{n c:Nat}{l:List Int}(s:InS h p n c l){i:Nat}{x:Int}(d:l[i]?=some x):∃ a,p=some a/\h.get.cell? (a.add (i*1))=some (.int .i64 x):=by
 obtain⟨a,b,e⟩:=s.2.2.2 i x d;unfold IntE at e;rw[Yy]at e;exact⟨a,b,e⟩
theorem InS.nil{h:LH}:InS h none 0 0 []:=⟨Nat.le_refl _,rfl,by simp,fun i x a=>by simp at a⟩
theorem growI{h₀ h:LH}{el:TypeId}{p:Option Addr}{n c:Nat}{l:List Int}(g:Growing IntEnc el 1 h₀.get h.get p n c l)(a:l.length<2^60):InS h p n c l:=by
 have s:Sl IntE 1 h.get p n l:=g.sl IntEnc.len (by omega) IntEnc.e (by omega);obtain⟨_,o,_⟩:=g.row;exact⟨o.le_cap,s⟩
theorem Gs{c:UInt8}:∀ {l x:Bs},x∈cut c l->x.length<=l.length
 | [],x,a=>by simp only[cut,List.mem_singleton]at a;rw[a];exact Nat.le_refl _
 | b::l,x,a=>by
  have d:=Wx c l;unfold cut at a;split at a
  ·rcases List.mem_cons.1 a with a|a
   ·rw[a];exact Nat.zero_le _
   ·exact Nat.le_succ_of_le (Gs a)
  ·rcases List.mem_cons.1 a with a|a
   ·have h1:(cut c l).headD []∈cut c l:=by
     cases e:cut c l with
     | nil=>exact absurd e d
     | cons u w=>simp
    rw[a];exact Nat.succ_le_succ (Gs h1)
   ·exact Nat.le_succ_of_le (Gs (List.mem_of_mem_tail a))
theorem Ww{α:Type}{l:List α}{i:Nat}{x:α}(h:l[i]?=some x):l.take (i+1)=l.take i++[x]:=by
 rw[List.take_add_one,h];rfl
end Go.TM.Tp
namespace Go.Y.Txt
open Go.TM.Tp
open Go.Lib (decDigits)
attribute [local irreducible] T.wp CV FWK
theorem Ux{X:XP}{Q:Leaf->LH->Prop}{h₀ h:LH}{K:Option Addr->Nat->Nat->T}{p:Option Addr}{n c:Nat}{l:List Int}(x:Int)(t:l.length<=2^29)(g:Growing IntEnc 3 1 h₀.get h.get p n c l)(hle:h₀.le h)
 (k:∀ d c' h',h₀.le h'->Growing IntEnc 3 1 h₀.get h'.get d (n+1) c' (l++[x])->(K d (n+1) c').wp X Tryz.prog Q h') :
  (T.sem false (Instr.buildSlice 47 1 #[(0,.int .i64 x)]) fun v=>T.unS v fun a m q=>T.sem false (Builtin.append_ #[47,47] 47 #[.slice p n c,.slice a m q]) fun v=>T.unS v K).wp X Tryz.prog Q h:=by
 have u:=g.count IntEnc.len (by omega);refine Zu [.int .i64 x] undIs infI (by decide) (by decide) (by kernel_rfl) ?_;intro r s b _ e;refine gZ ?_;refine D1 (h₀:=h₀) (Enc:=IntEnc) x [.int .i64 x] rfl rfl undIs infI rfl (by omega) (by omega) (g.le b.1) (LH.le_trans hle b) rfl rfl e (by intro w hw;rw[List.mem_singleton]at hw;rw[hw];rfl) ?_;intro d c' j f o i;refine gZ ?_;exact k d c' j f i
end Go.Y.Txt
end
section
namespace Go.TM.Tp
theorem t_neB{X:XP}{P:Program}{Q:Leaf->LH->Prop}{h:LH}{K:Value->T}{t:TypeId}{x y:Operand}{a b:List UInt8}(hu:P.underlying t=some .string)(c:(K (.bool (!decide (a=b)))).wp X P Q h) :
  (T.sem false (Sem.bind (eqGuard .neq t x y (.string (str a)) (.string (str b))) fun _=>binOp .neq t (.string (str a)) (.string (str b))) K).wp X P Q h:=by
 refine Jh (A:=fun w h'=>h'=h.get/\(K w).wp X P Q h) (Qy _ _ ?_) (by rintro w h' ⟨rfl,hw⟩;exact hw);unfold eqGuard;simp only[Bool.not_true,Bool.not_false,Bool.false_eq_true,if_false,if_true,Qg];unfold binOp;show Qe P (Op.stringOp .neq (str a) (str b)) _ _ _;unfold Op.stringOp;rw[Qg];refine⟨rfl,?_⟩;have e:=str_list (str a) (str b);have:(!((str a).toList==(str b).toList)) = !decide (a=b):=by
  congr 1;by_cases h:a=b
  ·rw[decide_eq_true h,e.2 (by rw[h])]
  ·rw[decide_eq_false h,Bool.eq_false_iff];exact fun h'=>h (str_inj (e.1 h'))
 first
  | exact(congrArg (fun b=>(K (.bool b)).wp X P Q h) this).mpr c
  | (simp only[bne];rw[this];exact c)
end Go.TM.Tp
namespace Go.Y.Txt
open Go.TM.Tp
open Go.Lib (decDigits)
attribute [local irreducible] T.wp CV FWK
end Go.Y.Txt
end
section
namespace Go.TM.Tp
open Go.Lib (decDigits)
def u8V(b:UInt8):Value:=.int .u8 (b.toNat:Int)
variable {P:Program}{a:Addr}{n c:Nat}
theorem lwp_ofBytes{Q:Value->Cells->Prop}{E:Halt->Cells->Prop}{h:Cells}{l:Bs}(hn:l.length=n)(hc:∀ (j:Nat) w,(l.map u8V)[j]?=some w->h.cell? (a.add j)=some w)(hq:Q (.string (str l)) h):Qe P (Conv.bytesToString (.slice (some a) n c)) Q E h:=by
 show Qe P (do
  let mut s:=ByteArray.empty
  for c in <- loadCells a n do
   let .int .u8 n := c | stuck "bytesToString: byte expected"
   s:=s.push (UInt8.ofNat n.toNat)
  pure (.string s)) Q E h
 simp only[lwp_bind];refine Gn (l:=l.map u8V) (by simpa using hn) hc ?_;rw[List.forIn_toArray];have key:∀ (l m:Bs) (Q:ByteArray->Cells->Prop),Q (str (m++l)) h->Qe P (forIn (l.map u8V) (str m) fun c (s:ByteArray)=>match c with
   | .int .u8 n=>(do pure PUnit.unit;pure (ForInStep.yield (s.push (UInt8.ofNat n.toNat))):Sem (ForInStep ByteArray))
   | _ => stuck "bytesToString: byte expected") Q E h := by
  intro l
  induction l with
  | nil=>intro m Q hq;rw[List.append_nil]at hq;exact hq
  | cons b l ih =>
   intro m Q hq;rw[List.map_cons,List.forIn_cons,lwp_bind];have e:(str m).push (UInt8.ofNat ((b.toNat:Int)).toNat)=str (m++[b]):=by
    apply ByteArray.ext;simp[str]
   show Qe P (forIn (l.map u8V) ((str m).push (UInt8.ofNat ((b.toNat:Int)).toNat)) _) Q E h;rw[e];exact ih (m++[b]) Q (by rw[List.append_assoc];exact hq)
 exact key l [] _ hq
theorem t_ofBytes{X:XP}{Q:Leaf->LH->Prop}{h:LH}{K:Value->T}{src dst el:TypeId}{l:Bs}(h1:P.underlying src=some (.slice el))(h2:P.underlying dst=some .string)(h3:P.underlying el=some (.int .u8))(d:l.length=n)(hc:∀ (j:Nat) w,(l.map u8V)[j]?=some w->h.get.cell? (a.add j)=some w)
 (b:(K (.string (str l))).wp X P Q h):(T.sem false (convert src dst (.slice (some a) n c)) K).wp X P Q h:=by
 refine Jh (A:=fun w h'=>h'=h.get/\w=.string (str l)) ?_ (by rintro w h' ⟨rfl,rfl⟩;exact b);unfold convert;simp only[lwp_bind,Qd h1,Qd h2,Qd h3];exact lwp_ofBytes d hc ⟨rfl,rfl⟩
theorem Um(h:n<10):decDigits n=[UInt8.ofNat (48+n)]:=by rw[decDigits,dif_pos h]
theorem Ua(h:¬ n<10):decDigits n=decDigits (n / 10)++[UInt8.ofNat (48+n%10)]:=by rw[decDigits,dif_neg h]
def lineTo(w:Bs)(fs:List Bs):Bs:=w++58::(fs.flatMap fun f=>f++[59])
theorem join_snoc{c:UInt8}:∀ {l:List Bs} {x:Bs},l≠[]->joinS c (l++[x])=joinS c l++c::x
 | [],_,h=>absurd rfl h
 | [a],x,_=>rfl
 | a::b::l,x,_=>by
  have:=join_snoc (c:=c) (l:=b::l) (x:=x) (by simp);show a++c::joinS c ((b::l)++[x])=_;rw[this];show _=(a++c::joinS c (b::l))++c::x;simp
end Go.TM.Tp
namespace Go.Y.Txt
open Go.TM.Tp
open Go.Lib (decDigits)
attribute [local irreducible] T.wp CV FWK
theorem undBy:Tryz.prog.underlying 78=some (.slice 5):=by kernel_rfl
theorem undU:Tryz.prog.underlying 5=some (.int .u8):=by kernel_rfl
theorem infU:(Tryz.prog.info? 5).map (fun i=>(i.size,i.bytes,i.zero))=some (1,1,some (.int .u8 0)):=by kernel_rfl
end Go.Y.Txt
end
section
namespace Go.TM.Tp
section
variable {P:Program} {h:Cells} {E:Halt->Cells->Prop}
theorem bytes_of(l:Bs):((str l).extract 0 l.length).data.map (fun b=>Value.int .u8 (b.toNat:Int))=(l.map u8V).toArray:=by
 rw[W3,List.take_length];simp[str,u8V]
theorem lwp_appendStr{Q:Value->Cells->Prop}{ts:Array TypeId}{ty O R el:TypeId}{inf:TypeInfo}{z:Value}{p:Option Addr}{n c:Nat}{vs:List Value}{l:Bs}(h0:ts[0]?=some O)(h1:ts[1]?=some R)(hu:P.underlying O=some (.slice el))(L:P.underlying R=some .string)
 (D:P.info? el=some inf)(X:inf.zero=some z)(J:z.cells.size=1)(w:inf.size=1)(hb:inf.bytes<=1024)(W:n+l.length<=2^30)(own:OwnRow el 1 h p n c vs)
 (I:∀ A c' h',OwnRow el 1 h' A (n+l.length) c' (vs++l.map u8V)->KeptBut p h h'->(A=p\/∃ r,A=some ⟨r,0,none⟩/\h r=none)->Q (.slice A (n+l.length) c') h'):Qe P (Builtin.append_ ts ty #[.slice p n c,.string (str l)]) Q E h:=by
 unfold Builtin.append_;rw[h0,h1];simp only[List.getElem?_toArray,List.getElem?_cons_zero,List.getElem?_cons_succ];simp only[lwp_bind,Qd hu,Q0 D,Qd L,Qg,Bool.false_eq_true,if_false,Bool.not_false,if_true,Builtin.lenOf,Jx];obtain⟨f,o⟩:=own;have one:∀ v∈l.map u8V,isOne v=true:=by
  intro v hv;obtain⟨b,_,rfl⟩:=List.mem_map.1 hv;rfl
 by_cases d:n+l.length<=c
 ·simp only[if_pos d,lwp_bind,Builtin.firstCells,Qg,bytes_of];rcases o with⟨rfl,rfl,rfl⟩|⟨r,cs,rfl,hr,s,G,hv⟩
  ·have:l=[]:=List.eq_nil_of_length_eq_zero (by omega);subst this;simp only[Qg];exact I _ _ _ ⟨by simp at f ⊢;exact f,.inl ⟨rfl,rfl,rfl⟩⟩ (fun _ _ L _=>L) (.inl rfl)
  ·simp only[];have hle:n+(l.map u8V).length<=cs.size:=by rw[List.length_map,s];omega
   have B:Addr.add ⟨r,0,none⟩ (n*inf.size)=⟨r,n,none⟩:=by rw[w,Nat.mul_one,Qa,Nat.zero_add]
   rw[B];rw[lwp_bind];refine Wu (l.map u8V) 0 h r n cs el hr (by omega) one ?_;rw[Qg];refine I _ _ _ ⟨by simp[f],.inr ⟨r,_,rfl,Qk _ _ _,?_,d,?_⟩⟩ ?_ (.inl rfl)
   ·rw[size_setMany];exact s
   ·intro j v i;rw[setMany_get (by omega)];by_cases F:j<vs.length
    ·rw[if_neg (by omega)];rw[List.getElem?_append_left F]at i;exact hv j v i
    ·rw[List.getElem?_append_right (by omega)]at i;have V:j-vs.length<(l.map u8V).length:=(List.getElem?_eq_some_iff.1 i).1;rw[if_pos (by omega),<- i];congr 1;omega
   ·intro N x g H;have:N≠r:=fun e=>H _ rfl e.symm;rw[Qp _ _ this];exact g
 ·have u:¬ ((((n+l.length:Nat):Int)>IntKind.i64.max)/\(False\/inf.bytes=0)):=by
   rintro⟨h1,_⟩;have e:IntKind.i64.max=9223372036854775807:=rfl;rw[e]at h1;omega
  have y:=nextslicecap_le (Nat.lt_of_not_le d);have k:¬ (Builtin.nextslicecap (n+l.length) c*inf.bytes>2^48):=by
   have:=Nat.mul_le_mul y hb;have h2:(2*(n+l.length)+400)*1024<=(2*2^30+400)*1024:=Nat.mul_le_mul_right _ (by omega);have:(2*2^30+400)*1024<=2^48:=by decide
   omega
  simp only[if_neg d,lwp_bind,Zr D,if_neg u,if_neg k,Qg];have C:∀ {K:Nat->Cells->Prop},(∀ a,n+l.length<=a->K a h)->Qe P (choose (Question.appendCap (n+l.length) c el)) K E h:=by
   intro K q;show (if _ then _ else _);split
   ·rename_i U;simp[Question.forced]at U
   ·intro t;exact q _ (Nat.le_add_right _ _)
  refine C fun a B=>?_;have m:∀ {K:Unit->Cells->Prop},K () h->Qe P (askRoom (a*inf.bytes)) K E h:=by
   intro K q;unfold askRoom;split
   ·exact⟨.inl rfl,q⟩
   ·exact q
  refine m ?_;have hold:∀ {K:Array Value->Cells->Prop},(∀ old:Array Value,old.toList=vs->K old h)->Qe P (Builtin.firstCells inf.size n (Value.slice p n c)) K E h:=by
   intro K q;rcases o with⟨rfl,rfl,rfl⟩|⟨r,cs,rfl,hr,s,G,hv⟩
   ·have:vs=[]:=List.eq_nil_of_length_eq_zero (by rw[f]);simp only[Builtin.firstCells,Qg];exact q #[] (by rw[this])
   ·simp only[Builtin.firstCells];refine Gn (l:=vs) (by rw[f,w]) (fun j v i=>?_) (q _ rfl);rw[Qa,Nat.zero_add];simp only[Cells.cell?,hr,Option.isSome_none,Bool.false_eq_true,if_false];exact hv j v i
  refine hold fun old hold=>?_;simp only[Builtin.firstCells,Qg,bytes_of,J8 D X];refine Z4 fun r hr=>?_;have M:(Builtin.zeroCells z.cells (a-(n+l.length))).size=a-(n+l.length):=by simp[Builtin.zeroCells,J]
  refine I _ _ _ ⟨by simp[f],.inr ⟨r,_,rfl,Qk _ _ _,?_,B,?_⟩⟩ ?_ (.inr ⟨r,rfl,hr⟩)
  ·have S:old.size=n:=by rw[<- Array.length_toList,hold,f,Nat.mul_one]
   simp only[Array.size_append,S,M,List.size_toArray,List.length_map];omega
  ·intro j v i;have hlen:j<(vs++l.map u8V).length:=(List.getElem?_eq_some_iff.1 i).1;rw[<- Array.getElem?_toList,Array.toList_append,Array.toList_append,hold,List.getElem?_append_left (by simpa using hlen)];exact i
  ·intro N x g _;have:N≠r:=by rintro rfl;rw[hr]at g;cases g
   rw[Qp _ _ this];exact g
end
section
variable {P:Program} {X:XP} {Q:Leaf->LH->Prop}
variable {h:LH}{K:Value->T}{ty:TypeId}{p:Option Addr}{n c:Nat}
theorem t_appStr{ts:Array TypeId}{j k el:TypeId}{e:Nat}{z:Value}{vs:List Value}{l:Bs}(h0:ts[0]?=some j)(h1:ts[1]?=some k)(hu:P.underlying j=some (.slice el))(u:P.underlying k=some .string)
 (s:(P.info? el).map (fun i=>(i.size,i.bytes,i.zero))=some (1,e,some z))(g:z.cells.size=1)(hb:e<=1024)(f:n+l.length<=2^30)(own:OwnRow el 1 h.get p n c vs)
 (t:∀ d c' h',OwnRow el 1 h' d (n+l.length) c' (vs++l.map u8V)->KeptBut p h.get h'->(d=p\/∃ r,d=some ⟨r,0,none⟩/\h.get r=none)->(K (.slice d (n+l.length) c')).wp X P Q { h with get:=h' }):(T.sem false (Builtin.append_ ts ty #[.slice p n c,.string (str l)]) K).wp X P Q h:=by
 obtain⟨i,m,o,q,g4⟩:=Zy s;subst q;exact Jh (A:=fun v h'=>∃ d c',v=.slice d (n+l.length) c'/\OwnRow el 1 h' d (n+l.length) c' (vs++l.map u8V)/\KeptBut p h.get h'/\(d=p\/∃ r,d=some ⟨r,0,none⟩/\h.get r=none)) (lwp_appendStr h0 h1 hu u m g4 g o hb f own fun d c' h' a b c=>⟨d,c',rfl,a,b,c⟩)
  (by rintro v h' ⟨d,c',rfl,a,b,c⟩;exact t d c' h' a b c)
theorem t_sliceData{ts:Array TypeId}{e:TypeId}(hu:P.underlying ty=some (.pointer e))(g:∀ a,p=some a->∃ m cs el d,h.get a.block=some (m,.cells cs el d))
 (f:∀ q h',h.le h'->(c≠0->q=p)->(K (.pointer q)).wp X P Q h'):(T.sem false (Builtin.unsafeSliceData_ ts ty #[.slice p n c]) K).wp X P Q h:=by
 refine Jh (A:=fun v h'=>∃ q,v=.pointer q/\h.get.le h'/\(c≠0->q=p)) ?_ (by rintro v h' ⟨q,rfl,h1,h2⟩;exact f q { h with get:=h' } ⟨h1,rfl,rfl,rfl⟩ h2);cases p with
 | none=>exact⟨none,rfl,Cells.le_refl _,fun _=>rfl⟩
 | some a =>
  show Qe P (if c≠0 then pure (Value.pointer (some a)) else do
   if (<- viewAt a.block).isSome then pure (Value.pointer (some a)) else pure (Value.pointer (some ⟨<- newObj (.view a (<- elemOf ty)),0,none⟩))) _ _ _
  by_cases hc:c=0
  ·rw[if_neg (fun h=>h hc)];obtain⟨m,cs,el,d,hr⟩:=g a rfl;unfold viewAt;simp only[lwp_bind,Qg];refine(Kz hr).2 ?_;simp only[Option.isSome_some,if_true,Qg,Option.isSome_none,Bool.false_eq_true,if_false];unfold elemOf;simp only[lwp_bind,Qd hu,Qg];intro r b;exact⟨_,rfl,J6 _ b,fun h=>absurd hc h⟩
  ·rw[if_pos hc];exact⟨_,rfl,Cells.le_refl _,fun _=>rfl⟩
end
variable {P:Program}
theorem lies_bytes{u:TypeId}{c n:Nat}(a:P.depth≠0)(h1:P.cellsOf u=1)(b:n<=c):liesAt P P.depth u (c / P.cellsOf u) 0 u n=true:=by
 obtain⟨d,e⟩:=Nat.exists_eq_succ_of_ne_zero a;have:rowAt P (sameLayout P P.depth · u) P.depth u (c / P.cellsOf u) 0 n=true:=by
  rw[e,h1];unfold rowAt;unfold sameLayout;simp[h1,b]
 rw[e]at this ⊢;unfold liesAt;rw[e,this,Bool.true_or]
theorem lwp_loadBytes{P:Program}{E:Halt->Cells->Prop}{h:Cells}:∀ (l:Bs) (a:Addr) (acc:Bs) {Q:ByteArray->Cells->Prop},(∀ (j:Nat) w,(l.map u8V)[j]?=some w->h.cell? (a.add j)=some w)->Q (str (acc++l)) h->Qe P (loadBytes a (str acc) l.length) Q E h
 | [],a,acc,Q,_,c=>by
  rw[List.append_nil]at c;exact c
 | b::l,a,acc,Q,hc,c=>by
  show Qe P (load a >>= _) _ _ _;rw[lwp_bind];refine⟨rfl,_,by have:=hc 0 _ rfl;rwa[addr0']at this,?_⟩;show Qe P (loadBytes (a.add 1) ((str acc).push (((b.toNat:Int).toNat).toUInt8)) l.length) Q E h;have e:(str acc).push (((b.toNat:Int).toNat).toUInt8)=str (acc++[b]):=by
   rw[Int.toNat_natCast];apply ByteArray.ext;simp[str,ByteArray.push]
  rw[e];refine lwp_loadBytes l (a.add 1) (acc++[b]) (fun j w d=>?_) (by rw[List.append_assoc];exact c);rw[Addr.add_add',Nat.add_comm];exact hc (j+1) w d
where
 addr0' (a:Addr):a.add 0=a:=by unfold Addr.add;split<;>simp_all
def ButP(q:Option Addr)(h h':LH):Prop:=(∀ r,(∀ a,q=some a->a.block≠r)->h'.get r=h.get r)/\h'.chans=h.chans/\h'.pend=h.pend/\h'.todo=h.todo
theorem ButP.le{q:Option Addr}{h₀ h h':LH}(hle:h₀.le h)(f:NewIn h₀.get q)(b:ButP q h h'):h₀.le h' :=
 ⟨fun r x c=>by rw[b.1 r (fun a d e=>by have:=f a d;rw[e,c]at this;cases this)];exact hle.1 r x c,b.2.1.trans hle.2.1,b.2.2.1.trans hle.2.2.1,b.2.2.2.trans hle.2.2.2⟩
theorem t_unsafeStr{X:XP}{Q:Leaf->LH->Prop}{h:LH}{K:Value->T}{ts:Array TypeId}{ty o el:TypeId}{q:Option Addr}{l:Bs}(h0:ts[0]?=some o)(hu:P.underlying o=some (.pointer el))(p:P.depth≠0)(h1:P.cellsOf el=1)(n:l.length<=2^60)
 (x:l≠[]->∃ (r:Nat) (cs:Array Value) (m:Nat×Nat),q=some ⟨r,0,none⟩/\h.get r=some (true,.cells cs el m)/\l.length<=cs.size/\∀ (j:Nat) w,(l.map u8V)[j]?=some w->cs[j]?=some w)
 (u:∀ h',ButP q h h'->(l=[]->h'=h)->(K (.string (str l))).wp X P Q h'):(T.sem false (Builtin.unsafeString_ ts ty #[.pointer q,.int .i64 (l.length:Int)]) K).wp X P Q h:=by
 refine Jh (A:=fun v h'=>v=.string (str l)/\ButP q h { h with get:=h' }/\(l=[]->h'=h.get)) ?_ (by rintro v h' ⟨rfl,b,e⟩;exact u _ b fun n=>by rw[e n]);have c:IntKind.i64.max=9223372036854775807:=rfl;show Qe P ((pure (l.length:Int):Sem Int) >>= _) _ _ _;rw[lwp_bind,Qg];rw[h0];dsimp only;rw[if_neg (by omega)];rw[if_neg (by rw[c];omega)];by_cases d:l=[]
 ·subst d;cases q with
  | none=>exact⟨rfl,⟨fun _ _=>rfl,rfl,rfl,rfl⟩,fun _=>rfl⟩
  | some a=>exact⟨rfl,⟨fun _ _=>rfl,rfl,rfl,rfl⟩,fun _=>rfl⟩
 ·have hlen:0<l.length:=List.length_pos_iff.2 d;obtain⟨r,cs,m,rfl,hr,f,hc⟩:=x d;simp only[];rw[if_neg (by omega)];unfold elemOf variablesAt;simp only[lwp_bind,Qd hu,Qg,Jr];refine(Kz hr).2 ?_;simp only[Int.toNat_natCast,Qg];rw[if_pos (lies_bytes p h1 f)];rw[lwp_bind];refine lwp_loadBytes l ⟨r,0,none⟩ [] (fun j w t=>?_) ?_
  ·rw[Qa,Nat.zero_add];simp only[Cells.cell?,hr,Option.isSome_none,Bool.false_eq_true,if_false];exact hc j w t
  rw[List.nil_append,lwp_bind];refine⟨by omega,⟨_,hr,fun i s=>s⟩,rfl,⟨fun k g=>?_,rfl,rfl,rfl⟩,fun e=>absurd e d⟩;have:k≠r:=fun e=>g _ rfl e.symm;show Cells.freeze h.get ⟨r,0,none⟩ l.length k=h.get k;unfold Cells.freeze;rw[if_neg this]
end Go.TM.Tp
end
section
namespace Go.Y.Txt
open Go.TM.Tp
attribute [local irreducible] T.wp CV FWK
theorem c3720{h:LH}{r n c:Nat}{p q:Option Addr}(hb:h.get r=some (true,.cells #[.pointer p,.slice q n c] 80 (0,0))):Pu Tryz.prog 40 #[.pointer (some ⟨r,0,none⟩)] h (.int .i64 (n:Int)):=by
 refine w3720 Qr ?_;have a:h.get.cell? ((⟨r,0,none⟩ : Addr).add 1)=some (.slice q n c):=Zn (i:=1) hb rfl;refine gZ ?_;exact Qn ⟨rfl,rfl⟩
end Go.Y.Txt
end
section
namespace Go.TM.Tp
open Go.Lib (decDigits)
theorem lineTo_len{B:Nat}{w:Bs}:∀ {a:List Bs},(∀ f∈a,f.length<=B)->(lineTo w a).length<=w.length+1+a.length*(B+1):=by
 intro a h;have key:∀ a:List Bs,(∀ f∈a,f.length<=B)->(a.flatMap fun f=>f++[59]).length<=a.length*(B+1):=by
  intro a
  induction a with
  | nil=>intro _;simp
  | cons f a c =>
   intro h;have h1:=c fun x b=>h x (List.mem_cons_of_mem _ b);have h2:=h f (by simp);rw[List.flatMap_cons,List.length_append,List.length_append,List.length_cons,List.length_cons,List.length_nil,Nat.succ_mul];omega
 have:=key a h;unfold lineTo;rw[List.length_append,List.length_cons];omega
theorem H5{B:Nat}{c:UInt8}:∀ {l:List Bs},(∀ f∈l,f.length<=B)->(joinS c l).length<=l.length*(B+1)
 | [],_=>by simp[joinS]
 | [a],h=>by have:=h a (by simp);simp[joinS];omega
 | a::b::l,h=>by
  have h1:=H5 (c:=c) (l:=b::l) fun x d=>h x (List.mem_cons_of_mem _ d);have h2:=h a (by simp);show (a++c::joinS c (b::l)).length<=(b::l).length.succ*(B+1);rw[List.length_append,List.length_cons,Nat.succ_mul];omega
end Go.TM.Tp
namespace Go.Y.Txt
open Go.TM.Tp
open Go.Lib (decDigits)
attribute [local irreducible] T.wp CV FWK
end Go.Y.Txt
end
section
namespace Go.TM.Tp
open Go.Lib (decDigits)
theorem Zt{n:Int}(h:Fits n):(di n).length<=9:=by
 have:=h.lt;exact dig_len (k:=8) this
theorem li_len{l:List Int}(h:∀ n∈l,Fits n):(li l).length<=l.length*10:=by
 unfold li listS;have:=H5 (B:=9) (c:=44) (l:=(l.map Int.toNat).map decDigits) fun f a=>by
  rw[List.map_map]at a;obtain⟨n,b,rfl⟩:=List.mem_map.1 a;exact Zt (h n b)
 rw[List.length_map,List.length_map]at this;exact this
theorem text_snoc(bs:List Bs)(b:Bs):text (bs++[b])=text bs++(b++[10]):=by simp[text]
theorem text_len{B:Nat}:∀ {bs:List Bs},(∀ b∈bs,b.length<=B)->(text bs).length<=bs.length*(B+1)
 | [],_=>by simp[text]
 | b::bs,h=>by
  have h1:=text_len (B:=B) (bs:=bs) fun x a=>h x (List.mem_cons_of_mem _ a);have h2:=h b (by simp);have:text (b::bs)=b++10::text bs:=by simp[text]
  rw[this,List.length_append,List.length_cons,List.length_cons,Nat.succ_mul];omega
theorem row_small{w:Bs}{a:List Bs}(hw:w.length<=7)(b:∀ f∈a,f.length<=60)(c:a.length<=4):(rowS w a).length<=252:=by
 have:=lineTo_len (B:=60) (w:=w) b;have e:rowS w a=lineTo w a:=rfl;rw[e];have:a.length*(60+1)<=4*61:=Nat.mul_le_mul_right _ c;omega
def printV(x:Bs×Int):Value:=.tuple #[.string (str x.1),.int .i64 x.2]
end Go.TM.Tp
namespace Go.Y.Txt
open Go.TM.Tp
open Go.Lib (decDigits)
attribute [local irreducible] T.wp CV FWK
end Go.Y.Txt
end
section
namespace Go.Y
attribute [local irreducible] T.wp CV FWK
theorem c35{h:LH}{p q:Option Addr}{n c m d:Nat}{a b:List Int}(f:Sl IntE 1 h.get p n a)(hb:Sl IntE 1 h.get q m b):Pu Tryz.prog 30 #[.slice p n c,.slice q m d] h (.bool (decide (a=b))):=by
 refine w35 _ _ _ _ _ _ Qr ?_;unfold n35;have D:=f.1;have hm:=hb.1;have w:=f.2.1;have v:=hb.2.1;refine Qt (fun e=>?_) (fun e=>?_)
 ·have:a≠b:=by rintro rfl;simp at e;omega
  exact Qn ⟨by simp[this],rfl⟩
 have z:n=m:=by simp at e;omega
 refine Jc (fun k vs h'=>h=h'/\∃ i:Nat,vs=[.bool false,.int .i64 i]/\i<=n/\k=n-i/\a.take i=b.take i) ⟨rfl,0,rfl,Nat.zero_le _,rfl,rfl⟩ ?_;rintro Y k vs _ s ⟨rfl,i,rfl,C,rfl,hc⟩;refine yJ (fun e=>?_) (fun e=>?_)
 ·obtain⟨x,A,j,t,o⟩:=f.at (i:=i) (by omega);obtain⟨y,B,g,u,r⟩:=hb.at (i:=i) (by omega);unfold IntE at o r;refine yI (fun b1=>?_) (fun b1=>?_)
  ·refine gZ ?_;have:a≠b:=by rintro rfl;rw[j]at g;cases g;simp at b1
   exact Qn ⟨by simp[this],rfl⟩
  ·have l:x=y:=by simpa using b1
   refine Qj (s (n-(i+1)) _ _ (by omega) ⟨rfl,i+1,?_,by omega,rfl,?_⟩)
   ·rw[Qo (by omega) (by omega)];rfl
   ·rw[List.take_add_one,List.take_add_one,hc,j,g,l]
 ·refine gZ ?_;rw[List.take_of_length_le (by omega),List.take_of_length_le (by omega)]at hc;exact Qn ⟨by simp[hc],rfl⟩
end Go.Y
end
section
namespace Go.TM.Tp
theorem Ui{l:Bs}(h:1<=l.length):∃ x,l.getLast?=some x/\l.drop (l.length-1)=[x]/\l.take (l.length-1)=l.dropLast:=by
 have h1:=List.getElem?_eq_getElem (show l.length-1<l.length by omega);refine⟨l[l.length-1],by rw[List.getLast?_eq_getElem?,h1],?_,List.dropLast_eq_take.symm⟩;rw[List.drop_eq_getElem_cons (show l.length-1<l.length by omega),List.drop_eq_nil_of_le (by omega)]
def trimS(c:UInt8)(l:Bs):Bs:=if l.getLast?=some c then l.dropLast else l
end Go.TM.Tp
namespace Go.Y.Txt
open Go.TM.Tp
attribute [local irreducible] T.wp CV FWK
variable {h:LH}
theorem c3772(l:Bs)(c:UInt8)(f:l.length<=2^40):Pu Tryz.prog 157 #[.string (str l),.string (str [c])] h (.bool (decide (l.getLast?=some c))):=by
 refine w3772 Qr ?_;refine Jf undS ?_;refine gZ ?_;refine Jf undS ?_;refine yJ (fun e=>?_) (fun e=>?_)
 ·have h1:1<=l.length:=by simp at e;omega
  obtain⟨x,d,b,_⟩:=Ui h1;refine Jf undS ?_;refine gZ ?_;refine Jf undS ?_;refine gZ ?_;have w1:wrap .i64 ((l.length:Int)-([c].length:Int))=((l.length-1:Nat):Int):=by
   rw[show ([c].length:Int)=1 from rfl,Qo (by omega) (by omega)];omega
  rw[w1];refine G0 undS (by omega) ?_;refine Qx ?_;refine gZ ?_;rw[b];refine Db undS ?_;refine gZ ?_;refine Qn ⟨?_,rfl⟩;rw[d];simp
 ·have:l=[]:=by
   cases l with
   | nil=>rfl
   | cons a l=>simp at e;omega
  subst this;exact Qn ⟨by simp,rfl⟩
theorem c3752(l:Bs)(c:UInt8)(d:l.length<=2^40):Pu Tryz.prog 103 #[.string (str l),.string (str [c])] h (.string (str (trimS c l))):=by
 refine w3752 Qr ?_;refine t_pu (c3772 l c d) ?_;refine gZ ?_;unfold trimS;refine Qt (fun e=>?_) (fun e=>?_)
 ·have b:l.getLast?=some c:=by simpa using e
  have h1:1<=l.length:=by cases l with
   | nil=>simp at b
   | cons a l=>simp
  obtain⟨x,i,g,f⟩:=Ui h1;refine Jf undS ?_;refine gZ ?_;refine Jf undS ?_;refine gZ ?_;have w1:wrap .i64 ((l.length:Int)-([c].length:Int))=((l.length-1:Nat):Int):=by
   rw[show ([c].length:Int)=1 from rfl,Qo (by omega) (by omega)];omega
  rw[w1];refine W2 undS (by omega) ?_;refine Qx ?_;refine gZ ?_;rw[f,if_pos b];exact Qn ⟨rfl,rfl⟩
 ·rw[if_neg (by simpa using e)];exact Qn ⟨rfl,rfl⟩
theorem c3728(l:Bs)(c:UInt8)(a:l.length<=2^40):Pu Tryz.prog 49 #[.string (str l),.string (str [c])] h (.string (str (trimS c l))):=by
 refine w3728 Qr ?_;refine t_pu (c3752 l c a) ?_;refine Qx ?_;refine gZ ?_;exact Qn ⟨rfl,rfl⟩
theorem c3769(l:Bs)(c:UInt8)(d:l.length<=2^40):Pu Tryz.prog 153 #[.string (str l),.string (str [c])] h (.tuple #[.string (str (trimS c l)),.bool (decide (l.getLast?=some c))]):=by
 refine w3769 Qr ?_;refine t_pu (c3772 l c d) ?_;refine gZ ?_;unfold trimS;refine Qt (fun e=>?_) (fun e=>?_)
 ·have b:¬ l.getLast?=some c:=by simpa using e
  rw[if_neg b,decide_eq_false b];exact Qn ⟨rfl,rfl⟩
 ·have b:l.getLast?=some c:=by simpa using e
  have h1:1<=l.length:=by cases l with
   | nil=>simp at b
   | cons a l=>simp
  obtain⟨x,i,g,f⟩:=Ui h1;refine Jf undS ?_;refine gZ ?_;refine Jf undS ?_;refine gZ ?_;have w1:wrap .i64 ((l.length:Int)-([c].length:Int))=((l.length-1:Nat):Int):=by
   rw[show ([c].length:Int)=1 from rfl,Qo (by omega) (by omega)];omega
  rw[w1];refine W2 undS (by omega) ?_;refine Qx ?_;refine gZ ?_;rw[f,if_pos b,decide_eq_true b];exact Qn ⟨rfl,rfl⟩
theorem c3745(l:Bs)(c:UInt8)(a:l.length<=2^40):Pu Tryz.prog 96 #[.string (str l),.string (str [c])] h (.tuple #[.string (str (trimS c l)),.bool (decide (l.getLast?=some c))]):=by
 refine w3745 Qr ?_;refine t_pu (c3769 l c a) ?_;refine gZ ?_;refine Qx ?_;refine gZ ?_;exact Qn ⟨rfl,rfl⟩
end Go.Y.Txt
end
section
namespace Go.Y
set_option maxHeartbeats 0
set_option linter.unusedVariables false
variable {X:XP} {h:LH} {A:Value->LH->Prop}
variable {a b c d e f g i j k l m:Int}{n o p q r s t u v w x y z:Nat}{B C D E F G H I J K L M:Option Addr}
theorem w3573{b:ByteArray}:FX X 151 #[.string b,.int .u8 a] h A (.callv false (.func (Fn.func 174) #[] #[]) #[.string b,.int .u8 a] fun d=>.ui d fun c=>.rt (.int .i64 c)):=fk [] [] [] Tryz.f151
theorem w3569{b:ByteArray}:FX X 94 #[.string b,.int .u8 a] h A (.cI 151 #[.string b,.int .u8 a] fun c=>.rt (.int .i64 c)):=fk [] [] [] Tryz.f94
end Go.Y
end
section
namespace Go.Y.Txt
open Go.TM.Tp
attribute [local irreducible] T.wp CV FWK
variable {h:LH}
theorem cv_indexByte{X:XP}(l:Bs)(c:UInt8):CV X Tryz.prog (.func (.func 174) #[] #[]) #[.string (str l),.int .u8 (c.toNat:Int)] h (fun r h'=>r=.int .i64 (firstI c l)/\h'=h):=by
 refine H7 (e:=Extern.BytealgIndexByte.indexByte) (fd:=Tryz.f174) (by kernel_rfl) (by kernel_rfl) (by kernel_rfl) (by kernel_rfl) (by kernel_rfl) ?_;exact lwp_indexByte ⟨rfl,rfl⟩
theorem c3573(l:Bs)(c:UInt8):Pu Tryz.prog 151 #[.string (str l),.int .u8 (c.toNat:Int)] h (.int .i64 (firstI c l)):=by
 refine w3573 Qr ?_;refine J3 (cv_indexByte l c) ?_;rintro _ _ ⟨rfl,rfl⟩;refine gZ ?_;exact Qn ⟨rfl,rfl⟩
theorem c3569(l:Bs)(c:UInt8):Pu Tryz.prog 94 #[.string (str l),.int .u8 (c.toNat:Int)] h (.int .i64 (firstI c l)):=by
 refine w3569 Qr ?_;refine t_pu (c3573 l c) ?_;refine gZ ?_;exact Qn ⟨rfl,rfl⟩
theorem c3776(l:Bs)(c:UInt8):Pu Tryz.prog 175 #[.string (str l),.string (str [c])] h (.int .i64 (firstI c l)):=by
 refine w3776 Qr ?_;refine Jf undS ?_;refine gZ ?_;refine Jk (fun vs h'=>False) ?_ (fun _ _ b=>b.elim);refine Jk (fun vs h'=>vs=[.bool (decide ([c]=l))]/\h=h') ?_ ?_
 ·refine Qt (fun e=>by simp at e) (fun _=>?_);refine Db undS ?_;refine gZ ?_;exact Qj ⟨rfl,rfl⟩
 rintro vs _ ⟨rfl,rfl⟩;refine yI (fun e=>?_) (fun e=>?_)
 ·have:[c]=l:=by simpa using e
  subst this;refine gZ ?_;refine Qn ⟨?_,rfl⟩;have:=Wv (c:=c) (a:=[]) (r:=[]) (by simp);simp at this;rw[this]
 ·refine Qt (fun _=>?_) (fun e=>by simp at e);refine Kd (i:=0) undS (c:=c) rfl ?_;refine gZ ?_;refine t_pu (c3573 l c) ?_;refine gZ ?_;exact Qn ⟨rfl,rfl⟩
theorem c3779(l:Bs)(c:UInt8):Pu Tryz.prog 178 #[.string (str l),.string (str [c])] h (.int .i64 (firstI c l)):=by
 refine w3779 Qr ?_;refine t_pu (c3776 l c) ?_;refine gZ ?_;exact Qn ⟨rfl,rfl⟩
end Go.Y.Txt
end
section
namespace Go.TM.Tp
def cutV(c:UInt8)(l:Bs):Bs×Bs×Bool:=match cut c l with
 | a::_::_=>(a,l.drop (a.length+1),true)
 | _=>(l,[],false)
theorem Uq{c:UInt8}{l:Bs}(h:c∉l):cutV c l=(l,[],false):=by unfold cutV;rw[Kg h]
theorem Up{c:UInt8}{a r:Bs}(h:c∉a):cutV c (a++c::r)=(a,r,true):=by
 unfold cutV;rw[Kf h];have:=Wx c r;cases e:cut c r with
 | nil=>exact absurd e this
 | cons x y=>simp
end Go.TM.Tp
namespace Go.Y.Txt
open Go.TM.Tp
attribute [local irreducible] T.wp CV FWK
theorem c3768{h:LH}(l:Bs)(c:UInt8)(g:l.length<=2^40):Pu Tryz.prog 152 #[.string (str l),.string (str [c])] h (.tuple #[.string (str (cutV c l).1),.string (str (cutV c l).2.1),.bool (cutV c l).2.2]):=by
 refine w3768 Qr ?_;refine t_pu (c3776 l c) ?_;rcases Zv c l with h1|⟨a,r,rfl,h1⟩
 ·rw[Dq h1,Uq h1];refine gZ ?_;refine t_if (fun e=>by omega) (fun _=>?_);exact Qn ⟨rfl,rfl⟩
 ·rw[Wv h1,Up h1];have hlen:(a++c::r).length=a.length+r.length+1:=by simp;omega
  have f:(a++c::r).take a.length=a:=by simp
  have d:(a++c::r).drop (a.length+1)=r:=by simp
  have w1:wrap .i64 ((a.length:Int)+([c].length:Int))=((a.length+1:Nat):Int):=by
   rw[show ([c].length:Int)=1 from rfl,Qo (by omega) (by omega)];rfl
  have hle:a.length<=(a++c::r).length:=by omega
  have b:a.length+1<=(a++c::r).length:=by omega
  refine gZ ?_;refine t_if (fun _=>?_) (fun e=>by omega)
  repeat' (first|(with_reducible first|apply Wo|refine W2 undS hle ?_|refine Jf undS ?_|refine G0 undS b ?_|apply Qx|exact Qn ⟨rfl,rfl⟩)|rw[w1]|rw[f]|rw[d]|refine gZ ?_)
theorem c3744{h:LH}(l:Bs)(c:UInt8)(a:l.length<=2^40):Pu Tryz.prog 95 #[.string (str l),.string (str [c])] h (.tuple #[.string (str (cutV c l).1),.string (str (cutV c l).2.1),.bool (cutV c l).2.2]):=by
 refine w3744 Qr ?_;refine t_pu (c3768 l c a) ?_;refine gZ ?_;refine Qx ?_;refine gZ ?_;refine Qx ?_;refine gZ ?_;exact Qn ⟨rfl,rfl⟩
end Go.Y.Txt
end
section
namespace Go.TM.Tp
variable {P:Program}{h h0:LH}{el:TypeId}{n r:Nat}
theorem cut_count(c:UInt8):∀ l:Bs,(cut c l).length=l.countP (fun b=>b==c)+1
 | []=>rfl
 | b::l=>by
  have d:=cut_count c l;have a:=Wx c l;unfold cut;split
  ·rename_i h;rw[List.length_cons,d,List.countP_cons_of_pos (by simp[h])]
  ·rename_i h;rw[List.countP_cons_of_neg (by simpa using h)];cases e:cut c l with
   | nil=>exact absurd e a
   | cons x y=>rw[e]at d;simpa using d
theorem fold_count(c:UInt8)(l:Bs)(n:Int):l.foldl (fun (n:Int) x=>if (x==c)=true then n+1 else n) n=n+(l.countP (fun b=>b==c):Nat):=by
 induction l generalizing n with
 | nil=>simp
 | cons b l a =>
  rw[List.foldl_cons,a];by_cases h:(b==c)=true
  ·rw[if_pos h,List.countP_cons_of_pos (p:=fun b=>b==c) h];omega
  ·rw[if_neg h,List.countP_cons_of_neg (p:=fun b=>b==c) h]
theorem lwp_count{l:Bs}{c:UInt8}{Q:Value->Cells->Prop}{E:Halt->Cells->Prop}{h:Cells}(a:Q (.int .i64 (l.countP (fun b=>b==c):Nat)) h):Qe P (Extern.BytealgCount.count #[.string (str l),.int .u8 (c.toNat:Int)]) Q E h:=by
 show Qe P (do
  let b <- Extern.Bytes.bytesOf (.string (str l));let c <- Extern.Bytes.asByte (.int .u8 (c.toNat:Int))
  pure (goInt (b.foldl (fun (n:Int) x=>if x==c then n+1 else n) 0))) Q E h
 simp only[Extern.Bytes.bytesOf,Extern.Bytes.asByte,lwp_bind,Qg];have hc:((c.toNat:Int)).toNat.toUInt8=c:=by simp
 rw[hc,Go.Lib.foldl_data,str_data,fold_count,Int.zero_add];exact a
structure StrsR(el:TypeId)(n:Nat)(h0 h:LH)(r:Nat)(acc:List Bs):Prop where
 cells:∃ cs,h.get r=some (true,.cells cs el (0,0))/\cs.size=n/\∀ (j:Nat) x,acc[j]?=some x->cs[j]?=some (.string (str x))
 new:h0.get r=none
 le:h0.le h
theorem t_stS{X:XP}{Q:Leaf->LH->Prop}{i:Nat}{acc:List Bs}{a:Addr}{x:Bs}{k:T}(s:StrsR el n h0 h r acc)(o:acc.length=i)(p:i<n)(l:a=⟨r,i,none⟩)(m:∀ h1,StrsR el n h0 h1 r (acc++[x])->k.wp X P Q h1):(T.store a (.string (str x)) k).wp X P Q h:=by
 obtain⟨cs,h1,h2,h3⟩:=s.cells;rw[l];refine Ku h1 rfl (Array.getElem?_eq_getElem (by omega:i<cs.size)) fun d b hb=>?_;refine m d ⟨⟨_,hb,by simpa using h2,fun j y c=>?_⟩,s.new,⟨fun q x g=>?_,b.2.1.trans s.le.2.1,b.2.2.1.trans s.le.2.2.1,b.2.2.2.trans s.le.2.2.2⟩⟩
 ·by_cases e:j=i
  ·subst e;rw[List.getElem?_append_right (by omega),o,Nat.sub_self]at c;simp at c;subst c;rw[Array.getElem?_setIfInBounds_self_of_lt (by omega)]
  ·rw[Array.getElem?_setIfInBounds_ne (Ne.symm e)];have f:j<(acc++[x]).length:=(List.getElem?_eq_some_iff.1 c).1;rw[List.length_append,List.length_singleton]at f;rw[List.getElem?_append_left (by omega)]at c;exact h3 j y c
 ·rw[b.1 q (fun e=>by rw[e,s.new]at g;cases g)];exact s.le.1 q x g
theorem StrsR.sl{c:Nat}{acc:List Bs}(s:StrsR el n h0 h r acc)(hb:acc.length<4611686018427387904)(hc:acc.length<=c):BsS h (some ⟨r,0,none⟩) acc.length c acc:=by
 obtain⟨cs,h1,h2,h3⟩:=s.cells;refine⟨hc,rfl,hb,fun i x a=>⟨_,rfl,?_⟩⟩;unfold BsE;rw[Qa,Qa,Nat.zero_add,Nat.mul_one,Nat.add_zero];exact Zn h1 (h3 i x a)
end Go.TM.Tp
end
section
namespace Go.TM.Tp
def isNilI:Value->Bool
 | .nilIface=>true
 | _=>false
def IsI(v:Value):Prop:=v=.nilIface\/∃ t w,v=.iface t w
def isConst:Operand->Bool
 | .const _=>true
 | _=>false
section
variable {P:Program} {E:Halt->Cells->Prop} {h:Cells}
theorem G8{Q:Bool->Cells->Prop}{t:TypeId}{ms:Array (String×TypeId)}{v:Value}(hu:P.underlying t=some (.interface ms))(hv:IsI v)(b:Q (isNilI v) h):Qe P (Op.equal t v .nilIface) Q E h:=by
 unfold Op.equal;have a:Op.maxDepth=9999+1:=rfl;rw[a,Op.equalIn,lwp_bind,Qd hu];rcases hv with rfl|⟨u,w,rfl⟩
 ·exact b
 ·exact b
end
section
variable {X:XP} {P:Program} {Q:Leaf->LH->Prop}
variable {h:LH}{K:Value->T}{t:TypeId}{x y:Operand}{v:Value}
theorem t_eqNilI{ms:Array (String×TypeId)}(hu:P.underlying t=some (.interface ms))(hv:IsI v)(b:isConst y=true)(a:(K (.bool (isNilI v))).wp X P Q h) :
  (T.sem false (Sem.bind (eqGuard .eql t x y v .nilIface) fun _=>binOp .eql t v .nilIface) K).wp X P Q h:=by
 refine Jh (A:=fun w h'=>w=.bool (isNilI v)/\h'=h.get) (Qy _ _ ?_) (by rintro w h' ⟨rfl,rfl⟩;exact a);cases y with
 | const c =>
  rcases hv with rfl|⟨u,w,rfl⟩
  ·unfold eqGuard;simp only[Bool.not_true,Bool.false_eq_true,if_false,Bool.or_true,if_true,Qg];unfold binOp;simp only[lwp_bind];exact G8 hu (.inl rfl) ⟨rfl,rfl⟩
  ·unfold eqGuard;simp only[Bool.not_true,Bool.false_eq_true,if_false,Qg];unfold binOp;simp only[lwp_bind];exact G8 hu (.inr ⟨_,_,rfl⟩) ⟨rfl,rfl⟩
 | _=>cases b
theorem t_neNilI{ms:Array (String×TypeId)}(hu:P.underlying t=some (.interface ms))(hv:IsI v)(b:isConst y=true)(a:(K (.bool (!isNilI v))).wp X P Q h) :
  (T.sem false (Sem.bind (eqGuard .neq t x y v .nilIface) fun _=>binOp .neq t v .nilIface) K).wp X P Q h:=by
 refine Jh (A:=fun w h'=>w=.bool (!isNilI v)/\h'=h.get) (Qy _ _ ?_) (by rintro w h' ⟨rfl,rfl⟩;exact a);cases y with
 | const c =>
  rcases hv with rfl|⟨u,w,rfl⟩
  ·unfold eqGuard;simp only[Bool.not_true,Bool.not_false,Bool.false_eq_true,if_false,Bool.or_true,if_true,Qg];unfold binOp;simp only[lwp_bind];exact G8 hu (.inl rfl) ⟨rfl,rfl⟩
  ·unfold eqGuard;simp only[Bool.not_true,Bool.not_false,Bool.false_eq_true,if_false,Qg];unfold binOp;simp only[lwp_bind];exact G8 hu (.inr ⟨_,_,rfl⟩) ⟨rfl,rfl⟩
 | _=>cases b
end
end Go.TM.Tp
end
section
namespace Go.TM.Tp
variable {el:TypeId}{r n:Nat}{h h':LH}
theorem OwnRow.but{k:Nat}{p:Option Addr}{c:Nat}{vs:List Value}(j:∀ a,p=some a->a.block≠r)(b:But r h h')(o:OwnRow el k h.get p n c vs):OwnRow el k h'.get p n c vs:=by
 obtain⟨h1,h2|⟨q,cs,d,e,f,g,i⟩⟩:=o
 ·exact⟨h1,.inl h2⟩
 ·refine⟨h1,.inr ⟨q,cs,d,?_,f,g,i⟩⟩;rw[b.1 q (j _ d)];exact e
structure Bld(B U:TypeId)(h0 h:LH)(r:Nat)(l:Bs):Prop where
 cells:∃ p q c,h.get r=some (true,.cells #[.pointer p,.slice q l.length c] B (0,0))/\(p=none\/p=some ⟨r,0,none⟩)/\OwnRow U 1 h.get q l.length c (l.map u8V)/\NewIn h0.get q/\∀ a,q=some a->a.block≠r
 new:h0.get r=none
 le:h0.le h
theorem Bld.grow{B U:TypeId}{h0:LH}{l:Bs}(b:Bld B U h0 h r l)(a:h.le h'):Bld B U h0 h' r l:=by
 obtain⟨p,q,c,d,e,f,g,i⟩:=b.cells;exact⟨⟨p,q,c,a.1 _ _ d,e,f.le a.1,g,i⟩,b.new,LH.le_trans b.le a⟩
section
variable {P:Program} {X:XP} {Q:Leaf->LH->Prop}
variable {h:LH}{K:Value->T}{t el ty:TypeId}{p:Option Addr}{c:Nat}
theorem t_capS{n:Nat}(hu:P.underlying t=some (.slice el))(a:(K (.int .i64 (c:Int))).wp X P Q h):(T.sem false (Builtin.cap_ #[t] ty #[.slice p n c]) K).wp X P Q h:=by
 refine Jh (A:=fun v h'=>v=.int .i64 (c:Int)/\h'=h.get) ?_ (by rintro v h' ⟨rfl,rfl⟩;exact a);unfold Builtin.cap_;simp only[List.getElem?_toArray,List.getElem?_cons_zero,lwp_bind,Qd hu,Qg]
 first|exact⟨rfl,rfl⟩|exact⟨rfl,trivial⟩
theorem t_copyNone{t2:TypeId}{inf:TypeInfo}(hu:P.underlying t=some (.slice el))(b:P.info? el=some inf)(d:(K (.int .i64 0)).wp X P Q h):(T.sem false (Builtin.copy_ #[t,t2] ty #[.slice p 0 c,.slice none 0 0]) K).wp X P Q h:=by
 refine Jh (A:=fun v h'=>v=.int .i64 0/\h'=h.get) ?_ (by rintro v h' ⟨rfl,rfl⟩;exact d);unfold Builtin.copy_;simp only[List.getElem?_toArray,List.getElem?_cons_zero,List.getElem?_cons_succ,lwp_bind,Qd hu,Qg,Builtin.lenOf,Q0 b,Builtin.firstCells];cases p with
 | none=>exact⟨rfl,rfl⟩
 | some a=>exact⟨rfl,rfl⟩
end
theorem digits_size:∀ (n t:Nat) (acc:Array Value),(Extern.BytealgMakeNoZero.digits n t acc).size=acc.size+n
 | 0,_,_=>rfl
 | n+1,t,acc=>by
  unfold Extern.BytealgMakeNoZero.digits;rw[digits_size n,Array.size_push];omega
theorem lwp_makeNoZero{P:Program}{E:Halt->Cells->Prop}{h:Cells}{Q:Value->Cells->Prop}{ps:Array TypeId}{t:TypeId}(hu:P.underlying t=some (.slice el))(hn:n<=2^40)
 (hq:∀ r cs,h r=none->n<=cs.size->Q (.slice (some ⟨r,0,none⟩) n cs.size) (h.upd r (true,.cells cs el (0,0)))):Qe P (Extern.BytealgMakeNoZero.makeNoZero ps #[t] #[.int .i64 (n:Int)]) Q E h:=by
 show Qe P (underlying t >>= _) _ _ _;rw[lwp_bind,Qd hu];dsimp only;have hnb:¬ ((decide ((n:Int)<0)||decide ((n:Int)>2^48))=true):=by simp;omega
 rw[if_neg hnb];simp only[Qg,lwp_bind,Int.toNat_natCast];have hch:∀ {K:Nat->Cells->Prop},(∀ a,n<=a->K a h)->Qe P (choose (Question.appendCap n 0 el)) K E h:=by
  intro K hK;show (if _ then _ else _);split
  ·rename_i hf;simp[Question.forced]at hf
  ·intro t;exact hK _ (Nat.le_add_right _ _)
 refine hch fun a ha=>?_;have hroom':∀ {K:Unit->Cells->Prop},K () h->Qe P (askRoom a) K E h:=by
  intro K hK;unfold askRoom;split
  ·exact⟨.inl rfl,hK⟩
  ·exact hK
 refine hroom' ?_
 have hch2 : ∀ {K : Nat -> Cells -> Prop}, (∀ a, K a h) -> Qe P (choose (Question.extern "internal/bytealg.MakeNoZero.bytes" 0)) K E h := by
  intro K hK;show (if _ then _ else _);split
  ·exact hK _
  ·intro t;exact hK _
 refine hch2 fun b=>?_;refine Z4 fun r hr=>?_;have hs:(Extern.BytealgMakeNoZero.digits a b #[]).size=a:=by rw[digits_size];simp
 have:=hq r (Extern.BytealgMakeNoZero.digits a b #[]) hr (by rw[hs];exact ha);rw[hs]at this;exact this
end Go.TM.Tp
namespace Go.Y.Txt
open Go.TM.Tp
attribute [local irreducible] T.wp CV FWK
abbrev BldR(h0 h:LH)(r:Nat)(l:Bs):Prop:=Bld 80 5 h0 h r l
variable {h0 h:LH}{r n:Nat}
theorem undBp:Tryz.prog.underlying 162=some (.pointer 5):=by kernel_rfl
theorem depth0:Tryz.prog.depth≠0:=of_decide_eq_true (by kernel_rfl)
theorem cellsU:Tryz.prog.cellsOf 5=1:=by kernel_rfl
theorem c3715{l s:Bs}(b:BldR h0 h r l)(A:l.length+s.length<=2^30) :
  FW X0 Tryz.prog 35 #[.pointer (some ⟨r,0,none⟩),.string (str s)] h fun v h'=>v=.tuple #[.int .i64 (s.length:Int),.nilIface]/\BldR h0 h' r (l++s):=by
 obtain⟨p,q,c,w,x,y,z,m⟩:=b.cells;refine w3715 Qr ?_;refine Jm (c3739 w x) ?_;rintro _ h1 ⟨rfl,b1,d⟩;have j:h0.le h1:=Hx b.le (b1.ov b.new);have D:h1.get.cell? ((⟨r,0,none⟩ : Addr).add 1)=some (.slice q l.length c):=Zn (i:=1) d rfl;refine gZ ?_;refine t_appStr rfl rfl undBy undS infU rfl (by omega) A (OwnRow.but m b1 y) fun u c' h' own kept f=>?_;have n:h' r=some (true,.cells #[.pointer (some ⟨r,0,none⟩),.slice q l.length c] 80 (0,0)):=kept r _ d m;have e:∀ a,u=some a->a.block≠r:=by
  intro a t;rcases f with rfl|⟨r2,rfl,g⟩
  ·exact m a t
  ·cases t;rintro rfl;rw[d]at g;cases g
 obtain⟨B,C⟩:=after_append j.1 z kept f;refine gZ ?_;refine Ku (h:={ h1 with get:=h' }) (i:=1) n rfl (by rfl) fun h2 o k=>?_;refine Jf undS ?_;refine gZ ?_;refine Qn ⟨rfl,⟨some ⟨r,0,none⟩,u,c',?_,.inr rfl,?_,C,e⟩,b.new,?_⟩
 ·rw[k,List.length_append];rfl
 ·rw[List.length_append,List.map_append];exact OwnRow.but e o own
 ·have:h0.le { h1 with get:=h' }:=⟨B,j.2⟩
  exact Hx this (o.ov b.new)
theorem c3721{l:Bs}(b:BldR h0 h r l)(C:l.length<=2^30) :
  FW X0 Tryz.prog 41 #[.pointer (some ⟨r,0,none⟩)] h fun v h'=>v=.string (str l)/\h0.le h':=by
 obtain⟨p,q,c,s,z,m,t,u⟩:=b.cells;refine w3721 Qr ?_;have w:h.get.cell? ((⟨r,0,none⟩ : Addr).add 1)=some (.slice q l.length c):=Zn (i:=1) s rfl;refine gZ ?_;refine t_sliceData undBp (fun a j=>?_) fun D h' hle o=>?_
 ·rcases m.2 with⟨h1,_⟩|⟨r2,cs,h1,h2,_⟩
  ·rw[h1]at j;cases j
  ·rw[h1]at j;cases j;exact⟨_,_,_,_,h2⟩
 have d:=Qm hle.1 w;have g:=m.le hle.1;refine gZ ?_;have x:=m.le_cap;refine t_unsafeStr rfl undBp depth0 cellsU (by omega) (fun n=>?_) fun h2 k y=>?_
 ·have hlen:=List.length_pos_iff.2 n;rcases g.2 with⟨_,h1,_⟩|⟨r2,cs,h1,h2,h3,B,h5⟩
  ·omega
  ·have e:c≠0:=by omega
   exact⟨r2,cs,_,(o e).trans h1,h2,by omega,h5⟩
 have f:h0.le h2/\h2.get r=h'.get r:=by
  by_cases e:c=0
  ·rw[y (List.eq_nil_of_length_eq_zero (by omega))];exact⟨LH.le_trans b.le hle,rfl⟩
  ·rw[o e]at k;exact⟨k.le (LH.le_trans b.le hle) t,k.1 r u⟩
 have A:h2.get.cell? ((⟨r,0,none⟩ : Addr).add 1)=some (.slice q l.length c):=by
  rw[Qa]at d ⊢;unfold Cells.cell? at d ⊢;rw[show h2.get (Addr.block ⟨r,0+1,none⟩)=h'.get (Addr.block ⟨r,0+1,none⟩) from f.2];exact d
 refine gZ ?_;refine Qx ?_;refine gZ ?_;exact Qn ⟨rfl,f.1⟩
theorem noNoZero:Tryz.f172.resultTypes=#[78]:=by kernel_rfl
theorem cv_makeNoZero{X:XP}(n:Nat)(a:n<=2^40):CV X Tryz.prog (.func (.func 172) #[] #[]) #[.int .i64 (n:Int)] h (fun v h'=>∃ r cs,v=.slice (some ⟨r,0,none⟩) n cs.size/\h.get r=none/\n<=cs.size/\h'={ h with get:=h.get.upd r (true,.cells cs 5 (0,0)) }):=by
 refine H7 (e:=Extern.BytealgMakeNoZero.makeNoZero Tryz.f172.params Tryz.f172.resultTypes) (fd:=Tryz.f172) (by kernel_rfl) (by kernel_rfl) (by kernel_rfl) (by kernel_rfl) (by kernel_rfl) ?_;rw[noNoZero];exact lwp_makeNoZero undBy a fun r cs hr hc=>⟨r,cs,rfl,hr,hc,rfl⟩
theorem c3766{p:Option Addr}(hb:h.get r=some (true,.cells #[.pointer p,.slice none 0 0] 80 (0,0)))(t:p=none\/p=some ⟨r,0,none⟩)(d:h0.get r=none)(hle:h0.le h)(y:n<=2^30) :
  FW X0 Tryz.prog 147 #[.pointer (some ⟨r,0,none⟩),.int .i64 (n:Int)] h fun v h'=>v=.tuple #[]/\BldR h0 h' r []:=by
 refine w3766 Qr ?_;have o:h.get.cell? ((⟨r,0,none⟩ : Addr).add 1)=some (.slice none 0 0):=Zn (i:=1) hb rfl;refine gZ ?_;refine t_capS undBy ?_;have w1:wrap .i64 (wrap .i64 (2*((0:Nat):Int))+(n:Int))=(n:Int):=by
  rw[Qo (n:=2*((0:Nat):Int)) (by omega) (by omega),Qo (by omega) (by omega)];omega
 refine gZ ?_;rw[w1];refine J3 (cv_makeNoZero n (by omega)) ?_;rintro _ h1 ⟨r1,cs,rfl,b,q,rfl⟩;have c:h.le { h with get:=h.get.upd r1 (true,.cells cs 5 (0,0)) }:=Q4 b;have k:({ h with get:=h.get.upd r1 (true,.cells cs 5 (0,0)) }:LH).get r1=some (true,.cells cs 5 (0,0)):=Qk _ _ _;revert c k;generalize ({ h with get:=h.get.upd r1 (true,.cells cs 5 (0,0)) }:LH)=h1;intro c k;have w:=Qm c.1 o;have hb1:=c.1 _ _ hb;have e:r1≠r:=by rintro rfl;rw[hb]at b;cases b
 refine gZ ?_;refine W1 undBy infU (i:=0) (Nat.zero_le _) ?_;obtain⟨z,g,_⟩:=Zy infU;refine gZ ?_;refine t_copyNone undBy g ?_;refine gZ ?_;refine Ku (i:=1) hb1 rfl (by rfl) fun h2 l m=>?_;refine Qn ⟨rfl,⟨p,some ⟨r1,0,none⟩,cs.size,m,t,⟨rfl,.inr ⟨r1,cs,rfl,?_,(Nat.mul_one _).symm,Nat.zero_le _,fun j v s=>by simp at s⟩⟩,?_,?_⟩,d,Hx (LH.le_trans hle c) (l.ov d)⟩
 ·rw[l.1 r1 e];exact k
 ·intro a f;cases f;cases u:h0.get r1 with
  | none=>rfl
  | some x=>rw[hle.1 _ _ u]at b;cases b
 ·intro a f;cases f;exact e
theorem c3740(hb:h.get r=some (true,.cells #[.pointer none,.slice none 0 0] 80 (0,0)))(b:h0.get r=none)(hle:h0.le h)(j:n<=2^30) :
  FW X0 Tryz.prog 85 #[.pointer (some ⟨r,0,none⟩),.int .i64 (n:Int)] h fun v h'=>v=.tuple #[]/\BldR h0 h' r []:=by
 refine w3740 Qr ?_;refine Jm (c3739 hb (.inl rfl)) ?_;rintro _ h1 ⟨rfl,b1,d⟩;have c:h0.le h1:=Hx hle (b1.ov b);refine gZ ?_;refine Jk (fun vs h'=>vs=[]/\h1=h') ?_ ?_
 ·refine t_if (fun e=>by omega) (fun _=>?_);exact Qj ⟨rfl,rfl⟩
 rintro vs _ ⟨rfl,rfl⟩;have k:h1.get.cell? ((⟨r,0,none⟩ : Addr).add 1)=some (.slice none 0 0):=Zn (i:=1) d rfl;refine gZ ?_;refine t_capS undBy ?_;refine yJ (fun _=>?_) (fun e=>?_)
 ·refine Jm (c3766 d (.inr rfl) b c j) ?_;rintro _ h2 ⟨rfl,f⟩;refine gZ ?_;exact Qn ⟨rfl,f⟩
 ·exact Qn ⟨rfl,⟨_,none,0,d,.inr rfl,OwnRow.nil,NewIn.none,fun a g=>by cases g⟩,b,c⟩
end Go.Y.Txt
end
section
namespace Go.TM.Tp
theorem H4(c:UInt8):∀ l:List Bs,(joinS c l).length=(l.map List.length).sum+(l.length-1)
 | []=>rfl
 | [a]=>by simp[joinS]
 | a::b::l=>by
  have d:=H4 c (b::l);show (a++c::joinS c (b::l)).length=_;rw[List.length_append,List.length_cons,d];simp;omega
theorem D2:∀ (l:List Nat) (i:Nat),(l.take i).sum<=l.sum
 | [],i=>by simp
 | a::l,0=>by simp
 | a::l,i+1=>by
  have:=D2 l i;simp only[List.take_succ_cons,List.sum_cons];omega
theorem joinS_take(c:UInt8)(l:List Bs)(i:Nat):(joinS c (l.take i)).length<=(joinS c l).length:=by
 rw[H4,H4,List.map_take,List.length_take];have:=D2 (l.map List.length) i;omega
theorem sum_snoc{l:List Bs}{i:Nat}{x:Bs}(h:l[i]?=some x):((l.take (i+1)).map List.length).sum=((l.take i).map List.length).sum+x.length:=by
 rw[Ww h,List.map_append,List.sum_append];simp
end Go.TM.Tp
namespace Go.Y.Txt
open Go.TM.Tp
attribute [local irreducible] T.wp CV FWK
theorem c3716{h:LH}{p:Option Addr}{n k:Nat}{b:List Bs}(s:BsS h p n k b)(c:UInt8)(X:b.length<=2^20)(ht:(joinS c b).length<=2^29):Gr Tryz.prog 36 #[.slice p n k,.string (str [c])] h fun r _=>r=.string (str (joinS c b)):=by
 refine w3716 Qr ?_;have t:=s.2.1;refine Qt (fun e=>?_) (fun e=>?_)
 ·have:b=[]:=List.eq_nil_of_length_eq_zero (by
   have:(n:Int)=0:=by simpa using e
   omega)
  subst this;exact Qn ⟨LH.le_refl _,rfl⟩
 have U:n≠0:=by intro h0;subst h0;simp at e
 refine Qt (fun A=>?_) (fun A=>?_)
 ·have h1:n=1:=by
   have:(n:Int)=1:=by simpa using A
   omega
  match b,t with
  | [x],_ =>
   obtain⟨a,g,o⟩:=s.at (i:=0) (x:=x) rfl;refine gT ⟨by omega,by omega⟩ (gS2 g (Je o ?_));exact Qn ⟨LH.le_refl _,rfl⟩
  | [],t=>exact absurd t U
  | _::_::_,t=>simp at t;omega
 have n1:n≠1:=by intro h0;subst h0;simp at A
 have v:=H4 c b;have hw:wrap .i64 ((n:Int)-1)=((b.length-1:Nat):Int):=by rw[Qo (by omega) (by omega)];omega
 have f:(([c]:Bs).length:Int)=1:=rfl;refine Jk (fun vs h'=>vs=[.int .i64 ((b.length-1:Nat):Int)]/\h=h') ?_ ?_
 ·refine Jf undS ?_;rw[f];refine gZ ?_;refine t_if (fun _=>?_) (fun e=>absurd (by decide) e);refine Jf undS ?_;rw[f];refine gZ ?_;rw[hw]
  try refine gT (by omega) ?_
  have Z:(2:Int)<=Int.tdiv 9223372036854775807 ((b.length-1:Nat):Int)/\Int.tdiv 9223372036854775807 ((b.length-1:Nat):Int)<=9223372036854775807:=by
   rw[Int.tdiv_eq_ediv_of_nonneg (by omega)];refine⟨(Int.le_ediv_iff_mul_le (by omega)).2 (by omega),Int.ediv_le_self _ (by omega)⟩
  rw[Qo (n:=Int.tdiv 9223372036854775807 ((b.length-1:Nat):Int)) (by omega) (by omega)];refine t_if (fun e=>by omega) (fun _=>?_);refine Jf undS ?_;rw[f];refine gZ ?_;refine Qj ⟨?_,rfl⟩;rw[Qo (n:=1*((b.length-1:Nat):Int)) (by omega) (by omega),Qo (by omega) (by omega)];congr 2;omega
 rintro vs _ ⟨rfl,rfl⟩;refine gZ ?_;refine Kc (fun z vs h'=>h=h'/\∃ i:Nat,vs=[.int .i64 (((b.length-1)+((b.take i).map List.length).sum:Nat):Int),.int .i64 i]/\i<=n/\z=n-i)
  (fun vs h'=>h=h'/\∃ i:Int,vs=[.int .i64 ((joinS c b).length:Int),.int .i64 i]) ⟨rfl,0,by simp,Nat.zero_le _,rfl⟩ ?_ ?_
 ·rintro Y z vs _ B ⟨rfl,i,rfl,Q,rfl⟩;have E:=D2 (b.map List.length) i;rw[<- List.map_take]at E;refine yJ (fun o=>?_) (fun o=>?_)
  ·have l:=List.getElem?_eq_getElem (show i<b.length by omega);generalize b[i]=x at l;obtain⟨a,g,q⟩:=s.at l;have F:=sum_snoc l;have u:=D2 (b.map List.length) (i+1);rw[<- List.map_take]at u;refine gT ⟨by omega,by omega⟩ (gS2 g (Je (by rw[Int.toNat_natCast];exact q) ?_));refine Jf undS ?_;refine gZ ?_;rw[Qo (n:=9223372036854775807-(((b.length-1)+((b.take i).map List.length).sum:Nat):Int)) (by omega) (by omega)];refine t_if (fun e=>by omega) (fun _=>?_);refine Jf undS ?_;refine gZ ?_;refine Qj (B (n-(i+1)) _ _ (by omega) ⟨rfl,i+1,?_,by omega,rfl⟩);rw[Qo (by omega) (by omega),Qo (by omega) (by omega),F];congr 2
   ·congr 1;omega
  ·have R:i=n:=by omega
   refine gH ⟨rfl,(i:Int),?_⟩;rw[v,List.take_of_length_le (by omega)];congr 2;congr 1;omega
 rintro vs _ ⟨rfl,i,rfl⟩;refine gZ ?_;refine U5 fun r h1 I D hr=>?_;refine Jm (c3740 (h0:=h) hr D I (by omega)) ?_;rintro _ h2 ⟨rfl,K⟩;refine gZ ?_;have l:=List.getElem?_eq_getElem (show 0<b.length by omega);generalize S:b[0]=x at l;obtain⟨a,g,q⟩:=(s.le K.le).at l;have w:b.take 1=[x]:=by
  have:=Ww l;rw[this];rfl
 have d:=joinS_take c b 1;rw[w]at d;have d:x.length<=(joinS c b).length:=d;refine gS2 g (Je q ?_);refine Jm (c3715 K (by simp;omega)) ?_;rintro _ h3 ⟨rfl,M⟩;refine gZ ?_;refine t_sliceLow undSs infS (i:=1) (by omega) ?_;have st:Sl BsE 1 h.get (if k=1 then p else p.map (·.add (1*1))) (n-1) (b.drop 1):=s.2.drop s.1;revert st;generalize (if k=1 then p else p.map (·.add (1*1)))=V;intro st;have st:BsS h V (n-1) (k-1) (b.drop 1):=⟨by have:=s.1;omega,st⟩
 refine gZ ?_;refine Kc (fun z vs h'=>∃ i:Nat,vs=[.int .i64 i]/\i<=n-1/\z=n-1-i/\BldR h h' r (joinS c (b.take (i+1))))
  (fun vs h'=>(∃ i:Int,vs=[.int .i64 i])/\BldR h h' r (joinS c b)) ⟨0,rfl,Nat.zero_le _,rfl,by rw[Nat.zero_add,w];exact M⟩ ?_ ?_
 ·rintro Y z vs P B ⟨i,rfl,Q,rfl,m⟩;refine yJ (fun o=>?_) (fun o=>?_)
  ·have G:=List.getElem?_eq_getElem (show i+1<b.length by omega);generalize b[i+1]=y at G;have H:(b.drop 1)[i]?=some y:=by rw[List.getElem?_drop,Nat.add_comm];exact G
   obtain⟨a,g,q⟩:=(st.le m.le).at H;have C:b.take (i+1)≠[]:=fun e=>by
    have h2:(b.take (i+1)).length=0:=by rw[e];rfl
    rw[List.length_take]at h2;omega
   have L:joinS c (b.take (i+1+1))=joinS c (b.take (i+1))++[c]++y:=by
    rw[Ww G,join_snoc C,List.append_assoc];rfl
   have j:=joinS_take c b (i+1+1);rw[L,List.length_append,List.length_append,List.length_singleton]at j;refine gT ⟨by omega,by omega⟩ (gS2 g (Je (by rw[Int.toNat_natCast];exact q) ?_));refine Jm (c3715 m (by rw[List.length_singleton];omega)) ?_;rintro _ h5 ⟨rfl,N⟩;refine gZ ?_;refine Jm (c3715 N (by rw[List.length_append,List.length_singleton];omega)) ?_;rintro _ W ⟨rfl,O⟩;refine gZ ?_;refine Qj (B (n-1-(i+1)) _ _ (by omega) ⟨i+1,?_,by omega,rfl,by rw[L];exact O⟩);rw[Qo (by omega) (by omega)];rfl
  ·rw[List.take_of_length_le (by omega)]at m;exact gH ⟨⟨_,rfl⟩,m⟩
 ·rintro vs P ⟨⟨i,rfl⟩,m⟩;refine gZ ?_;refine Jm (c3721 m (by omega)) ?_;rintro _ h5 ⟨rfl,J⟩;refine Qx ?_;exact Qn ⟨J,rfl⟩
end Go.Y.Txt
end
section
namespace Go.Y
set_option maxHeartbeats 0
set_option linter.unusedVariables false
variable {X:XP} {h:LH} {A:Value->LH->Prop}
variable {a b c d e f g i j k l m:Int}{n o p q r s t u v w x y z:Nat}{B C D E F G H I J K L M:Option Addr}
theorem w3741:FX X 86 #[a] h A (.cl 148 #[a] fun c=>.unStr c fun b=>.rt (.string b)):=fk [] [] [] Tryz.f86
theorem w3767:FX X 148 #[a] h A (.cl 173 #[a,.int .i64 10] fun c=>.unStr c fun b=>.rt (.string b)):=fk [] [] [] Tryz.f148
theorem w3775:FX X 173 #[a,b] h A (bif b==10 then .blk (bif decide (0<=a) then bif decide (a<100) then .cl 198 #[a] fun d=>.unStr d fun e=>.rn [.string e] else .ag [.string { data:=#[] }] else .ag [.string { data:=#[] }]) (fun c=>.popStr c fun e c=>.unNil c (.new 291 #[.int .u8 0,.int .u8 0,.int .u8 0,.int .u8 0,.int .u8 0,.int .u8 0,.int .u8 0,.int .u8 0,.int .u8 0,.int .u8 0,.int .u8 0,.int .u8 0,.int .u8 0,.int .u8 0,.int .u8 0,.int .u8 0,.int .u8 0,.int .u8 0,.int .u8 0,.int .u8 0,.int .u8 0,.int .u8 0,.int .u8 0,.int .u8 0] fun k=>.blk (bif decide (a<0) then .sem false (Op.unary UnOp.neg (.int .u64 (IntKind.wrap .u64 a))) fun d=>.ag [d] else .ag [.int .u64 (IntKind.wrap .u64 a)]) (fun c=>.popI .u64 c fun f c=>.unNil c (.cI 199 #[.int .u64 f] fun l=>.sem false (Instr.sliceAt 291 (.pointer (some ⟨k,0,none⟩)) (some (.int .i64 1)) (some (.int .i64 (wrap .i64 (1+l)))) none) fun j=>.unS j fun g n i=>.cl 200 #[.slice g n i,.int .u64 f] fun d=>.unTup d fun m=>.unNil m (bif decide (a<0) then .need ((0:Int)<=0/\0<(↑24:Int)) (.store ((Addr.add ⟨k,0,none⟩ 0).add 0) (.int .u8 45) (.sem false (Instr.sliceAt 291 (.pointer (some ⟨k,0,none⟩)) none (some (.int .i64 (wrap .i64 (1+l)))) none) fun j=>.unS j fun g f i=>.sem false (convert 78 9 (.slice g f i)) fun d=>.unStr d fun e=>.rt (.string e))) else .sem false (Instr.sliceAt 291 (.pointer (some ⟨k,0,none⟩)) (some (.int .i64 1)) (some (.int .i64 (wrap .i64 (1+l)))) none) fun j=>.unS j fun g f i=>.sem false (convert 78 9 (.slice g f i)) fun d=>.unStr d fun e=>.rt (.string e)))) (fun c=>.popI .u64 c fun f c=>.unNil c (.rt (.string e))) fun o p=>.fail)) (fun c=>.popStr c fun e c=>.unNil c (.rt (.string e))) fun o p=>.fail else .cT 201 #[.slice none 0 0,.int .u64 (IntKind.wrap .u64 a),b,.bool (decide (a<0)),false] fun d c=>.unS d fun g f i=>.unCons c fun d c=>.unStr d fun e=>.unNil c (.rt (.string e))):=fk [] [] [⟨8,[(6,.int .u64)],[],[],[],[]⟩,⟨4,[(4,.str)],[],[],[],[]⟩] Tryz.f173
theorem w3782:FX X 198 #[a] h A (bif decide (a<10) then .sem false (Instr.sliceAt 9 (.string { data:=#[48,49,50,51,52,53,54,55,56,57,97,98,99,100,101,102,103,104,105,106,107,108,109,110,111,112,113,114,115,116,117,118,119,120,121,122] }) (some (.int .i64 a)) (some (.int .i64 (wrap .i64 (a+1)))) none) fun c=>.unStr c fun b=>.rt (.string b) else .sem false (Instr.sliceAt 9 (.string { data:=List.toArray (List.append (List.append [48,48,48,49,48,50,48,51,48,52,48,53,48,54,48,55,48,56,48,57,49,48,49,49,49,50,49,51,49,52,49,53,49,54,49,55,49,56,49,57,50,48,50,49,50,50,50,51,50,52] [50,53,50,54,50,55,50,56,50,57,51,48,51,49,51,50,51,51,51,52,51,53,51,54,51,55,51,56,51,57,52,48,52,49,52,50,52,51,52,52,52,53,52,54,52,55,52,56,52,57]) (List.append [53,48,53,49,53,50,53,51,53,52,53,53,53,54,53,55,53,56,53,57,54,48,54,49,54,50,54,51,54,52,54,53,54,54,54,55,54,56,54,57,55,48,55,49,55,50,55,51,55,52] [55,53,55,54,55,55,55,56,55,57,56,48,56,49,56,50,56,51,56,52,56,53,56,54,56,55,56,56,56,57,57,48,57,49,57,50,57,51,57,52,57,53,57,54,57,55,57,56,57,57])) }) (some (.int .i64 (wrap .i64 (a*2)))) (some (.int .i64 (wrap .i64 (wrap .i64 (a*2)+2)))) none) fun c=>.unStr c fun b=>.rt (.string b)):=fk [] [] [] Tryz.f198
theorem w3783:FX X 199 #[.int .u64 a] h A (.cI 220 #[.int .u64 a] fun b=>.cI 219 #[b] fun b=>.need (0<=b/\b<(↑20:Int)) (.loadI .u64 (Addr.add { block:=5,off:=0 } (b.toNat*1)) fun c=>.cI 221 #[.bool (decide (a>=c))] fun d=>.rt (.int .i64 (wrap .i64 (b+d))))):=fk [] [] [] Tryz.f199
def n3784(d:Option Addr)(c f:Nat)(p:Int):T:=.loop [.int .u64 p,.int .i64 (↑c:Int)] (fun j=>.popI .u64 j fun b j=>.pi j fun a j=>.unNil j (bif decide (a>=8) then .need ((100000000:Int)≠0) (.need ((100000000:Int)≠0) (.need ((10000:Int)≠0) (.need ((10000:Int)≠0) (.need ((100:Int)≠0) (.need ((100:Int)≠0) (.need ((100:Int)≠0) (.need ((100:Int)≠0) (.blk (.both (.sem false (Instr.index 9 (.string { data:=List.toArray (List.append (List.append [48,48,48,49,48,50,48,51,48,52,48,53,48,54,48,55,48,56,48,57,49,48,49,49,49,50,49,51,49,52,49,53,49,54,49,55,49,56,49,57,50,48,50,49,50,50,50,51,50,52] [50,53,50,54,50,55,50,56,50,57,51,48,51,49,51,50,51,51,51,52,51,53,51,54,51,55,51,56,51,57,52,48,52,49,52,50,52,51,52,52,52,53,52,54,52,55,52,56,52,57]) (List.append [53,48,53,49,53,50,53,51,53,52,53,53,53,54,53,55,53,56,53,57,54,48,54,49,54,50,54,51,54,52,54,53,54,54,54,55,54,56,54,57,55,48,55,49,55,50,55,51,55,52] [55,53,55,54,55,55,55,56,55,57,56,48,56,49,56,50,56,51,56,52,56,53,56,54,56,55,56,56,56,57,57,48,57,49,57,50,57,51,57,52,57,53,57,54,57,55,57,56,57,57])) }) (.int .u32 (IntKind.wrap .u32 (IntKind.wrap .u32 (Int.tmod (Int.tmod (IntKind.wrap .u32 (Int.tmod b 100000000)) 10000) 100*2)+1)))) fun g=>.unI .u8 g fun i=>.nds [.val (.int .u32 (IntKind.wrap .u32 (Int.tmod (Int.tmod (IntKind.wrap .u32 (Int.tmod b 100000000)) 10000) 100*2))),.val (.int .u32 (IntKind.wrap .u32 (Int.tmod (Int.tmod (IntKind.wrap .u32 (Int.tmod b 100000000)) 10000) 100*2))),.val (.int .i64 (wrap .i64 (a-2))),a,.S d c f,.val (.int .i64 (wrap .i64 (a-1))),a,.S d c f] (.need (0<=wrap .i64 (a-1)/\wrap .i64 (a-1)<(↑c:Int)) (.someA d fun e=>.both (.sem false (Instr.index 9 (.string { data:=List.toArray (List.append (List.append [48,48,48,49,48,50,48,51,48,52,48,53,48,54,48,55,48,56,48,57,49,48,49,49,49,50,49,51,49,52,49,53,49,54,49,55,49,56,49,57,50,48,50,49,50,50,50,51,50,52] [50,53,50,54,50,55,50,56,50,57,51,48,51,49,51,50,51,51,51,52,51,53,51,54,51,55,51,56,51,57,52,48,52,49,52,50,52,51,52,52,52,53,52,54,52,55,52,56,52,57]) (List.append [53,48,53,49,53,50,53,51,53,52,53,53,53,54,53,55,53,56,53,57,54,48,54,49,54,50,54,51,54,52,54,53,54,54,54,55,54,56,54,57,55,48,55,49,55,50,55,51,55,52] [55,53,55,54,55,55,55,56,55,57,56,48,56,49,56,50,56,51,56,52,56,53,56,54,56,55,56,56,56,57,57,48,57,49,57,50,57,51,57,52,57,53,57,54,57,55,57,56,57,57])) }) (.int .u32 (IntKind.wrap .u32 (Int.tmod (Int.tmod (IntKind.wrap .u32 (Int.tmod b 100000000)) 10000) 100*2)))) fun g=>.unI .u8 g fun k=>.need (0<=wrap .i64 (a-1)/\wrap .i64 (a-1)<(↑c:Int)) (.someA d fun l=>.ne (.pointer (some (l.add ((wrap .i64 (a-1)).toNat*1)))) (.pointer (some (e.add ((wrap .i64 (a-1)).toNat*1)))) (.nds [.val (.int .u32 (IntKind.wrap .u32 (Int.tmod (Int.tmod (IntKind.wrap .u32 (Int.tmod b 100000000)) 10000) 100*2))),.val (.int .i64 (wrap .i64 (a-2))),a,.S d c f,.val (.int .i64 (wrap .i64 (a-1))),a,.S d c f] (.store ((e.add ((wrap .i64 (a-1)).toNat*1)).add 0) (.int .u8 i) (.nds [.val (.int .i64 (wrap .i64 (a-2))),a,.S d c f] (.need (0<=wrap .i64 (a-2)/\wrap .i64 (a-2)<(↑c:Int)) (.someA d fun e=>.store ((e.add ((wrap .i64 (a-2)).toNat*1)).add 0) (.int .u8 k) (.ag [])))))))) (.store ((e.add ((wrap .i64 (a-1)).toNat*1)).add 0) (.int .u8 i) (.nds [.val (.int .u32 (IntKind.wrap .u32 (Int.tmod (Int.tmod (IntKind.wrap .u32 (Int.tmod b 100000000)) 10000) 100*2))),.val (.int .i64 (wrap .i64 (a-2))),a,.S d c f] (.sem false (Instr.index 9 (.string { data:=List.toArray (List.append (List.append [48,48,48,49,48,50,48,51,48,52,48,53,48,54,48,55,48,56,48,57,49,48,49,49,49,50,49,51,49,52,49,53,49,54,49,55,49,56,49,57,50,48,50,49,50,50,50,51,50,52] [50,53,50,54,50,55,50,56,50,57,51,48,51,49,51,50,51,51,51,52,51,53,51,54,51,55,51,56,51,57,52,48,52,49,52,50,52,51,52,52,52,53,52,54,52,55,52,56,52,57]) (List.append [53,48,53,49,53,50,53,51,53,52,53,53,53,54,53,55,53,56,53,57,54,48,54,49,54,50,54,51,54,52,54,53,54,54,54,55,54,56,54,57,55,48,55,49,55,50,55,51,55,52] [55,53,55,54,55,55,55,56,55,57,56,48,56,49,56,50,56,51,56,52,56,53,56,54,56,55,56,56,56,57,57,48,57,49,57,50,57,51,57,52,57,53,57,54,57,55,57,56,57,57])) }) (.int .u32 (IntKind.wrap .u32 (Int.tmod (Int.tmod (IntKind.wrap .u32 (Int.tmod b 100000000)) 10000) 100*2)))) fun g=>.unI .u8 g fun b=>.nds [.val (.int .i64 (wrap .i64 (a-2))),a,.S d c f] (.need (0<=wrap .i64 (a-2)/\wrap .i64 (a-2)<(↑c:Int)) (.someA d fun e=>.store ((e.add ((wrap .i64 (a-2)).toNat*1)).add 0) (.int .u8 b) (.ag []))))))))) (.sem false (Instr.index 9 (.string { data:=List.toArray (List.append (List.append [48,48,48,49,48,50,48,51,48,52,48,53,48,54,48,55,48,56,48,57,49,48,49,49,49,50,49,51,49,52,49,53,49,54,49,55,49,56,49,57,50,48,50,49,50,50,50,51,50,52] [50,53,50,54,50,55,50,56,50,57,51,48,51,49,51,50,51,51,51,52,51,53,51,54,51,55,51,56,51,57,52,48,52,49,52,50,52,51,52,52,52,53,52,54,52,55,52,56,52,57]) (List.append [53,48,53,49,53,50,53,51,53,52,53,53,53,54,53,55,53,56,53,57,54,48,54,49,54,50,54,51,54,52,54,53,54,54,54,55,54,56,54,57,55,48,55,49,55,50,55,51,55,52] [55,53,55,54,55,55,55,56,55,57,56,48,56,49,56,50,56,51,56,52,56,53,56,54,56,55,56,56,56,57,57,48,57,49,57,50,57,51,57,52,57,53,57,54,57,55,57,56,57,57])) }) (.int .u32 (IntKind.wrap .u32 (Int.tmod (Int.tmod (IntKind.wrap .u32 (Int.tmod b 100000000)) 10000) 100*2)))) fun g=>.unI .u8 g fun i=>.nds [.val (.int .u32 (IntKind.wrap .u32 (IntKind.wrap .u32 (Int.tmod (Int.tmod (IntKind.wrap .u32 (Int.tmod b 100000000)) 10000) 100*2)+1))),.val (.int .u32 (IntKind.wrap .u32 (Int.tmod (Int.tmod (IntKind.wrap .u32 (Int.tmod b 100000000)) 10000) 100*2))),.val (.int .i64 (wrap .i64 (a-2))),a,.S d c f,.val (.int .i64 (wrap .i64 (a-1))),a,.S d c f] (.sem false (Instr.index 9 (.string { data:=List.toArray (List.append (List.append [48,48,48,49,48,50,48,51,48,52,48,53,48,54,48,55,48,56,48,57,49,48,49,49,49,50,49,51,49,52,49,53,49,54,49,55,49,56,49,57,50,48,50,49,50,50,50,51,50,52] [50,53,50,54,50,55,50,56,50,57,51,48,51,49,51,50,51,51,51,52,51,53,51,54,51,55,51,56,51,57,52,48,52,49,52,50,52,51,52,52,52,53,52,54,52,55,52,56,52,57]) (List.append [53,48,53,49,53,50,53,51,53,52,53,53,53,54,53,55,53,56,53,57,54,48,54,49,54,50,54,51,54,52,54,53,54,54,54,55,54,56,54,57,55,48,55,49,55,50,55,51,55,52] [55,53,55,54,55,55,55,56,55,57,56,48,56,49,56,50,56,51,56,52,56,53,56,54,56,55,56,56,56,57,57,48,57,49,57,50,57,51,57,52,57,53,57,54,57,55,57,56,57,57])) }) (.int .u32 (IntKind.wrap .u32 (IntKind.wrap .u32 (Int.tmod (Int.tmod (IntKind.wrap .u32 (Int.tmod b 100000000)) 10000) 100*2)+1)))) fun g=>.unI .u8 g fun k=>.nds [.val (.int .u32 (IntKind.wrap .u32 (Int.tmod (Int.tmod (IntKind.wrap .u32 (Int.tmod b 100000000)) 10000) 100*2))),.val (.int .i64 (wrap .i64 (a-2))),a,.S d c f,.val (.int .i64 (wrap .i64 (a-1))),a,.S d c f] (.need (0<=wrap .i64 (a-1)/\wrap .i64 (a-1)<(↑c:Int)) (.someA d fun e=>.store ((e.add ((wrap .i64 (a-1)).toNat*1)).add 0) (.int .u8 k) (.nds [.val (.int .i64 (wrap .i64 (a-2))),a,.S d c f] (.need (0<=wrap .i64 (a-2)/\wrap .i64 (a-2)<(↑c:Int)) (.someA d fun e=>.store ((e.add ((wrap .i64 (a-2)).toNat*1)).add 0) (.int .u8 i) (.ag []))))))))) (fun j=>.unNil j (.blk (.both (.sem false (Instr.index 9 (.string { data:=List.toArray (List.append (List.append [48,48,48,49,48,50,48,51,48,52,48,53,48,54,48,55,48,56,48,57,49,48,49,49,49,50,49,51,49,52,49,53,49,54,49,55,49,56,49,57,50,48,50,49,50,50,50,51,50,52] [50,53,50,54,50,55,50,56,50,57,51,48,51,49,51,50,51,51,51,52,51,53,51,54,51,55,51,56,51,57,52,48,52,49,52,50,52,51,52,52,52,53,52,54,52,55,52,56,52,57]) (List.append [53,48,53,49,53,50,53,51,53,52,53,53,53,54,53,55,53,56,53,57,54,48,54,49,54,50,54,51,54,52,54,53,54,54,54,55,54,56,54,57,55,48,55,49,55,50,55,51,55,52] [55,53,55,54,55,55,55,56,55,57,56,48,56,49,56,50,56,51,56,52,56,53,56,54,56,55,56,56,56,57,57,48,57,49,57,50,57,51,57,52,57,53,57,54,57,55,57,56,57,57])) }) (.int .u32 (IntKind.wrap .u32 (IntKind.wrap .u32 (IntKind.wrap .u32 (Int.tdiv (Int.tmod (IntKind.wrap .u32 (Int.tmod b 100000000)) 10000) 100)*2)+1)))) fun g=>.unI .u8 g fun i=>.nds [.val (.int .u32 (IntKind.wrap .u32 (IntKind.wrap .u32 (Int.tdiv (Int.tmod (IntKind.wrap .u32 (Int.tmod b 100000000)) 10000) 100)*2))),.val (.int .u32 (IntKind.wrap .u32 (IntKind.wrap .u32 (Int.tdiv (Int.tmod (IntKind.wrap .u32 (Int.tmod b 100000000)) 10000) 100)*2))),.val (.int .i64 (wrap .i64 (a-4))),a,.S d c f,.val (.int .i64 (wrap .i64 (a-3))),a,.S d c f] (.need (0<=wrap .i64 (a-3)/\wrap .i64 (a-3)<(↑c:Int)) (.someA d fun e=>.both (.sem false (Instr.index 9 (.string { data:=List.toArray (List.append (List.append [48,48,48,49,48,50,48,51,48,52,48,53,48,54,48,55,48,56,48,57,49,48,49,49,49,50,49,51,49,52,49,53,49,54,49,55,49,56,49,57,50,48,50,49,50,50,50,51,50,52] [50,53,50,54,50,55,50,56,50,57,51,48,51,49,51,50,51,51,51,52,51,53,51,54,51,55,51,56,51,57,52,48,52,49,52,50,52,51,52,52,52,53,52,54,52,55,52,56,52,57]) (List.append [53,48,53,49,53,50,53,51,53,52,53,53,53,54,53,55,53,56,53,57,54,48,54,49,54,50,54,51,54,52,54,53,54,54,54,55,54,56,54,57,55,48,55,49,55,50,55,51,55,52] [55,53,55,54,55,55,55,56,55,57,56,48,56,49,56,50,56,51,56,52,56,53,56,54,56,55,56,56,56,57,57,48,57,49,57,50,57,51,57,52,57,53,57,54,57,55,57,56,57,57])) }) (.int .u32 (IntKind.wrap .u32 (IntKind.wrap .u32 (Int.tdiv (Int.tmod (IntKind.wrap .u32 (Int.tmod b 100000000)) 10000) 100)*2)))) fun g=>.unI .u8 g fun k=>.need (0<=wrap .i64 (a-3)/\wrap .i64 (a-3)<(↑c:Int)) (.someA d fun l=>.ne (.pointer (some (l.add ((wrap .i64 (a-3)).toNat*1)))) (.pointer (some (e.add ((wrap .i64 (a-3)).toNat*1)))) (.nds [.val (.int .u32 (IntKind.wrap .u32 (IntKind.wrap .u32 (Int.tdiv (Int.tmod (IntKind.wrap .u32 (Int.tmod b 100000000)) 10000) 100)*2))),.val (.int .i64 (wrap .i64 (a-4))),a,.S d c f,.val (.int .i64 (wrap .i64 (a-3))),a,.S d c f] (.store ((e.add ((wrap .i64 (a-3)).toNat*1)).add 0) (.int .u8 i) (.nds [.val (.int .i64 (wrap .i64 (a-4))),a,.S d c f] (.need (0<=wrap .i64 (a-4)/\wrap .i64 (a-4)<(↑c:Int)) (.someA d fun e=>.store ((e.add ((wrap .i64 (a-4)).toNat*1)).add 0) (.int .u8 k) (.ag [])))))))) (.store ((e.add ((wrap .i64 (a-3)).toNat*1)).add 0) (.int .u8 i) (.nds [.val (.int .u32 (IntKind.wrap .u32 (IntKind.wrap .u32 (Int.tdiv (Int.tmod (IntKind.wrap .u32 (Int.tmod b 100000000)) 10000) 100)*2))),.val (.int .i64 (wrap .i64 (a-4))),a,.S d c f] (.sem false (Instr.index 9 (.string { data:=List.toArray (List.append (List.append [48,48,48,49,48,50,48,51,48,52,48,53,48,54,48,55,48,56,48,57,49,48,49,49,49,50,49,51,49,52,49,53,49,54,49,55,49,56,49,57,50,48,50,49,50,50,50,51,50,52] [50,53,50,54,50,55,50,56,50,57,51,48,51,49,51,50,51,51,51,52,51,53,51,54,51,55,51,56,51,57,52,48,52,49,52,50,52,51,52,52,52,53,52,54,52,55,52,56,52,57]) (List.append [53,48,53,49,53,50,53,51,53,52,53,53,53,54,53,55,53,56,53,57,54,48,54,49,54,50,54,51,54,52,54,53,54,54,54,55,54,56,54,57,55,48,55,49,55,50,55,51,55,52] [55,53,55,54,55,55,55,56,55,57,56,48,56,49,56,50,56,51,56,52,56,53,56,54,56,55,56,56,56,57,57,48,57,49,57,50,57,51,57,52,57,53,57,54,57,55,57,56,57,57])) }) (.int .u32 (IntKind.wrap .u32 (IntKind.wrap .u32 (Int.tdiv (Int.tmod (IntKind.wrap .u32 (Int.tmod b 100000000)) 10000) 100)*2)))) fun g=>.unI .u8 g fun b=>.nds [.val (.int .i64 (wrap .i64 (a-4))),a,.S d c f] (.need (0<=wrap .i64 (a-4)/\wrap .i64 (a-4)<(↑c:Int)) (.someA d fun e=>.store ((e.add ((wrap .i64 (a-4)).toNat*1)).add 0) (.int .u8 b) (.ag []))))))))) (.sem false (Instr.index 9 (.string { data:=List.toArray (List.append (List.append [48,48,48,49,48,50,48,51,48,52,48,53,48,54,48,55,48,56,48,57,49,48,49,49,49,50,49,51,49,52,49,53,49,54,49,55,49,56,49,57,50,48,50,49,50,50,50,51,50,52] [50,53,50,54,50,55,50,56,50,57,51,48,51,49,51,50,51,51,51,52,51,53,51,54,51,55,51,56,51,57,52,48,52,49,52,50,52,51,52,52,52,53,52,54,52,55,52,56,52,57]) (List.append [53,48,53,49,53,50,53,51,53,52,53,53,53,54,53,55,53,56,53,57,54,48,54,49,54,50,54,51,54,52,54,53,54,54,54,55,54,56,54,57,55,48,55,49,55,50,55,51,55,52] [55,53,55,54,55,55,55,56,55,57,56,48,56,49,56,50,56,51,56,52,56,53,56,54,56,55,56,56,56,57,57,48,57,49,57,50,57,51,57,52,57,53,57,54,57,55,57,56,57,57])) }) (.int .u32 (IntKind.wrap .u32 (IntKind.wrap .u32 (Int.tdiv (Int.tmod (IntKind.wrap .u32 (Int.tmod b 100000000)) 10000) 100)*2)))) fun g=>.unI .u8 g fun i=>.nds [.val (.int .u32 (IntKind.wrap .u32 (IntKind.wrap .u32 (IntKind.wrap .u32 (Int.tdiv (Int.tmod (IntKind.wrap .u32 (Int.tmod b 100000000)) 10000) 100)*2)+1))),.val (.int .u32 (IntKind.wrap .u32 (IntKind.wrap .u32 (Int.tdiv (Int.tmod (IntKind.wrap .u32 (Int.tmod b 100000000)) 10000) 100)*2))),.val (.int .i64 (wrap .i64 (a-4))),a,.S d c f,.val (.int .i64 (wrap .i64 (a-3))),a,.S d c f] (.sem false (Instr.index 9 (.string { data:=List.toArray (List.append (List.append [48,48,48,49,48,50,48,51,48,52,48,53,48,54,48,55,48,56,48,57,49,48,49,49,49,50,49,51,49,52,49,53,49,54,49,55,49,56,49,57,50,48,50,49,50,50,50,51,50,52] [50,53,50,54,50,55,50,56,50,57,51,48,51,49,51,50,51,51,51,52,51,53,51,54,51,55,51,56,51,57,52,48,52,49,52,50,52,51,52,52,52,53,52,54,52,55,52,56,52,57]) (List.append [53,48,53,49,53,50,53,51,53,52,53,53,53,54,53,55,53,56,53,57,54,48,54,49,54,50,54,51,54,52,54,53,54,54,54,55,54,56,54,57,55,48,55,49,55,50,55,51,55,52] [55,53,55,54,55,55,55,56,55,57,56,48,56,49,56,50,56,51,56,52,56,53,56,54,56,55,56,56,56,57,57,48,57,49,57,50,57,51,57,52,57,53,57,54,57,55,57,56,57,57])) }) (.int .u32 (IntKind.wrap .u32 (IntKind.wrap .u32 (IntKind.wrap .u32 (Int.tdiv (Int.tmod (IntKind.wrap .u32 (Int.tmod b 100000000)) 10000) 100)*2)+1)))) fun g=>.unI .u8 g fun k=>.nds [.val (.int .u32 (IntKind.wrap .u32 (IntKind.wrap .u32 (Int.tdiv (Int.tmod (IntKind.wrap .u32 (Int.tmod b 100000000)) 10000) 100)*2))),.val (.int .i64 (wrap .i64 (a-4))),a,.S d c f,.val (.int .i64 (wrap .i64 (a-3))),a,.S d c f] (.need (0<=wrap .i64 (a-3)/\wrap .i64 (a-3)<(↑c:Int)) (.someA d fun e=>.store ((e.add ((wrap .i64 (a-3)).toNat*1)).add 0) (.int .u8 k) (.nds [.val (.int .i64 (wrap .i64 (a-4))),a,.S d c f] (.need (0<=wrap .i64 (a-4)/\wrap .i64 (a-4)<(↑c:Int)) (.someA d fun e=>.store ((e.add ((wrap .i64 (a-4)).toNat*1)).add 0) (.int .u8 i) (.ag []))))))))) (fun j=>.unNil j (.blk (.both (.sem false (Instr.index 9 (.string { data:=List.toArray (List.append (List.append [48,48,48,49,48,50,48,51,48,52,48,53,48,54,48,55,48,56,48,57,49,48,49,49,49,50,49,51,49,52,49,53,49,54,49,55,49,56,49,57,50,48,50,49,50,50,50,51,50,52] [50,53,50,54,50,55,50,56,50,57,51,48,51,49,51,50,51,51,51,52,51,53,51,54,51,55,51,56,51,57,52,48,52,49,52,50,52,51,52,52,52,53,52,54,52,55,52,56,52,57]) (List.append [53,48,53,49,53,50,53,51,53,52,53,53,53,54,53,55,53,56,53,57,54,48,54,49,54,50,54,51,54,52,54,53,54,54,54,55,54,56,54,57,55,48,55,49,55,50,55,51,55,52] [55,53,55,54,55,55,55,56,55,57,56,48,56,49,56,50,56,51,56,52,56,53,56,54,56,55,56,56,56,57,57,48,57,49,57,50,57,51,57,52,57,53,57,54,57,55,57,56,57,57])) }) (.int .u32 (IntKind.wrap .u32 (IntKind.wrap .u32 (Int.tmod (IntKind.wrap .u32 (Int.tdiv (IntKind.wrap .u32 (Int.tmod b 100000000)) 10000)) 100*2)+1)))) fun g=>.unI .u8 g fun i=>.nds [.val (.int .u32 (IntKind.wrap .u32 (Int.tmod (IntKind.wrap .u32 (Int.tdiv (IntKind.wrap .u32 (Int.tmod b 100000000)) 10000)) 100*2))),.val (.int .u32 (IntKind.wrap .u32 (Int.tmod (IntKind.wrap .u32 (Int.tdiv (IntKind.wrap .u32 (Int.tmod b 100000000)) 10000)) 100*2))),.val (.int .i64 (wrap .i64 (a-6))),a,.S d c f,.val (.int .i64 (wrap .i64 (a-5))),a,.S d c f] (.need (0<=wrap .i64 (a-5)/\wrap .i64 (a-5)<(↑c:Int)) (.someA d fun e=>.both (.sem false (Instr.index 9 (.string { data:=List.toArray (List.append (List.append [48,48,48,49,48,50,48,51,48,52,48,53,48,54,48,55,48,56,48,57,49,48,49,49,49,50,49,51,49,52,49,53,49,54,49,55,49,56,49,57,50,48,50,49,50,50,50,51,50,52] [50,53,50,54,50,55,50,56,50,57,51,48,51,49,51,50,51,51,51,52,51,53,51,54,51,55,51,56,51,57,52,48,52,49,52,50,52,51,52,52,52,53,52,54,52,55,52,56,52,57]) (List.append [53,48,53,49,53,50,53,51,53,52,53,53,53,54,53,55,53,56,53,57,54,48,54,49,54,50,54,51,54,52,54,53,54,54,54,55,54,56,54,57,55,48,55,49,55,50,55,51,55,52] [55,53,55,54,55,55,55,56,55,57,56,48,56,49,56,50,56,51,56,52,56,53,56,54,56,55,56,56,56,57,57,48,57,49,57,50,57,51,57,52,57,53,57,54,57,55,57,56,57,57])) }) (.int .u32 (IntKind.wrap .u32 (Int.tmod (IntKind.wrap .u32 (Int.tdiv (IntKind.wrap .u32 (Int.tmod b 100000000)) 10000)) 100*2)))) fun g=>.unI .u8 g fun k=>.need (0<=wrap .i64 (a-5)/\wrap .i64 (a-5)<(↑c:Int)) (.someA d fun l=>.ne (.pointer (some (l.add ((wrap .i64 (a-5)).toNat*1)))) (.pointer (some (e.add ((wrap .i64 (a-5)).toNat*1)))) (.nds [.val (.int .u32 (IntKind.wrap .u32 (Int.tmod (IntKind.wrap .u32 (Int.tdiv (IntKind.wrap .u32 (Int.tmod b 100000000)) 10000)) 100*2))),.val (.int .i64 (wrap .i64 (a-6))),a,.S d c f,.val (.int .i64 (wrap .i64 (a-5))),a,.S d c f] (.store ((e.add ((wrap .i64 (a-5)).toNat*1)).add 0) (.int .u8 i) (.nds [.val (.int .i64 (wrap .i64 (a-6))),a,.S d c f] (.need (0<=wrap .i64 (a-6)/\wrap .i64 (a-6)<(↑c:Int)) (.someA d fun e=>.store ((e.add ((wrap .i64 (a-6)).toNat*1)).add 0) (.int .u8 k) (.ag [])))))))) (.store ((e.add ((wrap .i64 (a-5)).toNat*1)).add 0) (.int .u8 i) (.nds [.val (.int .u32 (IntKind.wrap .u32 (Int.tmod (IntKind.wrap .u32 (Int.tdiv (IntKind.wrap .u32 (Int.tmod b 100000000)) 10000)) 100*2))),.val (.int .i64 (wrap .i64 (a-6))),a,.S d c f] (.sem false (Instr.index 9 (.string { data:=List.toArray (List.append (List.append [48,48,48,49,48,50,48,51,48,52,48,53,48,54,48,55,48,56,48,57,49,48,49,49,49,50,49,51,49,52,49,53,49,54,49,55,49,56,49,57,50,48,50,49,50,50,50,51,50,52] [50,53,50,54,50,55,50,56,50,57,51,48,51,49,51,50,51,51,51,52,51,53,51,54,51,55,51,56,51,57,52,48,52,49,52,50,52,51,52,52,52,53,52,54,52,55,52,56,52,57]) (List.append [53,48,53,49,53,50,53,51,53,52,53,53,53,54,53,55,53,56,53,57,54,48,54,49,54,50,54,51,54,52,54,53,54,54,54,55,54,56,54,57,55,48,55,49,55,50,55,51,55,52] [55,53,55,54,55,55,55,56,55,57,56,48,56,49,56,50,56,51,56,52,56,53,56,54,56,55,56,56,56,57,57,48,57,49,57,50,57,51,57,52,57,53,57,54,57,55,57,56,57,57])) }) (.int .u32 (IntKind.wrap .u32 (Int.tmod (IntKind.wrap .u32 (Int.tdiv (IntKind.wrap .u32 (Int.tmod b 100000000)) 10000)) 100*2)))) fun g=>.unI .u8 g fun b=>.nds [.val (.int .i64 (wrap .i64 (a-6))),a,.S d c f] (.need (0<=wrap .i64 (a-6)/\wrap .i64 (a-6)<(↑c:Int)) (.someA d fun e=>.store ((e.add ((wrap .i64 (a-6)).toNat*1)).add 0) (.int .u8 b) (.ag []))))))))) (.sem false (Instr.index 9 (.string { data:=List.toArray (List.append (List.append [48,48,48,49,48,50,48,51,48,52,48,53,48,54,48,55,48,56,48,57,49,48,49,49,49,50,49,51,49,52,49,53,49,54,49,55,49,56,49,57,50,48,50,49,50,50,50,51,50,52] [50,53,50,54,50,55,50,56,50,57,51,48,51,49,51,50,51,51,51,52,51,53,51,54,51,55,51,56,51,57,52,48,52,49,52,50,52,51,52,52,52,53,52,54,52,55,52,56,52,57]) (List.append [53,48,53,49,53,50,53,51,53,52,53,53,53,54,53,55,53,56,53,57,54,48,54,49,54,50,54,51,54,52,54,53,54,54,54,55,54,56,54,57,55,48,55,49,55,50,55,51,55,52] [55,53,55,54,55,55,55,56,55,57,56,48,56,49,56,50,56,51,56,52,56,53,56,54,56,55,56,56,56,57,57,48,57,49,57,50,57,51,57,52,57,53,57,54,57,55,57,56,57,57])) }) (.int .u32 (IntKind.wrap .u32 (Int.tmod (IntKind.wrap .u32 (Int.tdiv (IntKind.wrap .u32 (Int.tmod b 100000000)) 10000)) 100*2)))) fun g=>.unI .u8 g fun i=>.nds [.val (.int .u32 (IntKind.wrap .u32 (IntKind.wrap .u32 (Int.tmod (IntKind.wrap .u32 (Int.tdiv (IntKind.wrap .u32 (Int.tmod b 100000000)) 10000)) 100*2)+1))),.val (.int .u32 (IntKind.wrap .u32 (Int.tmod (IntKind.wrap .u32 (Int.tdiv (IntKind.wrap .u32 (Int.tmod b 100000000)) 10000)) 100*2))),.val (.int .i64 (wrap .i64 (a-6))),a,.S d c f,.val (.int .i64 (wrap .i64 (a-5))),a,.S d c f] (.sem false (Instr.index 9 (.string { data:=List.toArray (List.append (List.append [48,48,48,49,48,50,48,51,48,52,48,53,48,54,48,55,48,56,48,57,49,48,49,49,49,50,49,51,49,52,49,53,49,54,49,55,49,56,49,57,50,48,50,49,50,50,50,51,50,52] [50,53,50,54,50,55,50,56,50,57,51,48,51,49,51,50,51,51,51,52,51,53,51,54,51,55,51,56,51,57,52,48,52,49,52,50,52,51,52,52,52,53,52,54,52,55,52,56,52,57]) (List.append [53,48,53,49,53,50,53,51,53,52,53,53,53,54,53,55,53,56,53,57,54,48,54,49,54,50,54,51,54,52,54,53,54,54,54,55,54,56,54,57,55,48,55,49,55,50,55,51,55,52] [55,53,55,54,55,55,55,56,55,57,56,48,56,49,56,50,56,51,56,52,56,53,56,54,56,55,56,56,56,57,57,48,57,49,57,50,57,51,57,52,57,53,57,54,57,55,57,56,57,57])) }) (.int .u32 (IntKind.wrap .u32 (IntKind.wrap .u32 (Int.tmod (IntKind.wrap .u32 (Int.tdiv (IntKind.wrap .u32 (Int.tmod b 100000000)) 10000)) 100*2)+1)))) fun g=>.unI .u8 g fun k=>.nds [.val (.int .u32 (IntKind.wrap .u32 (Int.tmod (IntKind.wrap .u32 (Int.tdiv (IntKind.wrap .u32 (Int.tmod b 100000000)) 10000)) 100*2))),.val (.int .i64 (wrap .i64 (a-6))),a,.S d c f,.val (.int .i64 (wrap .i64 (a-5))),a,.S d c f] (.need (0<=wrap .i64 (a-5)/\wrap .i64 (a-5)<(↑c:Int)) (.someA d fun e=>.store ((e.add ((wrap .i64 (a-5)).toNat*1)).add 0) (.int .u8 k) (.nds [.val (.int .i64 (wrap .i64 (a-6))),a,.S d c f] (.need (0<=wrap .i64 (a-6)/\wrap .i64 (a-6)<(↑c:Int)) (.someA d fun e=>.store ((e.add ((wrap .i64 (a-6)).toNat*1)).add 0) (.int .u8 i) (.ag []))))))))) (fun j=>.unNil j (.both (.sem false (Instr.index 9 (.string { data:=List.toArray (List.append (List.append [48,48,48,49,48,50,48,51,48,52,48,53,48,54,48,55,48,56,48,57,49,48,49,49,49,50,49,51,49,52,49,53,49,54,49,55,49,56,49,57,50,48,50,49,50,50,50,51,50,52] [50,53,50,54,50,55,50,56,50,57,51,48,51,49,51,50,51,51,51,52,51,53,51,54,51,55,51,56,51,57,52,48,52,49,52,50,52,51,52,52,52,53,52,54,52,55,52,56,52,57]) (List.append [53,48,53,49,53,50,53,51,53,52,53,53,53,54,53,55,53,56,53,57,54,48,54,49,54,50,54,51,54,52,54,53,54,54,54,55,54,56,54,57,55,48,55,49,55,50,55,51,55,52] [55,53,55,54,55,55,55,56,55,57,56,48,56,49,56,50,56,51,56,52,56,53,56,54,56,55,56,56,56,57,57,48,57,49,57,50,57,51,57,52,57,53,57,54,57,55,57,56,57,57])) }) (.int .u32 (IntKind.wrap .u32 (IntKind.wrap .u32 (IntKind.wrap .u32 (Int.tdiv (IntKind.wrap .u32 (Int.tdiv (IntKind.wrap .u32 (Int.tmod b 100000000)) 10000)) 100)*2)+1)))) fun g=>.unI .u8 g fun i=>.nds [.val (.int .u32 (IntKind.wrap .u32 (IntKind.wrap .u32 (Int.tdiv (IntKind.wrap .u32 (Int.tdiv (IntKind.wrap .u32 (Int.tmod b 100000000)) 10000)) 100)*2))),.val (.int .u32 (IntKind.wrap .u32 (IntKind.wrap .u32 (Int.tdiv (IntKind.wrap .u32 (Int.tdiv (IntKind.wrap .u32 (Int.tmod b 100000000)) 10000)) 100)*2))),.val (.int .i64 (wrap .i64 (a-8))),a,.S d c f,.val (.int .i64 (wrap .i64 (a-7))),a,.S d c f] (.need (0<=wrap .i64 (a-7)/\wrap .i64 (a-7)<(↑c:Int)) (.someA d fun e=>.both (.sem false (Instr.index 9 (.string { data:=List.toArray (List.append (List.append [48,48,48,49,48,50,48,51,48,52,48,53,48,54,48,55,48,56,48,57,49,48,49,49,49,50,49,51,49,52,49,53,49,54,49,55,49,56,49,57,50,48,50,49,50,50,50,51,50,52] [50,53,50,54,50,55,50,56,50,57,51,48,51,49,51,50,51,51,51,52,51,53,51,54,51,55,51,56,51,57,52,48,52,49,52,50,52,51,52,52,52,53,52,54,52,55,52,56,52,57]) (List.append [53,48,53,49,53,50,53,51,53,52,53,53,53,54,53,55,53,56,53,57,54,48,54,49,54,50,54,51,54,52,54,53,54,54,54,55,54,56,54,57,55,48,55,49,55,50,55,51,55,52] [55,53,55,54,55,55,55,56,55,57,56,48,56,49,56,50,56,51,56,52,56,53,56,54,56,55,56,56,56,57,57,48,57,49,57,50,57,51,57,52,57,53,57,54,57,55,57,56,57,57])) }) (.int .u32 (IntKind.wrap .u32 (IntKind.wrap .u32 (Int.tdiv (IntKind.wrap .u32 (Int.tdiv (IntKind.wrap .u32 (Int.tmod b 100000000)) 10000)) 100)*2)))) fun g=>.unI .u8 g fun k=>.need (0<=wrap .i64 (a-7)/\wrap .i64 (a-7)<(↑c:Int)) (.someA d fun l=>.ne (.pointer (some (l.add ((wrap .i64 (a-7)).toNat*1)))) (.pointer (some (e.add ((wrap .i64 (a-7)).toNat*1)))) (.nds [.val (.int .u32 (IntKind.wrap .u32 (IntKind.wrap .u32 (Int.tdiv (IntKind.wrap .u32 (Int.tdiv (IntKind.wrap .u32 (Int.tmod b 100000000)) 10000)) 100)*2))),.val (.int .i64 (wrap .i64 (a-8))),a,.S d c f,.val (.int .i64 (wrap .i64 (a-7))),a,.S d c f] (.store ((e.add ((wrap .i64 (a-7)).toNat*1)).add 0) (.int .u8 i) (.nds [.val (.int .i64 (wrap .i64 (a-8))),a,.S d c f] (.need (0<=wrap .i64 (a-8)/\wrap .i64 (a-8)<(↑c:Int)) (.someA d fun e=>.store ((e.add ((wrap .i64 (a-8)).toNat*1)).add 0) (.int .u8 k) (.ag [.int .u64 (IntKind.wrap .u64 (Int.tdiv b 100000000)),.int .i64 (wrap .i64 (a-8))])))))))) (.store ((e.add ((wrap .i64 (a-7)).toNat*1)).add 0) (.int .u8 i) (.nds [.val (.int .u32 (IntKind.wrap .u32 (IntKind.wrap .u32 (Int.tdiv (IntKind.wrap .u32 (Int.tdiv (IntKind.wrap .u32 (Int.tmod b 100000000)) 10000)) 100)*2))),.val (.int .i64 (wrap .i64 (a-8))),a,.S d c f] (.sem false (Instr.index 9 (.string { data:=List.toArray (List.append (List.append [48,48,48,49,48,50,48,51,48,52,48,53,48,54,48,55,48,56,48,57,49,48,49,49,49,50,49,51,49,52,49,53,49,54,49,55,49,56,49,57,50,48,50,49,50,50,50,51,50,52] [50,53,50,54,50,55,50,56,50,57,51,48,51,49,51,50,51,51,51,52,51,53,51,54,51,55,51,56,51,57,52,48,52,49,52,50,52,51,52,52,52,53,52,54,52,55,52,56,52,57]) (List.append [53,48,53,49,53,50,53,51,53,52,53,53,53,54,53,55,53,56,53,57,54,48,54,49,54,50,54,51,54,52,54,53,54,54,54,55,54,56,54,57,55,48,55,49,55,50,55,51,55,52] [55,53,55,54,55,55,55,56,55,57,56,48,56,49,56,50,56,51,56,52,56,53,56,54,56,55,56,56,56,57,57,48,57,49,57,50,57,51,57,52,57,53,57,54,57,55,57,56,57,57])) }) (.int .u32 (IntKind.wrap .u32 (IntKind.wrap .u32 (Int.tdiv (IntKind.wrap .u32 (Int.tdiv (IntKind.wrap .u32 (Int.tmod b 100000000)) 10000)) 100)*2)))) fun g=>.unI .u8 g fun k=>.nds [.val (.int .i64 (wrap .i64 (a-8))),a,.S d c f] (.need (0<=wrap .i64 (a-8)/\wrap .i64 (a-8)<(↑c:Int)) (.someA d fun e=>.store ((e.add ((wrap .i64 (a-8)).toNat*1)).add 0) (.int .u8 k) (.ag [.int .u64 (IntKind.wrap .u64 (Int.tdiv b 100000000)),.int .i64 (wrap .i64 (a-8))]))))))))) (.sem false (Instr.index 9 (.string { data:=List.toArray (List.append (List.append [48,48,48,49,48,50,48,51,48,52,48,53,48,54,48,55,48,56,48,57,49,48,49,49,49,50,49,51,49,52,49,53,49,54,49,55,49,56,49,57,50,48,50,49,50,50,50,51,50,52] [50,53,50,54,50,55,50,56,50,57,51,48,51,49,51,50,51,51,51,52,51,53,51,54,51,55,51,56,51,57,52,48,52,49,52,50,52,51,52,52,52,53,52,54,52,55,52,56,52,57]) (List.append [53,48,53,49,53,50,53,51,53,52,53,53,53,54,53,55,53,56,53,57,54,48,54,49,54,50,54,51,54,52,54,53,54,54,54,55,54,56,54,57,55,48,55,49,55,50,55,51,55,52] [55,53,55,54,55,55,55,56,55,57,56,48,56,49,56,50,56,51,56,52,56,53,56,54,56,55,56,56,56,57,57,48,57,49,57,50,57,51,57,52,57,53,57,54,57,55,57,56,57,57])) }) (.int .u32 (IntKind.wrap .u32 (IntKind.wrap .u32 (Int.tdiv (IntKind.wrap .u32 (Int.tdiv (IntKind.wrap .u32 (Int.tmod b 100000000)) 10000)) 100)*2)))) fun g=>.unI .u8 g fun i=>.nds [.val (.int .u32 (IntKind.wrap .u32 (IntKind.wrap .u32 (IntKind.wrap .u32 (Int.tdiv (IntKind.wrap .u32 (Int.tdiv (IntKind.wrap .u32 (Int.tmod b 100000000)) 10000)) 100)*2)+1))),.val (.int .u32 (IntKind.wrap .u32 (IntKind.wrap .u32 (Int.tdiv (IntKind.wrap .u32 (Int.tdiv (IntKind.wrap .u32 (Int.tmod b 100000000)) 10000)) 100)*2))),.val (.int .i64 (wrap .i64 (a-8))),a,.S d c f,.val (.int .i64 (wrap .i64 (a-7))),a,.S d c f] (.sem false (Instr.index 9 (.string { data:=List.toArray (List.append (List.append [48,48,48,49,48,50,48,51,48,52,48,53,48,54,48,55,48,56,48,57,49,48,49,49,49,50,49,51,49,52,49,53,49,54,49,55,49,56,49,57,50,48,50,49,50,50,50,51,50,52] [50,53,50,54,50,55,50,56,50,57,51,48,51,49,51,50,51,51,51,52,51,53,51,54,51,55,51,56,51,57,52,48,52,49,52,50,52,51,52,52,52,53,52,54,52,55,52,56,52,57]) (List.append [53,48,53,49,53,50,53,51,53,52,53,53,53,54,53,55,53,56,53,57,54,48,54,49,54,50,54,51,54,52,54,53,54,54,54,55,54,56,54,57,55,48,55,49,55,50,55,51,55,52] [55,53,55,54,55,55,55,56,55,57,56,48,56,49,56,50,56,51,56,52,56,53,56,54,56,55,56,56,56,57,57,48,57,49,57,50,57,51,57,52,57,53,57,54,57,55,57,56,57,57])) }) (.int .u32 (IntKind.wrap .u32 (IntKind.wrap .u32 (IntKind.wrap .u32 (Int.tdiv (IntKind.wrap .u32 (Int.tdiv (IntKind.wrap .u32 (Int.tmod b 100000000)) 10000)) 100)*2)+1)))) fun g=>.unI .u8 g fun k=>.nds [.val (.int .u32 (IntKind.wrap .u32 (IntKind.wrap .u32 (Int.tdiv (IntKind.wrap .u32 (Int.tdiv (IntKind.wrap .u32 (Int.tmod b 100000000)) 10000)) 100)*2))),.val (.int .i64 (wrap .i64 (a-8))),a,.S d c f,.val (.int .i64 (wrap .i64 (a-7))),a,.S d c f] (.need (0<=wrap .i64 (a-7)/\wrap .i64 (a-7)<(↑c:Int)) (.someA d fun e=>.store ((e.add ((wrap .i64 (a-7)).toNat*1)).add 0) (.int .u8 k) (.nds [.val (.int .i64 (wrap .i64 (a-8))),a,.S d c f] (.need (0<=wrap .i64 (a-8)/\wrap .i64 (a-8)<(↑c:Int)) (.someA d fun e=>.store ((e.add ((wrap .i64 (a-8)).toNat*1)).add 0) (.int .u8 i) (.ag [.int .u64 (IntKind.wrap .u64 (Int.tdiv b 100000000)),.int .i64 (wrap .i64 (a-8))])))))))))) (fun j=>.unNil j (.rn [.int .u64 (IntKind.wrap .u64 (Int.tdiv b 100000000)),a])) fun n o=>.fail)) (fun j=>.unNil j (.rn [.int .u64 (IntKind.wrap .u64 (Int.tdiv b 100000000)),a])) fun n o=>.fail)) (fun j=>.unNil j (.rn [.int .u64 (IntKind.wrap .u64 (Int.tdiv b 100000000)),a])) fun n o=>.fail)))))))) else .bk [.int .u64 b,a])) (fun j=>.popI .u64 j fun b j=>.pi j fun a j=>.unNil j (.blk (bif decide (a>=4) then .need ((10000:Int)≠0) (.need ((10000:Int)≠0) (.need ((100:Int)≠0) (.need ((100:Int)≠0) (.blk (.both (.sem false (Instr.index 9 (.string { data:=List.toArray (List.append (List.append [48,48,48,49,48,50,48,51,48,52,48,53,48,54,48,55,48,56,48,57,49,48,49,49,49,50,49,51,49,52,49,53,49,54,49,55,49,56,49,57,50,48,50,49,50,50,50,51,50,52] [50,53,50,54,50,55,50,56,50,57,51,48,51,49,51,50,51,51,51,52,51,53,51,54,51,55,51,56,51,57,52,48,52,49,52,50,52,51,52,52,52,53,52,54,52,55,52,56,52,57]) (List.append [53,48,53,49,53,50,53,51,53,52,53,53,53,54,53,55,53,56,53,57,54,48,54,49,54,50,54,51,54,52,54,53,54,54,54,55,54,56,54,57,55,48,55,49,55,50,55,51,55,52] [55,53,55,54,55,55,55,56,55,57,56,48,56,49,56,50,56,51,56,52,56,53,56,54,56,55,56,56,56,57,57,48,57,49,57,50,57,51,57,52,57,53,57,54,57,55,57,56,57,57])) }) (.int .u32 (IntKind.wrap .u32 (IntKind.wrap .u32 (Int.tmod (Int.tmod (IntKind.wrap .u32 b) 10000) 100*2)+1)))) fun g=>.unI .u8 g fun i=>.nds [.val (.int .u32 (IntKind.wrap .u32 (Int.tmod (Int.tmod (IntKind.wrap .u32 b) 10000) 100*2))),.val (.int .u32 (IntKind.wrap .u32 (Int.tmod (Int.tmod (IntKind.wrap .u32 b) 10000) 100*2))),.val (.int .i64 (wrap .i64 (a-2))),a,.S d c f,.val (.int .i64 (wrap .i64 (a-1))),a,.S d c f] (.need (0<=wrap .i64 (a-1)/\wrap .i64 (a-1)<(↑c:Int)) (.someA d fun e=>.both (.sem false (Instr.index 9 (.string { data:=List.toArray (List.append (List.append [48,48,48,49,48,50,48,51,48,52,48,53,48,54,48,55,48,56,48,57,49,48,49,49,49,50,49,51,49,52,49,53,49,54,49,55,49,56,49,57,50,48,50,49,50,50,50,51,50,52] [50,53,50,54,50,55,50,56,50,57,51,48,51,49,51,50,51,51,51,52,51,53,51,54,51,55,51,56,51,57,52,48,52,49,52,50,52,51,52,52,52,53,52,54,52,55,52,56,52,57]) (List.append [53,48,53,49,53,50,53,51,53,52,53,53,53,54,53,55,53,56,53,57,54,48,54,49,54,50,54,51,54,52,54,53,54,54,54,55,54,56,54,57,55,48,55,49,55,50,55,51,55,52] [55,53,55,54,55,55,55,56,55,57,56,48,56,49,56,50,56,51,56,52,56,53,56,54,56,55,56,56,56,57,57,48,57,49,57,50,57,51,57,52,57,53,57,54,57,55,57,56,57,57])) }) (.int .u32 (IntKind.wrap .u32 (Int.tmod (Int.tmod (IntKind.wrap .u32 b) 10000) 100*2)))) fun g=>.unI .u8 g fun k=>.need (0<=wrap .i64 (a-1)/\wrap .i64 (a-1)<(↑c:Int)) (.someA d fun l=>.ne (.pointer (some (l.add ((wrap .i64 (a-1)).toNat*1)))) (.pointer (some (e.add ((wrap .i64 (a-1)).toNat*1)))) (.nds [.val (.int .u32 (IntKind.wrap .u32 (Int.tmod (Int.tmod (IntKind.wrap .u32 b) 10000) 100*2))),.val (.int .i64 (wrap .i64 (a-2))),a,.S d c f,.val (.int .i64 (wrap .i64 (a-1))),a,.S d c f] (.store ((e.add ((wrap .i64 (a-1)).toNat*1)).add 0) (.int .u8 i) (.nds [.val (.int .i64 (wrap .i64 (a-2))),a,.S d c f] (.need (0<=wrap .i64 (a-2)/\wrap .i64 (a-2)<(↑c:Int)) (.someA d fun e=>.store ((e.add ((wrap .i64 (a-2)).toNat*1)).add 0) (.int .u8 k) (.ag [])))))))) (.store ((e.add ((wrap .i64 (a-1)).toNat*1)).add 0) (.int .u8 i) (.nds [.val (.int .u32 (IntKind.wrap .u32 (Int.tmod (Int.tmod (IntKind.wrap .u32 b) 10000) 100*2))),.val (.int .i64 (wrap .i64 (a-2))),a,.S d c f] (.sem false (Instr.index 9 (.string { data:=List.toArray (List.append (List.append [48,48,48,49,48,50,48,51,48,52,48,53,48,54,48,55,48,56,48,57,49,48,49,49,49,50,49,51,49,52,49,53,49,54,49,55,49,56,49,57,50,48,50,49,50,50,50,51,50,52] [50,53,50,54,50,55,50,56,50,57,51,48,51,49,51,50,51,51,51,52,51,53,51,54,51,55,51,56,51,57,52,48,52,49,52,50,52,51,52,52,52,53,52,54,52,55,52,56,52,57]) (List.append [53,48,53,49,53,50,53,51,53,52,53,53,53,54,53,55,53,56,53,57,54,48,54,49,54,50,54,51,54,52,54,53,54,54,54,55,54,56,54,57,55,48,55,49,55,50,55,51,55,52] [55,53,55,54,55,55,55,56,55,57,56,48,56,49,56,50,56,51,56,52,56,53,56,54,56,55,56,56,56,57,57,48,57,49,57,50,57,51,57,52,57,53,57,54,57,55,57,56,57,57])) }) (.int .u32 (IntKind.wrap .u32 (Int.tmod (Int.tmod (IntKind.wrap .u32 b) 10000) 100*2)))) fun g=>.unI .u8 g fun b=>.nds [.val (.int .i64 (wrap .i64 (a-2))),a,.S d c f] (.need (0<=wrap .i64 (a-2)/\wrap .i64 (a-2)<(↑c:Int)) (.someA d fun e=>.store ((e.add ((wrap .i64 (a-2)).toNat*1)).add 0) (.int .u8 b) (.ag []))))))))) (.sem false (Instr.index 9 (.string { data:=List.toArray (List.append (List.append [48,48,48,49,48,50,48,51,48,52,48,53,48,54,48,55,48,56,48,57,49,48,49,49,49,50,49,51,49,52,49,53,49,54,49,55,49,56,49,57,50,48,50,49,50,50,50,51,50,52] [50,53,50,54,50,55,50,56,50,57,51,48,51,49,51,50,51,51,51,52,51,53,51,54,51,55,51,56,51,57,52,48,52,49,52,50,52,51,52,52,52,53,52,54,52,55,52,56,52,57]) (List.append [53,48,53,49,53,50,53,51,53,52,53,53,53,54,53,55,53,56,53,57,54,48,54,49,54,50,54,51,54,52,54,53,54,54,54,55,54,56,54,57,55,48,55,49,55,50,55,51,55,52] [55,53,55,54,55,55,55,56,55,57,56,48,56,49,56,50,56,51,56,52,56,53,56,54,56,55,56,56,56,57,57,48,57,49,57,50,57,51,57,52,57,53,57,54,57,55,57,56,57,57])) }) (.int .u32 (IntKind.wrap .u32 (Int.tmod (Int.tmod (IntKind.wrap .u32 b) 10000) 100*2)))) fun g=>.unI .u8 g fun i=>.nds [.val (.int .u32 (IntKind.wrap .u32 (IntKind.wrap .u32 (Int.tmod (Int.tmod (IntKind.wrap .u32 b) 10000) 100*2)+1))),.val (.int .u32 (IntKind.wrap .u32 (Int.tmod (Int.tmod (IntKind.wrap .u32 b) 10000) 100*2))),.val (.int .i64 (wrap .i64 (a-2))),a,.S d c f,.val (.int .i64 (wrap .i64 (a-1))),a,.S d c f] (.sem false (Instr.index 9 (.string { data:=List.toArray (List.append (List.append [48,48,48,49,48,50,48,51,48,52,48,53,48,54,48,55,48,56,48,57,49,48,49,49,49,50,49,51,49,52,49,53,49,54,49,55,49,56,49,57,50,48,50,49,50,50,50,51,50,52] [50,53,50,54,50,55,50,56,50,57,51,48,51,49,51,50,51,51,51,52,51,53,51,54,51,55,51,56,51,57,52,48,52,49,52,50,52,51,52,52,52,53,52,54,52,55,52,56,52,57]) (List.append [53,48,53,49,53,50,53,51,53,52,53,53,53,54,53,55,53,56,53,57,54,48,54,49,54,50,54,51,54,52,54,53,54,54,54,55,54,56,54,57,55,48,55,49,55,50,55,51,55,52] [55,53,55,54,55,55,55,56,55,57,56,48,56,49,56,50,56,51,56,52,56,53,56,54,56,55,56,56,56,57,57,48,57,49,57,50,57,51,57,52,57,53,57,54,57,55,57,56,57,57])) }) (.int .u32 (IntKind.wrap .u32 (IntKind.wrap .u32 (Int.tmod (Int.tmod (IntKind.wrap .u32 b) 10000) 100*2)+1)))) fun g=>.unI .u8 g fun k=>.nds [.val (.int .u32 (IntKind.wrap .u32 (Int.tmod (Int.tmod (IntKind.wrap .u32 b) 10000) 100*2))),.val (.int .i64 (wrap .i64 (a-2))),a,.S d c f,.val (.int .i64 (wrap .i64 (a-1))),a,.S d c f] (.need (0<=wrap .i64 (a-1)/\wrap .i64 (a-1)<(↑c:Int)) (.someA d fun e=>.store ((e.add ((wrap .i64 (a-1)).toNat*1)).add 0) (.int .u8 k) (.nds [.val (.int .i64 (wrap .i64 (a-2))),a,.S d c f] (.need (0<=wrap .i64 (a-2)/\wrap .i64 (a-2)<(↑c:Int)) (.someA d fun e=>.store ((e.add ((wrap .i64 (a-2)).toNat*1)).add 0) (.int .u8 i) (.ag []))))))))) (fun j=>.unNil j (.both (.sem false (Instr.index 9 (.string { data:=List.toArray (List.append (List.append [48,48,48,49,48,50,48,51,48,52,48,53,48,54,48,55,48,56,48,57,49,48,49,49,49,50,49,51,49,52,49,53,49,54,49,55,49,56,49,57,50,48,50,49,50,50,50,51,50,52] [50,53,50,54,50,55,50,56,50,57,51,48,51,49,51,50,51,51,51,52,51,53,51,54,51,55,51,56,51,57,52,48,52,49,52,50,52,51,52,52,52,53,52,54,52,55,52,56,52,57]) (List.append [53,48,53,49,53,50,53,51,53,52,53,53,53,54,53,55,53,56,53,57,54,48,54,49,54,50,54,51,54,52,54,53,54,54,54,55,54,56,54,57,55,48,55,49,55,50,55,51,55,52] [55,53,55,54,55,55,55,56,55,57,56,48,56,49,56,50,56,51,56,52,56,53,56,54,56,55,56,56,56,57,57,48,57,49,57,50,57,51,57,52,57,53,57,54,57,55,57,56,57,57])) }) (.int .u32 (IntKind.wrap .u32 (IntKind.wrap .u32 (IntKind.wrap .u32 (Int.tdiv (Int.tmod (IntKind.wrap .u32 b) 10000) 100)*2)+1)))) fun g=>.unI .u8 g fun i=>.nds [.val (.int .u32 (IntKind.wrap .u32 (IntKind.wrap .u32 (Int.tdiv (Int.tmod (IntKind.wrap .u32 b) 10000) 100)*2))),.val (.int .u32 (IntKind.wrap .u32 (IntKind.wrap .u32 (Int.tdiv (Int.tmod (IntKind.wrap .u32 b) 10000) 100)*2))),.val (.int .i64 (wrap .i64 (a-4))),a,.S d c f,.val (.int .i64 (wrap .i64 (a-3))),a,.S d c f] (.need (0<=wrap .i64 (a-3)/\wrap .i64 (a-3)<(↑c:Int)) (.someA d fun e=>.both (.sem false (Instr.index 9 (.string { data:=List.toArray (List.append (List.append [48,48,48,49,48,50,48,51,48,52,48,53,48,54,48,55,48,56,48,57,49,48,49,49,49,50,49,51,49,52,49,53,49,54,49,55,49,56,49,57,50,48,50,49,50,50,50,51,50,52] [50,53,50,54,50,55,50,56,50,57,51,48,51,49,51,50,51,51,51,52,51,53,51,54,51,55,51,56,51,57,52,48,52,49,52,50,52,51,52,52,52,53,52,54,52,55,52,56,52,57]) (List.append [53,48,53,49,53,50,53,51,53,52,53,53,53,54,53,55,53,56,53,57,54,48,54,49,54,50,54,51,54,52,54,53,54,54,54,55,54,56,54,57,55,48,55,49,55,50,55,51,55,52] [55,53,55,54,55,55,55,56,55,57,56,48,56,49,56,50,56,51,56,52,56,53,56,54,56,55,56,56,56,57,57,48,57,49,57,50,57,51,57,52,57,53,57,54,57,55,57,56,57,57])) }) (.int .u32 (IntKind.wrap .u32 (IntKind.wrap .u32 (Int.tdiv (Int.tmod (IntKind.wrap .u32 b) 10000) 100)*2)))) fun g=>.unI .u8 g fun k=>.need (0<=wrap .i64 (a-3)/\wrap .i64 (a-3)<(↑c:Int)) (.someA d fun l=>.ne (.pointer (some (l.add ((wrap .i64 (a-3)).toNat*1)))) (.pointer (some (e.add ((wrap .i64 (a-3)).toNat*1)))) (.nds [.val (.int .u32 (IntKind.wrap .u32 (IntKind.wrap .u32 (Int.tdiv (Int.tmod (IntKind.wrap .u32 b) 10000) 100)*2))),.val (.int .i64 (wrap .i64 (a-4))),a,.S d c f,.val (.int .i64 (wrap .i64 (a-3))),a,.S d c f] (.store ((e.add ((wrap .i64 (a-3)).toNat*1)).add 0) (.int .u8 i) (.nds [.val (.int .i64 (wrap .i64 (a-4))),a,.S d c f] (.need (0<=wrap .i64 (a-4)/\wrap .i64 (a-4)<(↑c:Int)) (.someA d fun e=>.store ((e.add ((wrap .i64 (a-4)).toNat*1)).add 0) (.int .u8 k) (.ag [.int .i64 (wrap .i64 (a-4)),.int .u32 (IntKind.wrap .u32 (Int.tdiv (IntKind.wrap .u32 b) 10000))])))))))) (.store ((e.add ((wrap .i64 (a-3)).toNat*1)).add 0) (.int .u8 i) (.nds [.val (.int .u32 (IntKind.wrap .u32 (IntKind.wrap .u32 (Int.tdiv (Int.tmod (IntKind.wrap .u32 b) 10000) 100)*2))),.val (.int .i64 (wrap .i64 (a-4))),a,.S d c f] (.sem false (Instr.index 9 (.string { data:=List.toArray (List.append (List.append [48,48,48,49,48,50,48,51,48,52,48,53,48,54,48,55,48,56,48,57,49,48,49,49,49,50,49,51,49,52,49,53,49,54,49,55,49,56,49,57,50,48,50,49,50,50,50,51,50,52] [50,53,50,54,50,55,50,56,50,57,51,48,51,49,51,50,51,51,51,52,51,53,51,54,51,55,51,56,51,57,52,48,52,49,52,50,52,51,52,52,52,53,52,54,52,55,52,56,52,57]) (List.append [53,48,53,49,53,50,53,51,53,52,53,53,53,54,53,55,53,56,53,57,54,48,54,49,54,50,54,51,54,52,54,53,54,54,54,55,54,56,54,57,55,48,55,49,55,50,55,51,55,52] [55,53,55,54,55,55,55,56,55,57,56,48,56,49,56,50,56,51,56,52,56,53,56,54,56,55,56,56,56,57,57,48,57,49,57,50,57,51,57,52,57,53,57,54,57,55,57,56,57,57])) }) (.int .u32 (IntKind.wrap .u32 (IntKind.wrap .u32 (Int.tdiv (Int.tmod (IntKind.wrap .u32 b) 10000) 100)*2)))) fun g=>.unI .u8 g fun k=>.nds [.val (.int .i64 (wrap .i64 (a-4))),a,.S d c f] (.need (0<=wrap .i64 (a-4)/\wrap .i64 (a-4)<(↑c:Int)) (.someA d fun e=>.store ((e.add ((wrap .i64 (a-4)).toNat*1)).add 0) (.int .u8 k) (.ag [.int .i64 (wrap .i64 (a-4)),.int .u32 (IntKind.wrap .u32 (Int.tdiv (IntKind.wrap .u32 b) 10000))]))))))))) (.sem false (Instr.index 9 (.string { data:=List.toArray (List.append (List.append [48,48,48,49,48,50,48,51,48,52,48,53,48,54,48,55,48,56,48,57,49,48,49,49,49,50,49,51,49,52,49,53,49,54,49,55,49,56,49,57,50,48,50,49,50,50,50,51,50,52] [50,53,50,54,50,55,50,56,50,57,51,48,51,49,51,50,51,51,51,52,51,53,51,54,51,55,51,56,51,57,52,48,52,49,52,50,52,51,52,52,52,53,52,54,52,55,52,56,52,57]) (List.append [53,48,53,49,53,50,53,51,53,52,53,53,53,54,53,55,53,56,53,57,54,48,54,49,54,50,54,51,54,52,54,53,54,54,54,55,54,56,54,57,55,48,55,49,55,50,55,51,55,52] [55,53,55,54,55,55,55,56,55,57,56,48,56,49,56,50,56,51,56,52,56,53,56,54,56,55,56,56,56,57,57,48,57,49,57,50,57,51,57,52,57,53,57,54,57,55,57,56,57,57])) }) (.int .u32 (IntKind.wrap .u32 (IntKind.wrap .u32 (Int.tdiv (Int.tmod (IntKind.wrap .u32 b) 10000) 100)*2)))) fun g=>.unI .u8 g fun i=>.nds [.val (.int .u32 (IntKind.wrap .u32 (IntKind.wrap .u32 (IntKind.wrap .u32 (Int.tdiv (Int.tmod (IntKind.wrap .u32 b) 10000) 100)*2)+1))),.val (.int .u32 (IntKind.wrap .u32 (IntKind.wrap .u32 (Int.tdiv (Int.tmod (IntKind.wrap .u32 b) 10000) 100)*2))),.val (.int .i64 (wrap .i64 (a-4))),a,.S d c f,.val (.int .i64 (wrap .i64 (a-3))),a,.S d c f] (.sem false (Instr.index 9 (.string { data:=List.toArray (List.append (List.append [48,48,48,49,48,50,48,51,48,52,48,53,48,54,48,55,48,56,48,57,49,48,49,49,49,50,49,51,49,52,49,53,49,54,49,55,49,56,49,57,50,48,50,49,50,50,50,51,50,52] [50,53,50,54,50,55,50,56,50,57,51,48,51,49,51,50,51,51,51,52,51,53,51,54,51,55,51,56,51,57,52,48,52,49,52,50,52,51,52,52,52,53,52,54,52,55,52,56,52,57]) (List.append [53,48,53,49,53,50,53,51,53,52,53,53,53,54,53,55,53,56,53,57,54,48,54,49,54,50,54,51,54,52,54,53,54,54,54,55,54,56,54,57,55,48,55,49,55,50,55,51,55,52] [55,53,55,54,55,55,55,56,55,57,56,48,56,49,56,50,56,51,56,52,56,53,56,54,56,55,56,56,56,57,57,48,57,49,57,50,57,51,57,52,57,53,57,54,57,55,57,56,57,57])) }) (.int .u32 (IntKind.wrap .u32 (IntKind.wrap .u32 (IntKind.wrap .u32 (Int.tdiv (Int.tmod (IntKind.wrap .u32 b) 10000) 100)*2)+1)))) fun g=>.unI .u8 g fun k=>.nds [.val (.int .u32 (IntKind.wrap .u32 (IntKind.wrap .u32 (Int.tdiv (Int.tmod (IntKind.wrap .u32 b) 10000) 100)*2))),.val (.int .i64 (wrap .i64 (a-4))),a,.S d c f,.val (.int .i64 (wrap .i64 (a-3))),a,.S d c f] (.need (0<=wrap .i64 (a-3)/\wrap .i64 (a-3)<(↑c:Int)) (.someA d fun e=>.store ((e.add ((wrap .i64 (a-3)).toNat*1)).add 0) (.int .u8 k) (.nds [.val (.int .i64 (wrap .i64 (a-4))),a,.S d c f] (.need (0<=wrap .i64 (a-4)/\wrap .i64 (a-4)<(↑c:Int)) (.someA d fun e=>.store ((e.add ((wrap .i64 (a-4)).toNat*1)).add 0) (.int .u8 i) (.ag [.int .i64 (wrap .i64 (a-4)),.int .u32 (IntKind.wrap .u32 (Int.tdiv (IntKind.wrap .u32 b) 10000))])))))))))) (fun j=>.unNil j (.rn [a,.int .u32 (IntKind.wrap .u32 (Int.tdiv (IntKind.wrap .u32 b) 10000))])) fun n o=>.fail)))) else .ag [a,.int .u32 (IntKind.wrap .u32 b)]) (fun j=>.pi j fun b j=>.popI .u32 j fun i j=>.unNil j (bif decide (b>=2) then .need ((100:Int)≠0) (.need ((100:Int)≠0) (.both (.sem false (Instr.index 9 (.string { data:=List.toArray (List.append (List.append [48,48,48,49,48,50,48,51,48,52,48,53,48,54,48,55,48,56,48,57,49,48,49,49,49,50,49,51,49,52,49,53,49,54,49,55,49,56,49,57,50,48,50,49,50,50,50,51,50,52] [50,53,50,54,50,55,50,56,50,57,51,48,51,49,51,50,51,51,51,52,51,53,51,54,51,55,51,56,51,57,52,48,52,49,52,50,52,51,52,52,52,53,52,54,52,55,52,56,52,57]) (List.append [53,48,53,49,53,50,53,51,53,52,53,53,53,54,53,55,53,56,53,57,54,48,54,49,54,50,54,51,54,52,54,53,54,54,54,55,54,56,54,57,55,48,55,49,55,50,55,51,55,52] [55,53,55,54,55,55,55,56,55,57,56,48,56,49,56,50,56,51,56,52,56,53,56,54,56,55,56,56,56,57,57,48,57,49,57,50,57,51,57,52,57,53,57,54,57,55,57,56,57,57])) }) (.int .u32 (IntKind.wrap .u32 (IntKind.wrap .u32 (Int.tmod i 100*2)+1)))) fun g=>.unI .u8 g fun k=>.nds [.val (.int .u32 (IntKind.wrap .u32 (Int.tmod i 100*2))),.val (.int .u32 (IntKind.wrap .u32 (Int.tmod i 100*2))),.val (.int .i64 (wrap .i64 (b-2))),b,.S d c f,.val (.int .i64 (wrap .i64 (b-1))),b,.S d c f] (.need (0<=wrap .i64 (b-1)/\wrap .i64 (b-1)<(↑c:Int)) (.someA d fun e=>.both (.sem false (Instr.index 9 (.string { data:=List.toArray (List.append (List.append [48,48,48,49,48,50,48,51,48,52,48,53,48,54,48,55,48,56,48,57,49,48,49,49,49,50,49,51,49,52,49,53,49,54,49,55,49,56,49,57,50,48,50,49,50,50,50,51,50,52] [50,53,50,54,50,55,50,56,50,57,51,48,51,49,51,50,51,51,51,52,51,53,51,54,51,55,51,56,51,57,52,48,52,49,52,50,52,51,52,52,52,53,52,54,52,55,52,56,52,57]) (List.append [53,48,53,49,53,50,53,51,53,52,53,53,53,54,53,55,53,56,53,57,54,48,54,49,54,50,54,51,54,52,54,53,54,54,54,55,54,56,54,57,55,48,55,49,55,50,55,51,55,52] [55,53,55,54,55,55,55,56,55,57,56,48,56,49,56,50,56,51,56,52,56,53,56,54,56,55,56,56,56,57,57,48,57,49,57,50,57,51,57,52,57,53,57,54,57,55,57,56,57,57])) }) (.int .u32 (IntKind.wrap .u32 (Int.tmod i 100*2)))) fun g=>.unI .u8 g fun m=>.need (0<=wrap .i64 (b-1)/\wrap .i64 (b-1)<(↑c:Int)) (.someA d fun l=>.ne (.pointer (some (l.add ((wrap .i64 (b-1)).toNat*1)))) (.pointer (some (e.add ((wrap .i64 (b-1)).toNat*1)))) (.nds [.val (.int .u32 (IntKind.wrap .u32 (Int.tmod i 100*2))),.val (.int .i64 (wrap .i64 (b-2))),b,.S d c f,.val (.int .i64 (wrap .i64 (b-1))),b,.S d c f] (.store ((e.add ((wrap .i64 (b-1)).toNat*1)).add 0) (.int .u8 k) (.nds [.val (.int .i64 (wrap .i64 (b-2))),b,.S d c f] (.need (0<=wrap .i64 (b-2)/\wrap .i64 (b-2)<(↑c:Int)) (.someA d fun e=>.store ((e.add ((wrap .i64 (b-2)).toNat*1)).add 0) (.int .u8 m) (bif decide (wrap .i64 (b-2)>0) then .need ((0:Int)<=0/\0<(↑c:Int)) (.someA d fun e=>.store ((e.add 0).add 0) (.int .u8 (IntKind.wrap .u8 (IntKind.wrap .u32 (48+IntKind.wrap .u32 (Int.tdiv i 100))))) (.rt (.tuple #[]))) else .rt (.tuple #[]))))))))) (.store ((e.add ((wrap .i64 (b-1)).toNat*1)).add 0) (.int .u8 k) (.nds [.val (.int .u32 (IntKind.wrap .u32 (Int.tmod i 100*2))),.val (.int .i64 (wrap .i64 (b-2))),b,.S d c f] (.sem false (Instr.index 9 (.string { data:=List.toArray (List.append (List.append [48,48,48,49,48,50,48,51,48,52,48,53,48,54,48,55,48,56,48,57,49,48,49,49,49,50,49,51,49,52,49,53,49,54,49,55,49,56,49,57,50,48,50,49,50,50,50,51,50,52] [50,53,50,54,50,55,50,56,50,57,51,48,51,49,51,50,51,51,51,52,51,53,51,54,51,55,51,56,51,57,52,48,52,49,52,50,52,51,52,52,52,53,52,54,52,55,52,56,52,57]) (List.append [53,48,53,49,53,50,53,51,53,52,53,53,53,54,53,55,53,56,53,57,54,48,54,49,54,50,54,51,54,52,54,53,54,54,54,55,54,56,54,57,55,48,55,49,55,50,55,51,55,52] [55,53,55,54,55,55,55,56,55,57,56,48,56,49,56,50,56,51,56,52,56,53,56,54,56,55,56,56,56,57,57,48,57,49,57,50,57,51,57,52,57,53,57,54,57,55,57,56,57,57])) }) (.int .u32 (IntKind.wrap .u32 (Int.tmod i 100*2)))) fun g=>.unI .u8 g fun m=>.nds [.val (.int .i64 (wrap .i64 (b-2))),b,.S d c f] (.need (0<=wrap .i64 (b-2)/\wrap .i64 (b-2)<(↑c:Int)) (.someA d fun e=>.store ((e.add ((wrap .i64 (b-2)).toNat*1)).add 0) (.int .u8 m) (bif decide (wrap .i64 (b-2)>0) then .need ((0:Int)<=0/\0<(↑c:Int)) (.someA d fun e=>.store ((e.add 0).add 0) (.int .u8 (IntKind.wrap .u8 (IntKind.wrap .u32 (48+IntKind.wrap .u32 (Int.tdiv i 100))))) (.rt (.tuple #[]))) else .rt (.tuple #[])))))))))) (.sem false (Instr.index 9 (.string { data:=List.toArray (List.append (List.append [48,48,48,49,48,50,48,51,48,52,48,53,48,54,48,55,48,56,48,57,49,48,49,49,49,50,49,51,49,52,49,53,49,54,49,55,49,56,49,57,50,48,50,49,50,50,50,51,50,52] [50,53,50,54,50,55,50,56,50,57,51,48,51,49,51,50,51,51,51,52,51,53,51,54,51,55,51,56,51,57,52,48,52,49,52,50,52,51,52,52,52,53,52,54,52,55,52,56,52,57]) (List.append [53,48,53,49,53,50,53,51,53,52,53,53,53,54,53,55,53,56,53,57,54,48,54,49,54,50,54,51,54,52,54,53,54,54,54,55,54,56,54,57,55,48,55,49,55,50,55,51,55,52] [55,53,55,54,55,55,55,56,55,57,56,48,56,49,56,50,56,51,56,52,56,53,56,54,56,55,56,56,56,57,57,48,57,49,57,50,57,51,57,52,57,53,57,54,57,55,57,56,57,57])) }) (.int .u32 (IntKind.wrap .u32 (Int.tmod i 100*2)))) fun g=>.unI .u8 g fun k=>.nds [.val (.int .u32 (IntKind.wrap .u32 (IntKind.wrap .u32 (Int.tmod i 100*2)+1))),.val (.int .u32 (IntKind.wrap .u32 (Int.tmod i 100*2))),.val (.int .i64 (wrap .i64 (b-2))),b,.S d c f,.val (.int .i64 (wrap .i64 (b-1))),b,.S d c f] (.sem false (Instr.index 9 (.string { data:=List.toArray (List.append (List.append [48,48,48,49,48,50,48,51,48,52,48,53,48,54,48,55,48,56,48,57,49,48,49,49,49,50,49,51,49,52,49,53,49,54,49,55,49,56,49,57,50,48,50,49,50,50,50,51,50,52] [50,53,50,54,50,55,50,56,50,57,51,48,51,49,51,50,51,51,51,52,51,53,51,54,51,55,51,56,51,57,52,48,52,49,52,50,52,51,52,52,52,53,52,54,52,55,52,56,52,57]) (List.append [53,48,53,49,53,50,53,51,53,52,53,53,53,54,53,55,53,56,53,57,54,48,54,49,54,50,54,51,54,52,54,53,54,54,54,55,54,56,54,57,55,48,55,49,55,50,55,51,55,52] [55,53,55,54,55,55,55,56,55,57,56,48,56,49,56,50,56,51,56,52,56,53,56,54,56,55,56,56,56,57,57,48,57,49,57,50,57,51,57,52,57,53,57,54,57,55,57,56,57,57])) }) (.int .u32 (IntKind.wrap .u32 (IntKind.wrap .u32 (Int.tmod i 100*2)+1)))) fun g=>.unI .u8 g fun m=>.nds [.val (.int .u32 (IntKind.wrap .u32 (Int.tmod i 100*2))),.val (.int .i64 (wrap .i64 (b-2))),b,.S d c f,.val (.int .i64 (wrap .i64 (b-1))),b,.S d c f] (.need (0<=wrap .i64 (b-1)/\wrap .i64 (b-1)<(↑c:Int)) (.someA d fun e=>.store ((e.add ((wrap .i64 (b-1)).toNat*1)).add 0) (.int .u8 m) (.nds [.val (.int .i64 (wrap .i64 (b-2))),b,.S d c f] (.need (0<=wrap .i64 (b-2)/\wrap .i64 (b-2)<(↑c:Int)) (.someA d fun e=>.store ((e.add ((wrap .i64 (b-2)).toNat*1)).add 0) (.int .u8 k) (bif decide (wrap .i64 (b-2)>0) then .need ((0:Int)<=0/\0<(↑c:Int)) (.someA d fun e=>.store ((e.add 0).add 0) (.int .u8 (IntKind.wrap .u8 (IntKind.wrap .u32 (48+IntKind.wrap .u32 (Int.tdiv i 100))))) (.rt (.tuple #[]))) else .rt (.tuple #[]))))))))))) else bif decide (b>0) then .need ((0:Int)<=0/\0<(↑c:Int)) (.someA d fun e=>.store ((e.add 0).add 0) (.int .u8 (IntKind.wrap .u8 (IntKind.wrap .u32 (48+i)))) (.rt (.tuple #[]))) else .rt (.tuple #[]))) (fun j=>.pi j fun b j=>.popI .u32 j fun b j=>.unNil j (.rt (.tuple #[]))) fun n o=>.fail)) (fun j=>.popI .u64 j fun b j=>.pi j fun b j=>.unNil j (.rt (.tuple #[]))) fun n o=>.fail
theorem w3784(ap:Option Addr)(an ac:Nat)(u:Int):FX X 200 #[.slice ap an ac,.int .u64 u] h A (n3784 ap an ac u):=fk [] [⟨0,[(1,.int .u64),(4,.int .i64)],[],[],[],[]⟩] [⟨10,[],[],[],[],[]⟩,⟨9,[],[],[],[],[]⟩,⟨8,[],[],[],[],[]⟩,⟨18,[],[],[],[],[]⟩,⟨20,[(4,.int .i64),(12,.int .u32)],[],[],[],[]⟩] Tryz.f200
theorem w3794:FX X 219 #[a] h A (.need ((0:Int)<=18) (.rt (.int .i64 (Int.fdiv (wrap .i64 (a*78913)) (2^18))))):=fk [] [] [] Tryz.f219
theorem w3795{a:Bool}:FX X 221 #[a] h A (bif a then .rt (.int .i64 1) else .rt (.int .i64 0)):=fk [] [] [] Tryz.f221
theorem w3771{b:ByteArray}:FX X 156 #[.string b] h A (.cT 186 #[.string b] fun a c=>.ui a fun d=>.unCons c fun a c=>.unNil c (.sem false (Sem.bind (eqGuard BinOp.neq 83 (Operand.tmp 11) (Operand.const .nilIface) a .nilIface) fun g=>binOp BinOp.neq 83 a .nilIface) fun f=>.unB f fun e=>bif e then .cl 187 #[.string { data:=#[65,116,111,105] },.string b,.int .i64 0,.int .i64 0,a] fun a=>.rt (.tuple #[d,a]) else .rt (.tuple #[d,.nilIface]))):=fk [] [] [] Tryz.f156
theorem w3780{d:ByteArray}:FX X 186 #[.string d] h A (.sem false (Builtin.len_ #[9] 3 #[.string d]) fun b=>.ui b fun c=>.blk (bif decide (0<c) then .ag [.bool (decide (c<19))] else .ag [false]) (fun a=>.popB a fun j a=>.unNil a (bif j then .blk (.sem false (Instr.index 9 (.string d) (.int .i64 0)) fun b=>.unI .u8 b fun c=>bif c==45 then .sem false (Instr.sliceAt 9 (.string d) (some (.int .i64 1)) none none) fun i=>.unStr i fun d=>.sem false (Builtin.len_ #[9] 3 #[.string d]) fun b=>.ui b fun c=>bif decide (c<1) then .rn [.string d,.int .i64 0,.iface 303 (.int .i64 2)] else .ag [.string d,.int .i64 0,.nilIface] else .sem false (Instr.index 9 (.string d) (.int .i64 0)) fun b=>.unI .u8 b fun c=>bif c==43 then .sem false (Instr.sliceAt 9 (.string d) (some (.int .i64 1)) none none) fun i=>.unStr i fun d=>.sem false (Builtin.len_ #[9] 3 #[.string d]) fun b=>.ui b fun c=>bif decide (c<1) then .rn [.string d,.int .i64 0,.iface 303 (.int .i64 2)] else .ag [.string d,.int .i64 0,.nilIface] else .ag [.string d,.int .i64 0,.nilIface]) (fun a=>.popStr a fun o a=>.pi a fun c a=>.popV a fun b a=>.unNil a (.sem false (convert 9 78 (.string o)) fun p=>.unS p fun g k q=>.loop [c,b,.int .i64 0,.int .i64 0] (fun a=>.pi a fun c a=>.popV a fun b a=>.pi a fun f a=>.pi a fun e a=>.unNil a (bif decide (e<(↑k:Int)) then .need (0<=e/\e<(↑k:Int)) (.someA g fun g=>.loadI .u8 (g.add (e.toNat*1)) fun l=>bif decide (IntKind.wrap .u8 (l-48)>9) then .rn [.int .i64 0,.iface 303 (.int .i64 2),f,e] else .ag [c,b,.int .i64 (wrap .i64 (wrap .i64 (f*10)+wrap .i64 (IntKind.wrap .u8 (l-48)))),.int .i64 (wrap .i64 (e+1))]) else .bk [c,b,f,e])) (fun a=>.pi a fun c a=>.popV a fun b a=>.pi a fun c a=>.pi a fun f a=>.unNil a (.sem false (Instr.index 9 (.string d) (.int .i64 0)) fun b=>.unI .u8 b fun e=>bif e==45 then .sem false (Op.unary UnOp.neg (.int .i64 c)) fun b=>.rt (.tuple #[b,.nilIface]) else .rt (.tuple #[c,.nilIface]))) (fun a=>.pi a fun c a=>.popV a fun b a=>.pi a fun f a=>.pi a fun e a=>.unNil a (.rt (.tuple #[c,b]))) fun m n=>.fail)) (fun a=>.popStr a fun d a=>.pi a fun c a=>.popV a fun b a=>.unNil a (.rt (.tuple #[c,b]))) fun m n=>.fail else .cT 211 #[.string d,.int .i64 10,.int .i64 0] fun b a=>.ui b fun c=>.unCons a fun b a=>.unNil a (.rt (.tuple #[c,b])))) (fun a=>.popB a fun j a=>.unNil a (.rt (.tuple #[.int .i64 0,.nilIface]))) fun m n=>.fail):=fk [] [⟨0,[(2,.int .i64),(3,.any),(6,.int .i64),(49,.int .i64)],[],[],[],[]⟩] [⟨8,[(0,.str),(2,.int .i64),(3,.any)],[],[],[],[]⟩,⟨2000030,[(30,.bool)],[],[],[],[]⟩] Tryz.f186
end Go.Y
end
section
namespace Go.TM.Tp
open Go.Lib (decDigits)
def Yv:Bs:=[48,49,50,51,52,53,54,55,56,57,97,98,99,100,101,102,103,104,105,106,107,108,109,110,111,112,113,114,115,116,117,118,119,120,121,122]
def two(n:Nat):Bs:=[UInt8.ofNat (48+n / 10),UInt8.ofNat (48+n%10)]
def J4:Bs:=List.append (List.append [48,48,48,49,48,50,48,51,48,52,48,53,48,54,48,55,48,56,48,57,49,48,49,49,49,50,49,51,49,52,49,53,49,54,49,55,49,56,49,57,50,48,50,49,50,50,50,51,50,52] [50,53,50,54,50,55,50,56,50,57,51,48,51,49,51,50,51,51,51,52,51,53,51,54,51,55,51,56,51,57,52,48,52,49,52,50,52,51,52,52,52,53,52,54,52,55,52,56,52,57]) (List.append [53,48,53,49,53,50,53,51,53,52,53,53,53,54,53,55,53,56,53,57,54,48,54,49,54,50,54,51,54,52,54,53,54,54,54,55,54,56,54,57,55,48,55,49,55,50,55,51,55,52] [55,53,55,54,55,55,55,56,55,57,56,48,56,49,56,50,56,51,56,52,56,53,56,54,56,55,56,56,56,57,57,48,57,49,57,50,57,51,57,52,57,53,57,54,57,55,57,56,57,57])
theorem dig_one':∀ n<10,(Yv.take (n+1)).drop n=[UInt8.ofNat (48+n)]:=by decide
theorem dig_one(n:Nat)(h:n<10):(Yv.take (n+1)).drop n=decDigits n:=by rw[dig_one' n h,Um h]
theorem small_len:J4.length=200:=by decide
theorem small_two:∀ n<100,(J4.take (2*n+2)).drop (2*n)=two n:=by decide
theorem dig_two(n:Nat)(h:n<100)(h2:10<=n):two n=decDigits n:=by
 rw[Ua (by omega),Um (by omega)];rfl
end Go.TM.Tp
namespace Go.Y.Txt
open Go.TM.Tp
open Go.Lib (decDigits)
attribute [local irreducible] T.wp CV FWK
variable {h:LH}
theorem c3782(n:Nat)(a:n<100):Pu Tryz.prog 198 #[n] h (.string (str (decDigits n))):=by
 refine w3782 Qr ?_;have w1:wrap .i64 ((n:Int)+1)=((n+1:Nat):Int):=by rw[Qo (by omega) (by omega)];rfl
 have w2:wrap .i64 ((n:Int)*2)=((2*n:Nat):Int):=by rw[Qo (by omega) (by omega)];omega
 have w3:wrap .i64 (((2*n:Nat):Int)+2)=((2*n+2:Nat):Int):=by rw[Qo (by omega) (by omega)];omega
 rw[w1,w2,w3];refine t_if (fun e=>?_) (fun e=>?_)
 ·refine t_sliceB (l:=Yv) undS (by omega) (by simp[Yv];omega) ?_;refine Qx ?_;refine gZ ?_;rw[dig_one n (by omega)];exact Qn ⟨rfl,rfl⟩
 ·refine t_sliceB (l:=J4) undS (by omega) (by rw[small_len];omega) ?_;refine Qx ?_;refine gZ ?_;rw[small_two n a,dig_two n a (by omega)];exact Qn ⟨rfl,rfl⟩
theorem c3794(n:Nat)(a:n<=64):Pu Tryz.prog 219 #[n] h (.int .i64 ((n*78913 / 2^18:Nat):Int)):=by
 refine w3794 Qr ?_;refine gT (by decide) ?_;refine Qn ⟨?_,rfl⟩;rw[Qo (by omega) (by omega),Int.fdiv_eq_ediv_of_nonneg _ (by omega)];congr 1
theorem c3795(b:Bool):Pu Tryz.prog 221 #[.bool b] h (.int .i64 (if b then 1 else 0)):=by
 refine w3795 Qr ?_;refine Qt (fun e=>?_) (fun e=>?_)
 ·rw[e];exact Qn ⟨rfl,rfl⟩
 ·rw[e];exact Qn ⟨rfl,rfl⟩
end Go.Y.Txt
end
section
namespace Go.Y
set_option maxHeartbeats 0
set_option linter.unusedVariables false
variable {X:XP} {h:LH} {A:Value->LH->Prop}
variable {a b c d e f g i j k l m:Int}{n o p q r s t u v w x y z:Nat}{B C D E F G H I J K L M:Option Addr}
theorem w2092:FX X 191 #[.slice B n o] h A (.cI 218 #[.int .u64 (IntKind.wrap .u64 (↑n:Int))] fun b=>.cl 217 #[.slice B n o,.int .i64 0,.int .i64 (↑n:Int),b] fun c=>.unTup c fun a=>.unNil a (.rt (.tuple #[]))):=fk [] [] [] Tryz.f191
theorem w2101:FX X 217 #[.slice B n o,a,b,c] h A (.loop [a,b,c,true,true] (fun d=>.pi d fun e d=>.pi d fun f d=>.pi d fun q d=>.popB d fun b d=>.popB d fun m d=>.unNil d (bif decide (wrap .i64 (f-e)<=12) then .cl 231 #[.slice B n o,e,f] fun g=>.unTup g fun i=>.unNil i (.rn [e,f,q,b,m]) else bif q==0 then .cl 232 #[.slice B n o,e,f] fun g=>.unTup g fun i=>.unNil i (.rn [e,f,q,b,m]) else .blk (bif !b then .cl 233 #[.slice B n o,e,f] fun g=>.unTup g fun i=>.unNil i (.ag [.int .i64 (wrap .i64 (q-1))]) else .ag [q]) (fun d=>.pi d fun k d=>.unNil d (.cT 234 #[.slice B n o,e,f] fun g d=>.ui g fun u=>.unCons d fun g d=>.ui g fun v=>.unNil d (.blk (bif v==2 then .cl 235 #[.slice B n o,e,f] fun g=>.unTup g fun i=>.unNil i (.ag [.int .i64 (wrap .i64 (wrap .i64 (f-1)-wrap .i64 (u-e))),.int .i64 1]) else .ag [u,v]) (fun d=>.pi d fun j d=>.pi d fun w d=>.unNil d (.blk (bif b then bif m then bif w==1 then .cB 236 #[.slice B n o,e,f] fun b=>bif b then .rn [] else .ag [] else .ag [] else .ag [] else .ag []) (fun d=>.unNil d (.blk (bif decide (e>0) then .need (0<=wrap .i64 (e-1)/\wrap .i64 (e-1)<(↑n:Int)) (.someA B fun a=>.li (a.add ((wrap .i64 (e-1)).toNat*1)) fun p=>.need (0<=j/\j<(↑n:Int)) (.someA B fun t=>.li (t.add (j.toNat*1)) fun l=>.cB 237 #[p,l] fun b=>.need (0<=j/\j<(↑n:Int)) (.someA B fun x=>.ne (.pointer (some (x.add (j.toNat*1)))) (.pointer (some (t.add (j.toNat*1)))) (.nds [j,.S B n o] (.need (0<=wrap .i64 (e-1)/\wrap .i64 (e-1)<(↑n:Int)) (.someA B fun y=>.ne (.pointer (some (y.add ((wrap .i64 (e-1)).toNat*1)))) (.pointer (some (a.add ((wrap .i64 (e-1)).toNat*1)))) (.nds [.val (.int .i64 (wrap .i64 (e-1))),e,.S B n o,.B (decide (e>0)),e] (bif !b then .cI 238 #[.slice B n o,e,f,j] fun e=>.leaf (.out 1 [e]) else .ag [e])))))))) else .nds [.U,.U,.U,.U,.U,.B (decide (e>0)),e,.U,.U,.U,.U,.U,.B (decide (e>0)),e,.U,.U,.U,.U,.U,.B (decide (e>0)),e] (.ag [e])) (fun d=>.pi d fun p d=>.unNil d (.cT 239 #[.slice B n o,p,f,j] fun g d=>.ui g fun l=>.unCons d fun g d=>.unB g fun b=>.unNil d (.need ((8:Int)≠0) (bif decide (wrap .i64 (l-p)<wrap .i64 (f-l)) then .cl 217 #[.slice B n o,p,l,k] fun g=>.unTup g fun i=>.unNil i (.ag [.int .i64 (wrap .i64 (l+1)),f,k,.bool (decide (wrap .i64 (l-p)>=wrap .i64 (Int.tdiv (wrap .i64 (f-e)) 8))),b]) else .cl 217 #[.slice B n o,.int .i64 (wrap .i64 (l+1)),f,k] fun g=>.unTup g fun i=>.unNil i (.ag [p,l,k,.bool (decide (wrap .i64 (f-l)>=wrap .i64 (Int.tdiv (wrap .i64 (f-e)) 8))),b]))))) (fun d=>.pi d fun e d=>.unNil d (.rn [e,f,k,b,m])) fun r s=>bif Nat.beq r 1 then .pi s fun e d=>.unNil d (.ag [e,f,k,b,m]) else .fail)) (fun d=>.unNil d (.rn [e,f,k,b,m])) fun r s=>.fail)) (fun d=>.pi d fun j d=>.pi d fun w d=>.unNil d (.rn [e,f,k,b,m])) fun r s=>.fail))) (fun d=>.pi d fun k d=>.unNil d (.rn [e,f,k,b,m])) fun r s=>.fail)) (fun d=>.pi d fun e d=>.pi d fun e d=>.pi d fun e d=>.popB d fun b d=>.popB d fun b d=>.unNil d (.rt (.tuple #[]))) (fun d=>.pi d fun e d=>.pi d fun e d=>.pi d fun e d=>.popB d fun b d=>.popB d fun b d=>.unNil d (.rt (.tuple #[]))) fun r s=>.fail):=fk [] [⟨0,[(1,.int .i64),(2,.int .i64),(3,.int .i64),(8,.bool),(9,.bool)],[],[],[],[]⟩] [⟨20,[(1,.int .i64)],[],[1],[],[]⟩,⟨17,[],[],[],[],[]⟩,⟨15,[(11,.int .i64),(12,.int .i64)],[],[],[],[]⟩,⟨10,[(3,.int .i64)],[],[],[],[]⟩] Tryz.f217
theorem w2102:FX X 218 #[.int .u64 a] h A (.cI 220 #[.int .u64 a] fun b=>.rt (.int .i64 b)):=fk [] [] [] Tryz.f218
theorem w2105:FX X 231 #[.slice B n o,a,b] h A (.loop [.int .i64 (wrap .i64 (a+1))] (fun d=>.pi d fun c d=>.unNil d (bif decide (c<b) then .loop [c] (fun d=>.pi d fun c d=>.unNil d (.blk (bif decide (c>a) then .need (0<=c/\c<(↑n:Int)) (.someA B fun f=>.li (f.add (c.toNat*1)) fun e=>.need (0<=wrap .i64 (c-1)/\wrap .i64 (c-1)<(↑n:Int)) (.someA B fun g=>.li (g.add ((wrap .i64 (c-1)).toNat*1)) fun i=>.cB 237 #[e,i] fun b=>.need (0<=wrap .i64 (c-1)/\wrap .i64 (c-1)<(↑n:Int)) (.someA B fun l=>.ne (.pointer (some (l.add ((wrap .i64 (c-1)).toNat*1)))) (.pointer (some (g.add ((wrap .i64 (c-1)).toNat*1)))) (.nds [.val (.int .i64 (wrap .i64 (c-1))),c,.S B n o] (.need (0<=c/\c<(↑n:Int)) (.someA B fun m=>.ne (.pointer (some (m.add (c.toNat*1)))) (.pointer (some (f.add (c.toNat*1)))) (.nds [c,.S B n o,.B (decide (c>a)),a,c] (bif b then .ag [] else .leaf (.out 2 []))))))))) else .nds [.U,.U,.U,.U,.U,.B (decide (c>a)),a,c,.U,.U,.U,.U,.U,.B (decide (c>a)),a,c] (.leaf (.out 2 []))) (fun d=>.unNil d (.need (0<=wrap .i64 (c-1)/\wrap .i64 (c-1)<(↑n:Int)) (.someA B fun a=>.li (a.add ((wrap .i64 (c-1)).toNat*1)) fun e=>.need (0<=c/\c<(↑n:Int)) (.someA B fun a=>.li (a.add (c.toNat*1)) fun i=>.need (0<=c/\c<(↑n:Int)) (.someA B fun f=>.store ((f.add (c.toNat*1)).add 0) (.int .i64 e) (.need (0<=c/\c<(↑n:Int)) (.someA B fun g=>.ne (.pointer (some (g.add (c.toNat*1)))) (.pointer (some (a.add (c.toNat*1)))) (.nds [c,.S B n o,.val (.int .i64 (wrap .i64 (c-1))),c,.S B n o] (.need (0<=wrap .i64 (c-1)/\wrap .i64 (c-1)<(↑n:Int)) (.someA B fun a=>.store ((a.add ((wrap .i64 (c-1)).toNat*1)).add 0) (.int .i64 i) (.ag [.int .i64 (wrap .i64 (c-1))]))))))))))) (fun d=>.unNil d (.rn [c])) fun j k=>bif Nat.beq j 2 then .unNil k (.bk [c]) else .fail)) (fun d=>.pi d fun e d=>.unNil d (.ag [.int .i64 (wrap .i64 (c+1))])) (fun d=>.pi d fun e d=>.unNil d (.rn [c])) fun j k=>.fail else .bk [c])) (fun d=>.pi d fun c d=>.unNil d (.rt (.tuple #[]))) (fun d=>.pi d fun c d=>.unNil d (.rt (.tuple #[]))) fun j k=>.fail):=fk [] [⟨2,[(7,.int .i64)],[],[],[],[]⟩,⟨0,[(6,.int .i64)],[],[],[],[]⟩] [⟨6,[],[],[2],[],[]⟩] Tryz.f231
theorem w2111:FX X 237 #[a,b] h A (.cB 197 #[a] fun c=>bif c then .cB 197 #[b] fun c=>bif !c then .rt (.bool true) else .rt (.bool (decide (a<b))) else .rt (.bool (decide (a<b)))):=fk [] [] [] Tryz.f237
def n2115(c:Int):T:=.blk (bif decide (c>=4294967296) then .need ((0:Int)<=32) (.ag [.int .u64 (Int.fdiv c (2^32)),.int .i64 32]) else .ag [.int .u64 c,.int .i64 0]) (fun a=>.popI .u64 a fun b a=>.pi a fun e a=>.unNil a (.blk (bif decide (b>=65536) then .need ((0:Int)<=16) (.ag [.int .u64 (Int.fdiv b (2^16)),.int .i64 (wrap .i64 (e+16))]) else .ag [.int .u64 b,e]) (fun a=>.popI .u64 a fun b a=>.pi a fun f a=>.unNil a (bif decide (b>=256) then .need ((0:Int)<=8) (.sem false (Instr.index 9 (.string { data:=List.toArray (List.append (List.append [0,1,2,2,3,3,3,3,4,4,4,4,4,4,4,4,5,5,5,5,5,5,5,5,5,5,5,5,5,5,5,5,6,6,6,6,6,6,6,6,6,6,6,6,6,6,6,6,6,6,6,6,6,6,6,6,6,6,6,6,6,6,6,6] [7,7,7,7,7,7,7,7,7,7,7,7,7,7,7,7,7,7,7,7,7,7,7,7,7,7,7,7,7,7,7,7,7,7,7,7,7,7,7,7,7,7,7,7,7,7,7,7,7,7,7,7,7,7,7,7,7,7,7,7,7,7,7,7]) (List.append [8,8,8,8,8,8,8,8,8,8,8,8,8,8,8,8,8,8,8,8,8,8,8,8,8,8,8,8,8,8,8,8,8,8,8,8,8,8,8,8,8,8,8,8,8,8,8,8,8,8,8,8,8,8,8,8,8,8,8,8,8,8,8,8] [8,8,8,8,8,8,8,8,8,8,8,8,8,8,8,8,8,8,8,8,8,8,8,8,8,8,8,8,8,8,8,8,8,8,8,8,8,8,8,8,8,8,8,8,8,8,8,8,8,8,8,8,8,8,8,8,8,8,8,8,8,8,8,8])) }) (.int .u8 (IntKind.wrap .u8 (Int.fdiv b (2^8))))) fun d=>.unI .u8 d fun b=>.rt (.int .i64 (wrap .i64 (wrap .i64 (f+8)+wrap .i64 b)))) else .sem false (Instr.index 9 (.string { data:=List.toArray (List.append (List.append [0,1,2,2,3,3,3,3,4,4,4,4,4,4,4,4,5,5,5,5,5,5,5,5,5,5,5,5,5,5,5,5,6,6,6,6,6,6,6,6,6,6,6,6,6,6,6,6,6,6,6,6,6,6,6,6,6,6,6,6,6,6,6,6] [7,7,7,7,7,7,7,7,7,7,7,7,7,7,7,7,7,7,7,7,7,7,7,7,7,7,7,7,7,7,7,7,7,7,7,7,7,7,7,7,7,7,7,7,7,7,7,7,7,7,7,7,7,7,7,7,7,7,7,7,7,7,7,7]) (List.append [8,8,8,8,8,8,8,8,8,8,8,8,8,8,8,8,8,8,8,8,8,8,8,8,8,8,8,8,8,8,8,8,8,8,8,8,8,8,8,8,8,8,8,8,8,8,8,8,8,8,8,8,8,8,8,8,8,8,8,8,8,8,8,8] [8,8,8,8,8,8,8,8,8,8,8,8,8,8,8,8,8,8,8,8,8,8,8,8,8,8,8,8,8,8,8,8,8,8,8,8,8,8,8,8,8,8,8,8,8,8,8,8,8,8,8,8,8,8,8,8,8,8,8,8,8,8,8,8])) }) (.int .u8 (IntKind.wrap .u8 b))) fun d=>.unI .u8 d fun b=>.rt (.int .i64 (wrap .i64 (f+wrap .i64 b))))) (fun a=>.popI .u64 a fun b a=>.pi a fun b a=>.unNil a (.rt (.int .i64 b))) fun c g=>.fail)) (fun a=>.popI .u64 a fun b a=>.pi a fun b a=>.unNil a (.rt (.int .i64 b))) fun c g=>.fail
theorem w2115(x:Int):FX X 220 #[.int .u64 x] h A (n2115 x):=fk [] [] [⟨7,[(0,.int .u64),(2,.int .i64)],[],[],[],[]⟩,⟨4,[(0,.int .u64),(2,.int .i64)],[],[],[],[]⟩] Tryz.f220
end Go.Y
end
section
namespace Go.TM.Tp
open Go.Lib (decDigits)
def len8:Bs:=List.append (List.append [0,1,2,2,3,3,3,3,4,4,4,4,4,4,4,4,5,5,5,5,5,5,5,5,5,5,5,5,5,5,5,5,6,6,6,6,6,6,6,6,6,6,6,6,6,6,6,6,6,6,6,6,6,6,6,6,6,6,6,6,6,6,6,6] [7,7,7,7,7,7,7,7,7,7,7,7,7,7,7,7,7,7,7,7,7,7,7,7,7,7,7,7,7,7,7,7,7,7,7,7,7,7,7,7,7,7,7,7,7,7,7,7,7,7,7,7,7,7,7,7,7,7,7,7,7,7,7,7]) (List.append [8,8,8,8,8,8,8,8,8,8,8,8,8,8,8,8,8,8,8,8,8,8,8,8,8,8,8,8,8,8,8,8,8,8,8,8,8,8,8,8,8,8,8,8,8,8,8,8,8,8,8,8,8,8,8,8,8,8,8,8,8,8,8,8] [8,8,8,8,8,8,8,8,8,8,8,8,8,8,8,8,8,8,8,8,8,8,8,8,8,8,8,8,8,8,8,8,8,8,8,8,8,8,8,8,8,8,8,8,8,8,8,8,8,8,8,8,8,8,8,8,8,8,8,8,8,8,8,8])
def bl8(n:Nat):Nat:=if n=0 then 0 else Nat.log2 n+1
variable {n:Nat}
theorem len8_at:∀ n<256,len8[n]?=some (UInt8.ofNat (bl8 n)):=by decide +kernel
theorem Yx:∀ n<256,bl8 n<=8:=by decide +kernel
def Wy(x:Nat):Nat:=if 256<=x then 8+bl8 (x / 256) else bl8 x
def tens(x:Nat):Nat:=Wy x*78913 / 2^18
theorem tens_small:∀ x<256,100<=x->bl8 x*78913 / 2^18=2:=by decide +kernel
theorem tens_big:∀ q<40,1<=q->(q=1/\(8+bl8 q)*78913 / 2^18=2)\/(2<=q/\q<=31/\(8+bl8 q)*78913 / 2^18=3)\/(32<=q/\(8+bl8 q)*78913 / 2^18=4):=by decide +kernel
theorem tens_ok(x:Nat)(h2:x<10000)(h1:100<=x):tens x<5/\tens x+(if 10^tens x<=x then 1 else 0)=if x<1000 then 3 else 4:=by
 unfold tens Wy;by_cases h:256<=x
 ·rw[if_pos h];rcases tens_big (x / 256) (by omega) (by omega) with⟨a,b⟩|⟨a,c,b⟩|⟨a,b⟩
  ·rw[b,if_pos (by omega),if_pos (by omega)];omega
  ·rw[b];by_cases h3:1000<=x
   ·rw[if_pos (by omega),if_neg (by omega)];omega
   ·rw[if_neg (by omega),if_pos (by omega)];omega
  ·rw[b,if_neg (by omega),if_neg (by omega)];omega
 ·rw[if_neg h,tens_small x (by omega) h1,if_pos (by omega),if_pos (by omega)];omega
theorem bits16_le{x:Nat}(h:x<65536):Wy x<=16:=by
 unfold Wy;split
 ·have:=Yx (x / 256) (by omega);omega
 ·have:=Yx x (by omega);omega
theorem Ym(h:n<256):IntKind.wrap .u8 (n:Int)=(n:Int):=wrapU8 (by omega)
theorem Zj(h:n<4294967296):IntKind.wrap .u32 (n:Int)=(n:Int):=by
 have a:(2^IntKind.u32.bits:Int)=4294967296:=rfl;simp only[IntKind.wrap,a,show IntKind.u32.signed=false from rfl,Bool.false_and,Bool.false_eq_true,if_false];omega
theorem wrapU64n(h:n<18446744073709551616):IntKind.wrap .u64 (n:Int)=(n:Int):=by
 have a:(2^IntKind.u64.bits:Int)=18446744073709551616:=rfl;simp only[IntKind.wrap,a,show IntKind.u64.signed=false from rfl,Bool.false_and,Bool.false_eq_true,if_false];omega
theorem wrapI64n(h:n<9223372036854775807):wrap .i64 (n:Int)=(n:Int):=Qo (by omega) (by omega)
section
variable {P:Program} {X:XP} {Q:Leaf->LH->Prop}
theorem Kv{h:LH}{K:Value->T}{t:TypeId}{k:IntKind}{l:Bs}{i:Int}{c:UInt8}(j:Nat)(hu:P.underlying t=some .string)(b:i=(j:Int))(hc:l[j]?=some c)(d:(K (.int .u8 (c.toNat:Int))).wp X P Q h):(T.sem false (Instr.index t (.string (str l)) (.int k i)) K).wp X P Q h:=by
 subst b;refine Jh (A:=fun v h'=>h'=h.get/\v=.int .u8 (c.toNat:Int)) ?_ (by rintro v h' ⟨rfl,rfl⟩;exact d);have a:=(List.getElem?_eq_some_iff.1 hc).1;have h1:(str l)[((j:Int)).toNat]?=some c:=by
  rw[Int.toNat_natCast,getElem?_pos (str l) j (by rw[Jx];exact a)];congr 1;have:=(List.getElem?_eq_some_iff.1 hc).2;rw[<- this];show (str l).data[j]=_;simp[str]
 unfold Instr.index;simp only[asIntOf,lwp_bind,Qg,Qd hu];rw[if_pos (by omega),h1];exact⟨rfl,rfl⟩
def Wr(el:TypeId)(n r:Nat)(h0 h:LH)(m:List (Nat×Value)):Prop:=But r h0 h/\∃ cs,h.get r=some (true,.cells cs el (0,0))/\cs.size=n/\∀ p∈m,cs[p.1]?=some p.2
theorem U1{el:TypeId}{n r k:Nat}{h0 h:LH}{m:List (Nat×Value)}{a:Addr}{v:Value}{t:T}(w:Wr el n r h0 h m)(l:a=⟨r,k,none⟩)(s:k<n)(o:∀ p∈m,p.1≠k)(h1:isOne v=true)(hc:∀ h1,Wr el n r h0 h1 ((k,v)::m)->t.wp X P Q h1):(T.store a v t).wp X P Q h:=by
 obtain⟨b,cs,f,g,i⟩:=w;subst l;refine Ku f h1 (Array.getElem?_eq_getElem (by omega:k<cs.size)) fun h2 c j=>hc h2 ⟨⟨fun q e=>(c.1 q e).trans (b.1 q e),c.2.1.trans b.2.1,c.2.2.1.trans b.2.2.1,c.2.2.2.trans b.2.2.2⟩,_,j,by simpa using g,fun p d=>?_⟩;rcases List.mem_cons.1 d with rfl|d
 ·rw[Array.getElem?_setIfInBounds_self_of_lt (by omega)]
 ·rw[Array.getElem?_setIfInBounds_ne (Ne.symm (o p d))];exact i p d
end
theorem Gi:∀ n<100,J4[2*n]?=some (UInt8.ofNat (48+n / 10))/\J4[2*n+1]?=some (UInt8.ofNat (48+n%10)):=by decide
def hiD(n:Nat):UInt8:=UInt8.ofNat (48+n / 10)
def loD(n:Nat):UInt8:=UInt8.ofNat (48+n%10)
theorem dig4d(h1:1000<=n)(h2:n<10000):decDigits n=[hiD (n / 100),loD (n / 100),hiD (n%100),loD (n%100)]:=by
 rw[Ua (n:=n) (by omega),Ua (n:=n / 10) (by omega),show n / 10 / 10=n / 100 by omega,<- dig_two (n / 100) (by omega) (by omega)];unfold two hiD loD;rw[show n%100 / 10=n / 10%10 by omega,show n%100%10=n%10 by omega];rfl
theorem dig3d(h1:100<=n)(h2:n<1000):decDigits n=[UInt8.ofNat (48+n / 100),hiD (n%100),loD (n%100)]:=by
 rw[Ua (n:=n) (by omega),Ua (n:=n / 10) (by omega),show n / 10 / 10=n / 100 by omega,Um (n:=n / 100) (by omega)];unfold hiD loD;rw[show n%100 / 10=n / 10%10 by omega,show n%100%10=n%10 by omega];rfl
def PowT(g:Nat)(h:Cells):Prop:=∀ i<5,h.cell? ⟨g,i,none⟩=some (.int .u64 (10^i:Nat))
theorem PowT.le{g:Nat}{h h':Cells}(b:h.le h')(p:PowT g h):PowT g h':=fun i a=>Qm b (p i a)
end Go.TM.Tp
namespace Go.Y.Txt
open Go.TM.Tp
open Go.Lib (decDigits)
attribute [local irreducible] T.wp CV FWK
theorem k2115{h:LH}(x:Nat)(b:x<65536):Pu Tryz.prog 220 #[.int .u64 (x:Int)] h (.int .i64 (Wy x:Nat)):=by
 refine w2115 _ Qr ?_;unfold n2115;refine Jk (fun vs h'=>vs=[.int .u64 (x:Int),.int .i64 0]/\h=h') ?_ ?_
 ·refine t_if (fun e=>by omega) (fun e=>?_);exact Qj ⟨rfl,rfl⟩
 rintro vs _ ⟨rfl,rfl⟩;refine gZ ?_;refine Jk (fun vs h'=>vs=[.int .u64 (x:Int),.int .i64 0]/\h=h') ?_ ?_
 ·refine t_if (fun e=>by omega) (fun e=>?_);exact Qj ⟨rfl,rfl⟩
 rintro vs _ ⟨rfl,rfl⟩;refine yJ (fun e=>?_) (fun e=>?_)
 ·have a:x / 256<256:=by omega
  have hb:=Yx _ a;refine gT (by decide) ?_;refine Kv (l:=len8) (x / 256) undS ?_ (len8_at _ a) ?_
  ·rw[show Int.fdiv (x:Int) (2^8)=((x / 256:Nat):Int) by rw[Int.fdiv_eq_ediv_of_nonneg _ (by decide)];rfl,Ym a]
  refine gZ ?_;refine Qn ⟨?_,rfl⟩;rw[show wrap .i64 (0+8)=8 from rfl,show ((UInt8.ofNat (bl8 (x / 256))).toNat:Int)=((bl8 (x / 256):Nat):Int) by rw[UInt8.toNat_ofNat'];omega,wrapI64n (by omega),Qo (by omega) (by omega)];unfold Wy;rw[if_pos (by omega)];congr 1
  try omega
 ·have a:x<256:=by omega
  have hb:=Yx _ a;refine Kv (l:=len8) x undS (Ym a) (len8_at _ a) ?_;refine gZ ?_;refine Qn ⟨?_,rfl⟩;rw[show ((UInt8.ofNat (bl8 x)).toNat:Int)=((bl8 x:Nat):Int) by rw[UInt8.toNat_ofNat'];omega,wrapI64n (by omega),Qo (by omega) (by omega)];unfold Wy;rw[if_neg (by omega)];congr 1
  try omega
theorem c3783{h:LH}(f:PowT 5 h.get)(x:Nat)(h1:100<=x)(h2:x<10000):Pu Tryz.prog 199 #[.int .u64 (x:Int)] h (.int .i64 ((decDigits x).length:Nat)):=by
 refine w3783 Qr ?_;have hb:=bits16_le (x:=x) (by omega);obtain⟨t1,t2⟩:=tens_ok x h2 h1;refine t_pu (k2115 x (by omega)) ?_;refine gZ ?_;refine t_pu (c3794 (Wy x) (by omega)) ?_;have a:=f (tens x) t1;have d:0<=((Wy x*78913 / 2^18:Nat):Int)/\((Wy x*78913 / 2^18:Nat):Int)<((20:Nat):Int):=by
  have:Wy x*78913 / 2^18<5:=t1;omega
 refine gZ ?_;refine gL0 (by rw[Int.toNat_natCast,Qa,Nat.mul_one,Nat.zero_add];exact a) ?_;refine t_pu (c3795 _) ?_;refine gZ ?_;refine Qn ⟨?_,rfl⟩;have e:(decDigits x).length=if x<1000 then 3 else 4:=by
  split
  ·rw[dig3d h1 (by omega)];rfl
  ·rw[dig4d (by omega) h2];rfl
 have b:(if decide ((x:Int)>=((10^tens x:Nat):Int))=true then (1:Int) else 0)=((if 10^tens x<=x then 1 else 0:Nat):Int):=by
  by_cases h:10^tens x<=x
  ·rw[if_pos h,if_pos (decide_eq_true (Int.ofNat_le.2 h))];rfl
  ·rw[if_neg h,if_neg (fun c=>h (Int.ofNat_le.1 (of_decide_eq_true c)))];rfl
 have hc1:(if 10^tens x<=x then 1 else 0:Nat)<=1:=by split<;>omega
 rw[b,e,<- t2];revert hc1;generalize (if 10^tens x<=x then 1 else 0:Nat)=z;intro hc1;rw[Qo (by omega) (by omega)];rfl
end Go.Y.Txt
end
section
namespace Go.TM
def bools(f:Nat->Bool):Nat->Nat->List Value
 | _,0=>[]
 | i,n+1=>.bool (f i)::bools f (i+1) n
section
variable {P:Program} {X:XP} {Q:Leaf->LH->Prop}
structure ArrS(el:TypeId)(f:Nat->Bool)(n:Nat)(h0 h:LH)(r i:Nat):Prop where
 cells:∃ cs,h.get r=some (true,.cells cs el (0,0))/\cs.size=n/\(∀ j,j<i->cs[j]?=some (.bool (f j)))
 new:h0.get r=none
 le:h0.le h
variable {el:TypeId}{f:Nat->Bool}{n r i:Nat}{h0 h:LH}{a:Addr}{k:T}
theorem ArrS.at(s:ArrS el f n h0 h r i){j:Nat}(a:j<i):h.get.cell? (Addr.add ⟨r,0,none⟩ j)=some (.bool (f j)):=by
 obtain⟨cs,h1,h2,h3⟩:=s.cells;rw[Qa,Nat.zero_add];exact Zn h1 (h3 j a)
theorem t_storeN(s:ArrS el f n h0 h r i)(m:i<n)(g:a=Addr.add ⟨r,0,none⟩ i)(l:∀ h1,ArrS el f n h0 h1 r (i+1)->k.wp X P Q h1):(T.store a (.bool (f i)) k).wp X P Q h:=by
 obtain⟨cs,h1,h2,h3⟩:=s.cells;rw[g,Qa,Nat.zero_add];refine Ku h1 rfl (Array.getElem?_eq_getElem (by omega:i<cs.size)) fun c b hb=>?_;refine l c ⟨⟨_,hb,by simpa using h2,fun j o=>?_⟩,s.new,⟨fun q x d=>?_,b.2.1.trans s.le.2.1,b.2.2.1.trans s.le.2.2.1,b.2.2.2.trans s.le.2.2.2⟩⟩
 ·by_cases e:j=i
  ·subst e;rw[Array.getElem?_setIfInBounds_self_of_lt (by omega)]
  ·rw[Array.getElem?_setIfInBounds_ne (Ne.symm e)];exact h3 j (by omega)
 ·rw[b.1 q (fun e=>by rw[e,s.new]at d;cases d)];exact s.le.1 q x d
theorem t_storeSame{b:Nat}{cs:Array Value}{v:Value}(hb:h.get b=some (true,.cells cs el (0,0)))(h1:isOne v=true)(hv:cs[i]?=some v)(o:k.wp X P Q h):(T.store ⟨b,i,none⟩ v k).wp X P Q h:=by
 refine Ku hb h1 hv fun h2 n a=>?_;have c:cs.setIfInBounds i v=cs:=by
  obtain⟨d,he⟩:=Array.getElem?_eq_some_iff.1 hv;apply Array.ext';rw[Array.toList_setIfInBounds];refine List.ext_getElem? fun j=>?_;rw[List.getElem?_set];split
  ·rename_i e;subst e;simp[d,he]
  ·rfl
 have e:h2=h:=by
  obtain⟨r,c1,t,t1⟩:=h2;obtain⟨p,c0,s,t0⟩:=h;obtain⟨f,g,l,m⟩:=n;simp only at f g l m hb a;subst g;subst l;subst m;congr 1;funext q;by_cases e:q=b
  ·subst e;rw[a,hb,c]
  ·exact f q e
 rw[e];exact o
theorem t_storeA(s:ArrS el f n h0 h r n)(c:i<n)(b:a=Addr.add ⟨r,0,none⟩ i)(d:k.wp X P Q h):(T.store a (.bool (f i)) k).wp X P Q h:=by
 obtain⟨cs,h1,h2,h3⟩:=s.cells;rw[b,Qa,Nat.zero_add];exact t_storeSame h1 rfl (h3 i c) d
end
theorem any_next{l:List UInt8}{i:Nat}{b:UInt8}(hb:l[i]?=some b)(c:Nat):((l.take (i+1)).any fun b=>b.toNat==c)=(((l.take i).any fun b=>b.toNat==c)||decide (c=b.toNat)):=by
 rw[List.take_add_one,hb,List.any_append];simp only[Option.toList_some,List.any_cons,List.any_nil,Bool.or_false];congr 1;by_cases e:c=b.toNat
 ·subst e;simp
 ·simp[e,Ne.symm e]
theorem t_popBs{P:Program}{X:XP}{Q:Leaf->LH->Prop}{h:LH}{f:Nat->Bool}{i n:Nat}{k:Bool->List Value->T}(a:(k (f i) (bools f (i+1) n)).wp X P Q h):(T.popB (bools f i (n+1)) k).wp X P Q h:=a
end Go.TM
end

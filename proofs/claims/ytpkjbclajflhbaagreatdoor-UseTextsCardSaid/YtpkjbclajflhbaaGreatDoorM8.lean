/- Contracts and laws for the proof, joined by a program. No condition. -/
import Derived.Test.YtpkjbclajflhbaaGreatDoorM7
set_option linter.all false
noncomputable section
open Go Go.Conc Go.TM Go.Proofs
attribute [local irreducible] T.wp CV FWK
set_option maxRecDepth 100000
open Go.IntKind (wrap)
section
namespace Go.Y
open Go.Proofs.YtpkjbclajflhbaaGreatDoor
open Go.ChangeShapes Go.WideShapes Go.RowKit
variable {W:World}
theorem UT:UseTy Tryz.prog 3 47 46 22 49 23 51 24 26 where
 int:=by kernel_rfl
 int1:=by kernel_rfl
 bytes:=⟨of_decide_eq_true (by kernel_rfl),of_decide_eq_true (by kernel_rfl),of_decide_eq_true (by kernel_rfl),of_decide_eq_true (by kernel_rfl)⟩
 ints:=by kernel_rfl
 ints1:=by kernel_rfl
 span:=⟨_,Tryz.underlying46,rfl⟩
 span2:=by kernel_rfl
 spans:=by kernel_rfl
 spans1:=by kernel_rfl
 paper:=⟨_,Tryz.underlying49,rfl⟩
 paper4:=by kernel_rfl
 papers:=by kernel_rfl
 papers1:=by kernel_rfl
 req:=⟨_,Tryz.underlying51,rfl⟩
 req3:=by kernel_rfl
 reqs:=by kernel_rfl
 reqs1:=by kernel_rfl
 file:=⟨_,Tryz.underlying26,rfl⟩
 file7:=by kernel_rfl
def partsN : String := "touchmark/use.parts"
theorem gParts:Tryz.prog.globalNamed partsN=some 2:=by kernel_rfl
theorem tParts:(Tryz.prog.globals[2]?).map (·.type)=some 160:=by kernel_rfl
theorem cells98:Tryz.prog.cellsOf 160=4:=by kernel_rfl
theorem array4{α:Type}:∀ {l:List α},l.length=4->∃ a b c d,l=[a,b,c,d]
 | [a,b,c,d],_=>⟨a,b,c,d,rfl⟩
theorem parts_of_laid{l:List (String×DataW Unit)}(h:laidMetH Tryz.prog l W)(hm:(partsN,Rows.laid_touchmark_use_parts)∈l):Parts (getW W):=by
 obtain⟨g,t,cs,fuel,p,w,z,hv,v⟩:=laidMetH.funcs h (n:=partsN) hm;obtain rfl:=Option.some.inj (gParts.symm.trans w);obtain rfl:=Option.some.inj (tParts.symm.trans z);obtain⟨xs,m,_,c,i,y,a⟩:=DataW.trod_array Tryz.underlying160 v;rw[cells98]at i;have b:∀ j:Nat,W.cell? ⟨2,j,none⟩=cs[j]?:=World.var?_cell gParts hv;obtain⟨D,E,F,G,rfl⟩:=array4 y;obtain⟨v0,v1,v2,r,hc⟩:=array4 i;have s:Tryz.prog.cellsOf 149=1:=by kernel_rfl
 have u:∀ j:Nat,cs[j]?=[v0,v1,v2,r][j]?:=fun j=>by rw[<- hc];simp
 simp only[Prod.mk.injEq]at c;obtain⟨c,_⟩:=c;simp only[DataW.funcsOut,DataW.funcsOutAll,List.map_cons,List.map_nil,DataW.agg.injEq,List.cons.injEq,beq_self_eq_true,if_true,and_true]at c;obtain⟨h0,d,e,f⟩:=c;have k:=a 0 (by decide);have k1:=a 1 (by decide);have o:=a 2 (by decide);have q:=a 3 (by decide);rw[hc,s]at k k1 o q;obtain⟨d0,H⟩:=D;obtain⟨d1,I⟩:=E;obtain⟨d2,J⟩:=F;obtain⟨d3,K⟩:=G;simp only at h0 d e f;subst h0;subst d;subst e;subst f;have r0:v0=.func (.func 296) #[] #[]:=func_of_trod (P:=Tryz.prog) Tryz.underlying149 (by kernel_rfl) k;have A:v1=.func (.func 297) #[] #[]:=func_of_trod (P:=Tryz.prog) Tryz.underlying149 (by kernel_rfl) k1;have B:v2=.func (.func 298) #[] #[]:=func_of_trod (P:=Tryz.prog) Tryz.underlying149 (by kernel_rfl) o;have C:r=.func (.func 299) #[] #[]:=func_of_trod (P:=Tryz.prog) Tryz.underlying149 (by kernel_rfl) q;intro j x;refine Hr ?_;rw[b,u]
 match j,x with
 | 0,_=>simp[r0]
 | 1,_=>simp[A]
 | 2,_=>simp[B]
 | 3,_=>simp[C]
theorem Ub{P:Program}{w:World}{n:String}{d:DataW Unit}:∀ {l:List (String×DataW Unit)} {ps:List MemPlace},DataW.LaidVars P w l ps->(n,d)∈l->∃ g t cs fuel p,P.globalNamed n=some g/\(P.globals[g]?).map (·.type)=some t/\w.var? P n=some cs/\DataW.trod (fun _=>()) P w 0 (fun _=>true) false fuel t cs.toList=some (d,p)/\∀ x∈MemPlace.row ⟨g,0,none⟩ cs.size,x∈ps
 | [],_,h,hm=>by simp at hm
 | (m,e)::r,ps,h,hm=>by
  obtain⟨g,t,cs,fuel,p,q,s,u,v,y,z,c⟩:=h;rcases List.mem_cons.1 hm with a|a
  ·cases a;exact⟨g,t,cs,fuel,p,s,u,v,y,fun x b=>by rw[c,List.mem_append,List.mem_append];exact .inl (.inl b)⟩
  ·obtain⟨g,t,cs,fuel,p,f,i,j,k,o⟩:=Ub z a;exact⟨g,t,cs,fuel,p,f,i,j,k,fun x b=>by rw[c,List.mem_append];exact .inr (o x b)⟩
def powN : String := "internal/strconv.uint64pow10"
theorem gPow:Tryz.prog.globalNamed powN=some 5:=by kernel_rfl
theorem tPow:(Tryz.prog.globals[5]?).map (·.type)=some 313:=by kernel_rfl
theorem und64:Tryz.prog.underlying 292=some (.int .u64):=by kernel_rfl
theorem pow_of_laid{l:List (String×DataW Unit)}(h:laidMetH Tryz.prog l W)(hm:(powN,Rows.laid_internal_strconv_uint64pow10)∈l):Tp.PowT 5 (getW W):=by
 obtain⟨ps,A,_⟩:=(laidMetH_iff.1 h).1;obtain⟨g',G,f,g,F,p,s,t,k,_⟩:=Ub A (List.mem_filter.2 ⟨hm,rfl⟩);obtain rfl:=Option.some.inj (gPow.symm.trans p);obtain rfl:=Option.some.inj (tPow.symm.trans s);obtain⟨xs,m,_,u,D,E,o⟩:=DataW.trod_array Tryz.underlying313 k;have v:Tryz.prog.cellsOf 292=1:=by kernel_rfl
 have b:∀ j:Nat,W.cell? ⟨5,j,none⟩=f[j]?:=World.var?_cell gPow t;have u:(Rows.laid_internal_strconv_uint64pow10:DataW Unit)=.agg (xs.map (·.1)):=(Prod.mk.inj u).1;intro j B;refine Hr ?_;rw[b];have q:=o j (by omega);rw[v]at q;cases d:xs[j]? with
 | none=>have:=List.getElem?_eq_none_iff.1 d;omega
 | some y =>
  rw[d]at q;obtain⟨n,w,x,_⟩:=DataW.trod_int und64 q;have C:(xs.map (·.1))[j]?=some (.lit (.int .u64 n)):=by rw[List.getElem?_map,d,x];rfl
  have c:∀ i:Nat,i<5->∀ z:DataW Unit,(xs.map (·.1))[i]?=some z->z=.lit (.int .u64 (10^i:Nat)):=by
   intro i r z e;have:(DataW.agg (xs.map (·.1)):DataW Unit)=Rows.laid_internal_strconv_uint64pow10:=u.symm;unfold Rows.laid_internal_strconv_uint64pow10 at this;injection this with this;rw[this]at e
   match i,r with
   | 0,_=>cases e;rfl
   | 1,_=>cases e;rfl
   | 2,_=>cases e;rfl
   | 3,_=>cases e;rfl
   | 4,_=>cases e;rfl
  have a:=c j B _ C;injection a with a;injection a with _ a;subst a;have:=congrArg (·[0]?) w;simp at this;simpa using this
def errN : String := "touchmark/use.errLine"
theorem gErr:Tryz.prog.globalNamed errN=some 0:=by kernel_rfl
theorem tErr:(Tryz.prog.globals[0]?).map (·.type)=some 83:=by kernel_rfl
theorem starE : "*" ++ "errors.errorString" = "*errors.errorString" := by decide
theorem row1825(u : TypeId)(h : Tryz.prog.typeName? 3 u = some "*errors.errorString") : u = 340 :=
 typeName_ptr_named (nm := "errors.errorString") (by rw [starE]; kernel_rfl) (by kernel_rfl) (by decide) u (by rw [starE]; exact h)
theorem err_of_laid{l:List (String×DataW Unit)}(h:laidMetH Tryz.prog l W)(hm:(errN,Rows.laid_touchmark_use_errLine)∈l):∃ a,Txt.ErrL a (getW W):=by
 obtain⟨ps,t,_,c⟩:=(laidMetH_iff.1 h).1;obtain⟨g',A,d,g,y,n,p,q,i,o⟩:=Ub t (List.mem_filter.2 ⟨hm,rfl⟩);obtain rfl:=Option.some.inj (gErr.symm.trans n);obtain rfl:=Option.some.inj (tErr.symm.trans p);have b:∀ j:Nat,W.cell? ⟨0,j,none⟩=d[j]?:=World.var?_cell gErr q;obtain⟨x⟩:=d;have r:∀ u v,x=[.iface u v]->Value.okWide Tryz.prog W .any 0 u v:=fun u v e=>by
  subst e;exact(c 0 0 (o _ (by simp[MemPlace.row]))).2 u v (by simpa using b 0)
 obtain⟨f,w,k,m⟩ : ∃ f:Field,Tryz.prog.underlying 342=some (.struct #[f])/\f.type=9/\f.offset=0:=⟨_,Tryz.underlying342,rfl,rfl⟩
 obtain⟨s,z,rfl,_⟩:=errorString_of_trod (tp:=340) Tryz.underlying83 row1825 Txt.undPErr w k m (by kernel_rfl) (by kernel_rfl) (by kernel_rfl) i r;exact⟨s,Hr (by rw[b];rfl)⟩
def noUse:Value:=.agg #[.int .i64 0,.int .i64 0,.int .i64 0,.int .i64 0,.slice none 0 0,.slice none 0 0,.slice none 0 0]
end Go.Y
namespace Go.Y.Tre
open Go.ChangeShapes Go.WideShapes Go.RowKit
theorem own:ownKnob Tryz.prog.godebug=none:=by kernel_rfl
theorem lo:laidOutB Tryz.prog=true:=by kernel_rfl
theorem str_arg{W:World}{r:Reach}{a:Nat}{v:Value}(hv:Value.okWide Tryz.prog W r a 9 v):∃ t:Tp.Bs,v=.string (str t):=by
 obtain⟨s,rfl⟩:=WideShapes.okWide_string Txt.undS hv;exact⟨s.data.toList,by rw[<- str_of s]⟩
end Go.Y.Tre
end
section
namespace Go.Y.Txt
open Go.TM.Tp
def eV(a:Addr)(b:Bool):Value:=if b then errV a else .nilIface
variable {a:Addr}{p:Option Addr}{c:Nat}
theorem Yr(a:Addr)(b:Bool):IsI (eV a b):=by cases b;exact .inl rfl;exact .inr ⟨_,_,rfl⟩
theorem Yq(a:Addr)(b:Bool):isNilI (eV a b) = !b:=by cases b<;>rfl
def ErrEnc(a:Addr)(_:Unit)(ws:List Value):Prop:=ws=[errV a]
theorem ErrEnc.len:∀ x ws,ErrEnc a x ws->ws.length=1:=by rintro x _ rfl;rfl
theorem undEs:Tryz.prog.underlying 235=some (.slice 83):=by kernel_rfl
theorem infE:(Tryz.prog.info? 83).map (fun i=>(i.size,i.bytes,i.zero))=some (1,16,some .nilIface):=by kernel_rfl
theorem err_one(a:Addr):∀ w∈[errV a],isOne w=true:=by
 intro w hw;rw[List.mem_singleton]at hw;rw[hw];rfl
def ErrsS(a:Addr)(h:LH)(p:Option Addr)(bs:List Bool):Prop:=∀ (i:Nat) b,bs[i]?=some b->∃ x,p=some x/\h.get.cell? (x.add (i*1))=some (eV a b)
theorem ErrsS.le{a:Addr}{h h':LH}{p:Option Addr}{bs:List Bool}(e:h.le h')(s:ErrsS a h p bs):ErrsS a h' p bs:=fun i b hb=>by
 obtain⟨x,c,d⟩:=s i b hb;exact⟨x,c,Qe e.1 d⟩
theorem count_step{bs:List Bool}{i:Nat}{b:Bool}(h:bs[i]?=some b):(bs.take (i+1)).countP id=(bs.take i).countP id+(if b then 1 else 0):=by
 rw[Jr h,List.countP_append];cases b<;>rfl
theorem row_apart{h₀ h:Cells}{n r:Nat}{l:List Unit}{cs:Array Value}(g:Growing (ErrEnc a) 83 1 h₀ h p n c l)(hr:h r=some (true,.cells cs 238 (0,0))):∀ x,p=some x->x.block≠r:=by
 rintro x rfl rfl;obtain⟨f,⟨_,o⟩,_⟩:=g.row;rcases o with⟨b,_⟩|⟨r,e,b,d,_⟩
 ·cases b
 ·cases b;rw[hr]at d;simp at d
theorem c3751{h:LH}{bs:List Bool}(s:ErrsS a h p bs)(hl:bs.length<=2^20):Gr Tryz.prog 102 #[.slice p bs.length c] h fun r h'=>(bs.countP id=0/\r=.nilIface)\/(bs.countP id≠0/\JoinE a r h'):=by
 obtain⟨ms,F⟩:=undErr;refine w3751 Qk ?_;refine Ja (fun L m h'=>h=h'/\∃ i:Nat,m=[.int .i64 ((bs.take i).countP id:Nat),.int .i64 i]/\i<=bs.length/\L=bs.length-i) (fun m h'=>h=h'/\∃ i:Int,m=[.int .i64 (bs.countP id:Nat),.int .i64 i]) ⟨rfl,0,rfl,Nat.zero_le _,rfl⟩ ?_ ?_
 ·rintro Y L m _ E ⟨rfl,i,rfl,hi,rfl⟩;have D:=List.countP_le_length (p:=id) (l:=bs.take i);rw[List.length_take]at D;refine yJ (fun O=>?_) (fun O=>?_)
  ·have y:=List.getElem?_eq_getElem (show i<bs.length by omega);generalize bs[i]=b at y;obtain⟨x,Q,P⟩:=s i b y;have u:=count_step y;refine gT ⟨by omega,by omega⟩ (gS2 Q (Jv (by rw[Int.toNat_natCast];exact P) ?_));refine Za F (Yr a b) rfl ?_;rw[Yq,Bool.not_not];refine yI (fun e=>?_) (fun e=>?_)
   ·subst e;refine Qi (E (bs.length-(i+1)) _ _ (by omega) ⟨rfl,i+1,?_,by omega,rfl⟩);rw[Qh (by omega) (by omega),Qh (by omega) (by omega),u];rfl
   ·subst e;refine Qi (E (bs.length-(i+1)) _ _ (by omega) ⟨rfl,i+1,?_,by omega,rfl⟩);rw[Qh (by omega) (by omega),u];rfl
  ·rw[List.take_of_length_le (by omega)];exact gH ⟨rfl,_,rfl⟩
 rintro m _ ⟨rfl,i,rfl⟩;have e0:=List.countP_le_length (p:=id) (l:=bs);refine yI (fun e=>?_) (fun e=>?_)
 ·exact Qa ⟨LH.le_refl _,.inl ⟨by
   have:((bs.countP id:Nat):Int)=0:=by simpa using e
   omega,rfl⟩⟩
 have G:bs.countP id≠0:=fun h0=>by rw[h0]at e;simp at e
 refine t_makeNone undEs infE rfl (by decide) (by omega) fun r0 A H a0=>?_;have N:Growing (ErrEnc a) 83 1 h.get ({ h with get:=h.get.upd r0 (true,.cells A 83 (0,0)) }:LH).get (some ⟨r0,0,none⟩) 0 (bs.countP id) [] :=
  ⟨⟨[],⟨rfl,.inr ⟨r0,A,rfl,Qm _ _ _,by omega,Nat.zero_le _,fun j v hj=>by simp at hj⟩⟩,.nil⟩,fun x y=>by cases y;exact H⟩
 have B:h.le { h with get:=h.get.upd r0 (true,.cells A 83 (0,0)) }:=Qr H;revert N B;generalize ({ h with get:=h.get.upd r0 (true,.cells A 83 (0,0)) }:LH)=C;intro N B;refine gZ ?_;refine D1 fun r h2 K J hr=>?_;have U:h.get r=none:=by
  cases y:h.get r with
  | none=>rfl
  | some x=>rw[B.1 _ _ y]at J;cases J
 refine Ja (fun L m h'=>h.le h'/\∃ (i:Nat) (q:Addr) (n t:Nat) (l:List Unit),m=[.int .i64 i]/\i<=bs.length/\L=bs.length-i/\h'.get r=some (true,.cells #[.slice (some q) n t] 238 (0,0))/\Growing (ErrEnc a) 83 1 h.get h'.get (some q) n t l/\l.length=(bs.take i).countP id)
  (fun m h'=>h.le h'/\∃ (i:Int) (q:Addr) (n t:Nat) (l:List Unit),m=[.int .i64 i]/\h'.get r=some (true,.cells #[.slice (some q) n t] 238 (0,0))/\Growing (ErrEnc a) 83 1 h.get h'.get (some q) n t l/\l.length=bs.countP id)
  ⟨LH.le_trans B K,0,⟨r0,0,none⟩,0,_,[],rfl,Nat.zero_le _,rfl,hr,N.le K.1,rfl⟩ ?_ ?_
 ·rintro Y L m h3 E ⟨k,i,q,n,t,l,rfl,hi,rfl,f,g,d⟩;have D:=List.countP_le_length (p:=id) (l:=bs.take i);rw[List.length_take]at D;refine yJ (fun O=>?_) (fun O=>?_)
  ·have y:=List.getElem?_eq_getElem (show i<bs.length by omega);generalize bs[i]=b at y;obtain⟨x,Q,P⟩:=(s.le k) i b y;have u:=count_step y;refine gT ⟨by omega,by omega⟩ (gS2 Q (Jv (by rw[Int.toNat_natCast];exact P) ?_));refine Za F (Yr a b) rfl ?_;rw[Yq,Bool.not_not];refine yI (fun e=>?_) (fun e=>?_)
   ·subst e;have gc:h3.get.cell? (Addr.add ⟨r,0,none⟩ 0)=some (.slice (some q) n t):=J6 (i:=0) f rfl;have hn:=g.count ErrEnc.len (by omega);refine gS2 rfl (gL1 gc ?_);refine Zq [errV a] undEs infE (by decide) (by decide) (by kernel_rfl) ?_;intro r7 h7 z _ S;refine gZ ?_;refine Hh (h₀:=h) (Enc:=ErrEnc a) () [errV a] rfl rfl undEs infE rfl (by omega) (by omega) (g.le z.1) (LH.le_trans k z) rfl rfl S (err_one a) ?_;intro p' c2 h8 W V M;have I:=V r _ (row_apart (g.le z.1) (z.1 _ _ f)) (z.1 _ _ f);have R:=row_apart M I;obtain⟨X,rfl⟩ : ∃ X,p'=some X:=by
     obtain⟨m,⟨o1,o⟩,_⟩:=M.row;rcases o with⟨_,C,_⟩|⟨r9,_,C,_⟩
     ·omega
     ·exact⟨_,C⟩
    refine gZ ?_;refine Z8 (i:=0) I rfl rfl fun h9 b9 e9=>?_;obtain⟨Z,o9,w9⟩:=M.row;refine Qi (E (bs.length-(i+1)) _ _ (by omega) ⟨Ov.le_of W (b9.ov U),i+1,X,n+1,c2,l++[()],?_,by omega,rfl,e9,⟨⟨Z,Dc R b9 o9,w9⟩,M.new⟩,?_⟩)
    ·rw[Qh (by omega) (by omega)];rfl
    ·rw[u,List.length_append,d];rfl
   ·subst e;refine Qi (E (bs.length-(i+1)) _ _ (by omega) ⟨k,i+1,q,n,t,l,?_,by omega,rfl,f,g,?_⟩)
    ·rw[Qh (by omega) (by omega)];rfl
    ·rw[u,d];rfl
  ·rw[List.take_of_length_le (by omega)]at d;exact gH ⟨k,_,q,n,t,l,rfl,f,g,d⟩
 rintro m h3 ⟨k,i,q,n,t,l,rfl,f,g,d⟩;refine gZ ?_;have hn:=g.count ErrEnc.len (by omega);obtain⟨m,⟨o1,o⟩,w⟩:=g.row;refine Qa ⟨k,.inr ⟨G,r,some q,n,t,q,rfl,J6 (i:=0) f rfl,by omega,rfl,?_⟩⟩;rcases o with⟨C,_⟩|⟨r9,b0,C,h2,c0,h4,h5⟩
 ·cases C
 ·cases C;obtain⟨ws,rfl,hw⟩:=w.at ErrEnc.len 0 () (by
   match l,d with
   | [],d=>exact absurd d.symm G
   | ()::l,_=>rfl)
  exact J6 h2 (h5 0 _ (hw 0 _ rfl))
end Go.Y.Txt
end
section
namespace Go.TM.Tp
def fieldsP(l:Bs):Option (Bs×List Bs):=if (cutV 58 l).2.2=true/\(cutV 58 l).2.1.getLast?=some 59 then some ((cutV 58 l).1,cut 59 (trimS 59 (cutV 58 l).2.1)) else none
theorem item_w0(fs:List Bs):itemU [] fs=none:=by
 unfold itemU;rw[if_neg (by decide),if_neg (by decide),if_neg (by decide),if_neg (by decide)]
theorem line_prog(l:Bs):lineU l=(fieldsP l).bind fun x=>itemU x.1 x.2:=by
 unfold fieldsP lineU;rcases Zy 58 l with h|⟨a,r,rfl,h⟩
 ·rw[Ug h,fields_none h,if_neg (by simp)]
 ·rw[Uf h,fields_some h];simp only[true_and];by_cases h0:a=[]
  ·subst h0;rw[if_pos rfl];split
   ·simp[item_w0]
   ·rfl
  ·rw[if_neg h0];split
   ·rename_i b;unfold trimS;rw[if_pos b]
   ·rfl
theorem cutV_len(c:UInt8)(l:Bs):(cutV c l).1.length<=l.length/\(cutV c l).2.1.length<=l.length:=by
 rcases Zy c l with h|⟨a,r,rfl,h⟩
 ·rw[Ug h];simp
 ·rw[Uf h];simp;omega
theorem trimS_len(c:UInt8)(l:Bs):(trimS c l).length<=l.length:=by
 unfold trimS;split
 ·rw[List.length_dropLast];omega
 ·exact Nat.le_refl _
def lineCut(s:Bs):Bs×Bs:=match cut 10 s with
 | a::_::_=>(a++[10],s.drop (a.length+1))
 | _=>(s,[])
theorem Gs{l:Bs}(h:(10:UInt8)∉l):lineCut l=(l,[]):=by unfold lineCut;rw[Zs h]
theorem Gq{a r:Bs}(h:(10:UInt8)∉a):lineCut (a++10::r)=(a++[10],r):=by
 unfold lineCut;rw[Zz h];have:=Zj 10 r;cases e:cut 10 r with
 | nil=>exact absurd e this
 | cons x y=>simp
theorem trimS_snoc(c:UInt8)(a:Bs):trimS c (a++[c])=a:=by unfold trimS;simp
theorem trimS_none{c:UInt8}{a:Bs}(h:c∉a):trimS c a=a:=by
 unfold trimS;rw[if_neg];intro e;exact h (List.mem_of_getLast? e)
theorem lines_step{s:Bs}(h0:s≠[]):linesL s=trimS 10 (lineCut s).1::linesL (lineCut s).2:=by
 rcases Zy 10 s with h|⟨a,r,rfl,h⟩
 ·rw[Gs h,lines_one h h0,trimS_none h];rfl
 ·rw[Gq h,lines_cons h,trimS_snoc]
theorem G6{s:Bs}(h0:s≠[]):(lineCut s).2.length<s.length/\(lineCut s).1.length<=s.length:=by
 have b:=List.length_pos_iff.2 h0;rcases Zy 10 s with h|⟨a,r,rfl,h⟩
 ·rw[Gs h];simp;exact b
 ·rw[Gq h];simp;omega
end Go.TM.Tp
end
section
namespace Go.TM.Tp
theorem item_else{w:Bs}{f:List Bs}(k:¬ (w=wUse/\f.length=4))(l:¬ (w=wExcuse/\f.length=1))(n:¬ (w=wPaper/\f.length=3))(o:¬ (w=wRequest/\f.length=3)):itemU w f=none:=by
 by_cases g:w=wUse
 ·subst g;rw[Hq];cases e:numsL f with
  | none=>rfl
  | some m =>
   have hm:=Ka e
   match m,hm with
   | [a,b,c,d],hm=>exact absurd ⟨rfl,hm.symm⟩ k
   | [],_=>rfl
   | [_],_=>rfl
   | [_,_],_=>rfl
   | [_,_,_],_=>rfl
   | _::_::_::_::_::_,_=>rfl
 by_cases h:w=wExcuse
 ·subst h;exact W5 fun e=>l ⟨rfl,e⟩
 by_cases i:w=wPaper
 ·subst i;exact Gu fun e=>n ⟨rfl,e⟩
 by_cases j:w=wRequest
 ·subst j;exact Wo fun e=>o ⟨rfl,e⟩
 unfold itemU;rw[if_neg g,if_neg h,if_neg i,if_neg j]
end Go.TM.Tp
namespace Go.Y.Txt
open Go.TM.Tp
def LineR(a:Addr)(o:Option LU)(r:Value)(h:LH):Prop:=match o with
 | some (.use x y z w)=>r=.tuple #[.iface 104 (.agg #[.int .i64 (x:Int),.int .i64 (y:Int),.int .i64 (z:Int),.int .i64 (w:Int)]),.nilIface]
 | some (.excuse x y)=>r=.tuple #[.iface 106 (.agg #[.int .i64 (x:Int),.int .i64 (y:Int)]),.nilIface]
 | some (.paper x y l m)=>∃ p n c,r=.tuple #[.iface 108 (.agg #[.int .i64 (x:Int),.int .i64 (y:Int),.int .i64 (l:Int),.slice p n c]),.nilIface]/\InS h p n c (ints m)
 | some (.request d l m)=>∃ p n c,r=.tuple #[.iface 110 (.agg #[.int .i64 (d:Int),.int .i64 (l:Int),.slice p n c]),.nilIface]/\InS h p n c (ints m)
 | none=>∃ v e,r=.tuple #[v,e]/\BadE a e h
variable {a:Addr}{h:LH}
theorem rangeE_is(a:Addr)(o:Option (Nat×Nat)):rangeE a o=.tuple #[.agg #[.int .i64 (spanO o).first,.int .i64 (spanO o).last],eV a o.isNone]:=by cases o<;>rfl
theorem numE_is(a:Addr)(o:Option Nat):numE a o=.tuple #[.int .i64 (numO o),eV a o.isNone]:=by cases o<;>rfl
theorem NumsE.is{o:Option (List Nat)}{r:Value}(x:NumsE a o r h):∃ p n c,r=.tuple #[.slice p n c,eV a o.isNone]/\InS h p n c (listO o):=by
 cases o with
 | some m=>obtain⟨p,n,c,b,d⟩:=x;exact⟨p,n,c,b,d⟩
 | none=>exact⟨none,0,0,x,InS.nil⟩
theorem fill3(a:Addr)(x y z:Bool):Instr.fill (fun i=>some (i*1,1)) ((Array.range (3*1)).map (Value.nilIface.cells[·%Value.nilIface.cells.size]!)) #[(0,eV a x),(1,eV a y),(2,eV a z)].toList=some [eV a x,eV a y,eV a z].toArray:=by
 cases x<;>cases y<;>cases z<;>kernel_rfl
theorem LineR.bad{v e:Value}(b:BadE a e h):LineR a none (.tuple #[v,e]) h:=⟨v,e,rfl,b⟩
theorem c3727(M:ErrL a h.get)(l:Bs)(hl:l.length<=2^18):Gr Tryz.prog 48 #[.string (str l)] h fun r h'=>LineR a (lineU l) r h':=by
 obtain⟨ms,Q⟩:=undErr;refine w3727 Qk ?_;obtain⟨y0,z0⟩:=cutV_len 58 l;have tl:=trimS_len 59 (cutV 58 l).2.1;rw[line_prog l];unfold fieldsP;refine t_pu (c3744 l 58 (by omega)) ?_;refine gZ ?_;refine Qj ?_;refine gZ ?_;refine Qj ?_;refine gZ ?_;refine t_pu (c3745 _ 59 (by omega)) ?_;refine gZ ?_;refine Qj ?_;refine gZ ?_;generalize (cutV 58 l).1=w at *;generalize (cutV 58 l).2.1=r0 at *;generalize (cutV 58 l).2.2=ok at *;have b1:=J1 59 (trimS 59 r0);refine t_gr (c3746 (trimS 59 r0) 59 (by omega)) ?_;rintro _ P g ⟨p,n,k,rfl,s⟩;have small:∀ x∈cut 59 (trimS 59 r0),x.length<=2^18:=fun x hx=>by have:=Zh hx;omega
 generalize cut 59 (trimS 59 r0)=f at *;have V:P.get.cell? ⟨0,0,none⟩=some (errV a):=M.le g.1;have D:=s.2.1;refine gZ ?_;rcases Decidable.em (¬ (ok=true/\r0.getLast?=some 59)) with A|A
 ·rw[if_neg A];refine Q1 (fun B h'=>False) ?_ (fun _ _ hf=>hf.elim);refine Ql (fun e=>?_) (fun e=>?_)
  ·repeat (refine Jv V ?_;refine gZ ?_)
   exact Qa ⟨g,.bad (.inl rfl)⟩
  refine Ql (fun F=>?_) (fun F=>?_)
  ·repeat (refine Jv V ?_;refine gZ ?_)
   exact Qa ⟨g,.bad (.inl rfl)⟩
  ·exact absurd ⟨by simpa using e,by simpa using F⟩ A
 have A:=Decidable.not_not.1 A;rw[if_pos A];show T.wp _ _ _ (retQ fun r h'=>h.le h'/\LineR a (itemU w f) r h') _;refine Q1 (fun B h'=>B=[.nilIface,.nilIface]/\P=h') ?_ ?_
 ·rw[A.1];refine yF ?_;refine Ql (fun e=>by rw[decide_eq_true A.2]at e;cases e) (fun _=>?_);exact Qi ⟨rfl,rfl⟩
 rintro B _ ⟨rfl,rfl⟩;refine gZ ?_;have J:∀ j:Nat,((n:Int)==(j:Int))=decide (f.length=j):=fun j=>by
  rw[D];by_cases Y:f.length=j
  ·rw[decide_eq_true Y,Y];simp
  ·rw[decide_eq_false Y];simp;omega
 refine Q1 (fun B h'=>B=[.bool (decide (w=wUse/\f.length=4))]/\P=h') ?_ ?_
 ·refine Zp (b:=wUse) undS ?_;refine yI (fun e=>?_) (fun e=>?_)
  ·refine Qi ⟨?_,rfl⟩;have e:w=wUse:=by simpa using e
   rw[show ((n:Int)==4)=decide (f.length=4) from J 4];simp[e]
  ·refine Qi ⟨?_,rfl⟩;have e:¬ w=wUse:=by simpa using e
   simp[e]
 rintro B _ ⟨rfl,rfl⟩;refine gZ ?_;refine Ql (fun e=>?_) (fun l0=>?_)
 ·obtain⟨rfl,N⟩:=of_decide_eq_true e;rw[Hq];refine t_gr (c3747 (M.le g.1) s (by omega) (fun x hx=>by have:=small x hx;omega)) ?_;intro r h2 t hr;have c:=LH.le_trans g t;cases hv:numsL f with
  | none =>
   rw[hv]at hr;have hr:r=.tuple #[.slice none 0 0,errV a]:=hr;subst hr;refine gZ ?_;refine Za Q (Dv a) rfl ?_;refine yT ?_;exact Qa ⟨c,.bad (.inl rfl)⟩
  | some m =>
   rw[hv]at hr;obtain⟨q,n2,k2,rfl,R⟩:=hr;have o:=Ka hv
   match m,o,R with
   | [x,y,z,w],_,R =>
    have p0:n2=4:=by have:=R.2.1;rw[this];rfl
    subst p0;obtain⟨q0,I,V⟩:=R.at (i:=0) (x:=(x:Int)) rfl;obtain⟨q1,E,U⟩:=R.at (i:=1) (x:=(y:Int)) rfl;obtain⟨q2,K,g2⟩:=R.at (i:=2) (x:=(z:Int)) rfl;obtain⟨q3,a0,W⟩:=R.at (i:=3) (x:=(w:Int)) rfl;rw[I]at E K a0;cases E;cases K;cases a0;rw[Nat.mul_one]at V U g2 W;refine gZ ?_;refine Za Q (.inl rfl) rfl ?_;refine yF ?_;refine gZ ?_;exact Qa ⟨c,rfl⟩
   | [],o,_=>simp at o;omega
   | [_],o,_=>simp at o;omega
   | [_,_],o,_=>simp at o;omega
   | [_,_,_],o,_=>simp at o;omega
   | _::_::_::_::_::_,o,_=>simp at o;omega
 have n1:=of_decide_eq_false l0;refine Q1 (fun B h'=>B=[.bool (decide (w=wExcuse/\f.length=1))]/\P=h') ?_ ?_
 ·refine Zp (b:=wExcuse) undS ?_;refine yI (fun e=>?_) (fun e=>?_)
  ·refine Qi ⟨?_,rfl⟩;have e:w=wExcuse:=by simpa using e
   rw[show ((n:Int)==1)=decide (f.length=1) from J 1];simp[e]
  ·refine Qi ⟨?_,rfl⟩;have e:¬ w=wExcuse:=by simpa using e
   simp[e]
 rintro B _ ⟨rfl,rfl⟩;refine gZ ?_;refine Ql (fun e=>?_) (fun m0=>?_)
 ·obtain⟨rfl,N⟩:=of_decide_eq_true e
  match f,N,s,D,small with
  | [x],_,s,D,small =>
   rw[Gv];obtain⟨q0,I,U⟩:=s.at (i:=0) (x:=x) rfl;rw[Nat.mul_one]at U;have a1:0<=(0:Int)/\(0:Int)<(n:Int):=by have:n=1:=D;omega
   refine gZ ?_;refine Qt U ?_;refine t_gr (c3748 (M.le g.1) x (by have:=small x (by simp);omega)) ?_;rintro _ h2 t rfl;have c:=LH.le_trans g t;cases hv:rangeL x with
   | none =>
    unfold rangeE;refine gZ ?_;exact Qa ⟨c,.bad (.inl rfl)⟩
   | some q =>
    unfold rangeE;refine gZ ?_;exact Qa ⟨c,rfl⟩
 have n2:=of_decide_eq_false m0;refine Q1 (fun B h'=>B=[.bool (decide (w=wPaper/\f.length=3))]/\P=h') ?_ ?_
 ·refine Zp (b:=wPaper) undS ?_;refine yI (fun e=>?_) (fun e=>?_)
  ·refine Qi ⟨?_,rfl⟩;have e:w=wPaper:=by simpa using e
   rw[show ((n:Int)==3)=decide (f.length=3) from J 3];simp[e]
  ·refine Qi ⟨?_,rfl⟩;have e:¬ w=wPaper:=by simpa using e
   simp[e]
 rintro B _ ⟨rfl,rfl⟩;refine gZ ?_;refine Ql (fun e=>?_) (fun n0=>?_)
 ·obtain⟨rfl,N⟩:=of_decide_eq_true e
  match f,N,s,D,small with
  | [x,y,z],_,s,D,small =>
   rw[G8];obtain⟨q0,I,U⟩:=s.at (i:=0) (x:=x) rfl;have w0:0<=(0:Int)/\(0:Int)<(n:Int):=by have:n=3:=D;omega
   have x0:0<=(1:Int)/\(1:Int)<(n:Int):=by have:n=3:=D;omega
   have X:0<=(2:Int)/\(2:Int)<(n:Int):=by have:n=3:=D;omega
   refine gZ ?_;refine Qt U ?_;refine t_gr (c3748 (M.le g.1) x (by have:=small x (by simp);omega)) ?_;rintro _ h2 t rfl;have c:=LH.le_trans g t;rw[rangeE_is];obtain⟨q1,E,g2⟩:=(s.le t).at (i:=1) (x:=y) rfl;refine gZ ?_;refine Qt g2 ?_;refine t_gr (c3749 (M.le c.1) y (by have:=small y (by simp);omega)) ?_;rintro _ h3 e0 rfl;have O:=LH.le_trans c e0;rw[numE_is];obtain⟨q2,K,W⟩:=(s.le (LH.le_trans t e0)).at (i:=2) (x:=z) rfl;refine gZ ?_;refine Qt W ?_;refine t_gr (c3750 (M.le O.1) z (by have:=small z (by simp);omega)) ?_;intro r N L hr;have C:=LH.le_trans O L;obtain⟨p5,n5,k5,rfl,s5⟩:=hr.is;refine gZ ?_;refine Zq [eV a (rangeL x).isNone,eV a (numL y).isNone,eV a (listL z).isNone] undEs infE (by decide) (by decide) (fill3 a _ _ _) ?_;intro r6 h6 j0 _ u0;have b0:=LH.le_trans C j0;refine gZ ?_;have es:ErrsS a h6 (some ⟨r6,0,none⟩) [(rangeL x).isNone,(numL y).isNone,(listL z).isNone]:=by
    intro i b hb;refine⟨_,rfl,?_⟩;rw[Nat.mul_one];refine u0 i _ ?_
    match i,hb with
    | 0,hb=>cases hb;rfl
    | 1,hb=>cases hb;rfl
    | 2,hb=>cases hb;rfl
    | i+3,hb=>simp at hb
   refine t_gr (c3751 es (by simp)) ?_;intro r h7 k0 hr;have c0:=LH.le_trans b0 k0;have s7:=s5.le (LH.le_trans j0 k0);refine gZ ?_;refine Qa ⟨c0,?_⟩;rcases hr with⟨hc,rfl⟩|⟨hc,Y⟩
   ·cases G:rangeL x with
    | none=>rw[G]at hc;simp at hc
    | some q =>
     cases F:numL y with
     | none=>rw[G,F]at hc;simp at hc
     | some v =>
      cases S:listL z with
      | none=>rw[G,F,S]at hc;simp at hc
      | some m =>
       rw[S]at s7;exact⟨p5,n5,k5,rfl,s7⟩
   ·have:((rangeL x).bind fun p=>(numL y).bind fun l=>(listL z).map fun m=>LU.paper p.1 p.2 l m)=none:=by
     cases G:rangeL x with
     | none=>rfl
     | some q =>
      cases F:numL y with
      | none=>rfl
      | some v =>
       cases S:listL z with
       | none=>rfl
       | some m=>rw[G,F,S]at hc;simp at hc
    rw[this];exact .bad (.inr Y)
 have n3:=of_decide_eq_false n0;refine Q1 (fun B h'=>B=[.bool (decide (w=wRequest/\f.length=3))]/\P=h') ?_ ?_
 ·refine Zp (b:=wRequest) undS ?_;refine yI (fun e=>?_) (fun e=>?_)
  ·refine Qi ⟨?_,rfl⟩;have e:w=wRequest:=by simpa using e
   rw[show ((n:Int)==3)=decide (f.length=3) from J 3];simp[e]
  ·refine Qi ⟨?_,rfl⟩;have e:¬ w=wRequest:=by simpa using e
   simp[e]
 rintro B _ ⟨rfl,rfl⟩;refine gZ ?_;refine Ql (fun e=>?_) (fun o0=>?_)
 ·obtain⟨rfl,N⟩:=of_decide_eq_true e
  match f,N,s,D,small with
  | [x,y,z],_,s,D,small =>
   rw[W4];have Z:n=3:=D;have hk:=s.1;have s2:BsS P p 2 k [x,y]:=⟨by omega,slTake s.2 (i:=2) (by omega)⟩
   refine Zo undSs infS (i:=2) (by omega) ?_;refine gZ ?_;refine t_gr (c3747 (M.le g.1) s2 (by simp) (fun u hu=>by have:=small u (by simp at hu ⊢;rcases hu with h|h<;>simp[h]);omega)) ?_;intro r h2 t hr;have c:=LH.le_trans g t;have X:0<=(2:Int)/\(2:Int)<(n:Int):=by have:n=3:=D;omega
   obtain⟨q2,K,W⟩:=(s.le t).at (i:=2) (x:=z) rfl;obtain⟨p3,n3,k3,rfl,s3⟩:=hr.is;refine gZ ?_;refine Qt W ?_;refine t_gr (c3750 (M.le c.1) z (by have:=small z (by simp);omega)) ?_;intro r N L s0;have C:=LH.le_trans c L;obtain⟨p5,n5,k5,rfl,s5⟩:=s0.is;refine gZ ?_;refine Za Q (Yr a _) rfl ?_;rw[Yq,Bool.not_not];refine gZ ?_;have H:numsL [x,y]=(numL x).bind fun d=>(numL y).map fun l=>[d,l]:=by
    rw[Z3,Z3,numsL_nil];cases numL x with
    | none=>rfl
    | some d=>cases numL y<;>rfl
   refine Ql (fun e=>?_) (fun e=>?_)
   ·have:((numL x).bind fun d=>(numL y).bind fun l=>(listL z).map fun m=>LU.request d l m)=none:=by
     rw[H]at e;cases G:numL x with
     | none=>rfl
     | some d =>
      cases F:numL y with
      | none=>rfl
      | some l=>rw[G,F]at e;simp at e
    rw[this];refine Qa ⟨C,.bad (.inl ?_)⟩;rw[e];rfl
   ·rw[H]at e s3;cases G:numL x with
    | none=>rw[G]at e;simp at e
    | some d =>
     cases F:numL y with
     | none=>rw[G,F]at e;simp at e
     | some v =>
      rw[G,F]at s3;have s4:=s3.le L;have Z:n3=2:=by have:=s3.2.1;rw[this];rfl
      subst Z;obtain⟨q0,I,g4⟩:=s4.at (i:=0) (x:=(d:Int)) rfl;obtain⟨q1,E,g5⟩:=s4.at (i:=1) (x:=(v:Int)) rfl;rw[I]at E;cases E;rw[Nat.mul_one]at g4 g5;refine gZ ?_;refine Qa ⟨C,?_⟩;cases S:listL z with
      | none=>exact .bad (.inl rfl)
      | some m =>
       rw[S]at s5;exact⟨p5,n5,k5,rfl,s5⟩
 have n4:=of_decide_eq_false o0;rw[item_else n1 n2 n3 n4]
 repeat (refine Jv V ?_;refine gZ ?_)
 exact Qa ⟨g,.bad (.inl rfl)⟩
end Go.Y.Txt
end
section
namespace Go.TM.Tp
def bxC(z:Nat)(el:TypeId)(v:Value):Cells:=oneC z (.cells #[v] el (0,0))
variable {h:LH}{z:Nat}{el:TypeId}{v w:Value}
theorem U1(a:h.get z=none):(h.add (bxC z el v)).get z=some (true,.cells #[v] el (0,0)):=Zw a
theorem bx_cell(a:h.get z=none):(h.add (bxC z el v)).get.cell? ⟨z,0,none⟩=some v:=by
 unfold Cells.cell?;simp only[U1 a];rfl
theorem bx_store(a:h.get z=none):{ h.add (bxC z el v) with get:=(h.add (bxC z el v)).get.setCell ⟨z,0,none⟩ w }=h.add (bxC z el w):=by
 have b:(h.add (bxC z el v)).get.setCell ⟨z,0,none⟩ w=(h.add (bxC z el w)).get:=by
  funext r;unfold Cells.setCell;by_cases e:r=z
  ·subst e;rw[U1 a,if_pos rfl,U1 a];rfl
  ·rw[if_neg e];show h.get.add (bxC z el v) r=h.get.add (bxC z el w) r;unfold Cells.add bxC oneC;simp only[if_neg e]
 show (⟨(h.add (bxC z el v)).get.setCell ⟨z,0,none⟩ w,_,_,_⟩ : LH)=_;rw[b];rfl
theorem Gl(h:LH)(k:Cells):h.le (h.add k):=⟨fun _ _ a=>Qn a,rfl,rfl,rfl⟩
theorem Ul{X:XP}{P:Program}{Q:Leaf->LH->Prop}{k:T}(a:h.get z=none)(b:isOne w=true)(c:k.wp X P Q (h.add (bxC z el w))):(T.store (Addr.add ⟨z,0,none⟩ 0) w k).wp X P Q (h.add (bxC z el v)):=by
 have e:Addr.add ⟨z,0,none⟩ 0=⟨z,0,none⟩:=by rw[Qo]
 rw[e];refine Dg b ⟨_,U1 a⟩ (bx_cell a) (by simp[Cells.frozen?,U1 a]) ?_;rw[bx_store a];exact c
def NextLine(s:Bs)(xs:List Value)(s':Bs):Prop:=s≠[]/\xs=[.string (str (lineCut s).1)]/\s'=(lineCut s).2
def NoLine(s:Bs):Prop:=s=[]
end Go.TM.Tp
namespace Go.Y.Txt
open Go.TM.Tp
theorem hands3743{h₀:LH}{z:Nat}(u:Bs)(L:u.length<=2^40):HandsF X0 Tryz.prog (.func (.func 93) #[] #[.pointer (some ⟨z,0,none⟩)]) h₀ (bxC z 9 (.string (str u))) NextLine NoLine u:=by
 intro y J E K w k h hle B C;refine Zl Qk (by rfl) (?_:FW X0 Tryz.prog 93 #[y,.pointer (some ⟨z,0,none⟩)] (h.add (bxC z 9 (.string (str u)))) _);refine w3743 Qk ?_;refine Qz (fun G I h'=>I=[]/\∃ (s:Bs) (hm:LH),h'=hm.add (bxC z 9 (.string (str s)))/\hm.get z=none/\h₀.le hm/\J s hm/\G=s.length/\s.length<=2^40)
  ⟨rfl,u,h,rfl,Zg C,hle,B,rfl,L⟩ ?_
 rintro Y G I _ x ⟨rfl,s,hm,rfl,o,m,q,rfl,n⟩;have l:=bx_cell (el:=9) (v:=.string (str s)) o;have t:∀ H,Disj hm.get (bxC z 9 (.string (str H))):=fun H=>Gh o;refine gZ ?_;refine Qt l ?_;refine Q5 undS ?_;refine yJ (fun D=>?_) (fun D=>?_)
 ·have h0:s≠[]:=by rintro rfl;simp at D
  have hlen:=G6 h0;have i:=CV.frame Qk (k s hm [.string (str (lineCut s).1)] (lineCut s).2 m ⟨h0,rfl,rfl⟩ q) (t (lineCut s).2);refine Qt l ?_;refine t_pu (c3569 s 10) ?_;rcases Zy 10 s with p|⟨a,r,rfl,p⟩
  ·rw[H7 p];rw[Gs p]at i hlen;refine gZ ?_;refine t_if (fun e=>absurd e (by decide)) (fun _=>?_);refine Qt l ?_;refine Ul o rfl ?_;refine Jb i ?_;rintro b j ⟨h',d,rfl,c,⟨rfl,g⟩|⟨rfl,f⟩⟩
   ·refine yF ?_;exact Qi (x _ _ _ hlen.1 ⟨rfl,[],h',rfl,Zg d,c,g,rfl,by simp⟩)
   ·refine yT ?_;refine gI ?_;refine gZ ?_;exact Qa ⟨LH.le_trans c (Gl _ _),.inr (w _ _ f d)⟩
  ·rw[Wq p];rw[Gq p]at i hlen;have hw:wrap .i64 ((a.length:Int)+1)=((a.length+1:Nat):Int):=by
    have:(a++10::r).length=a.length+r.length+1:=by simp;omega
    rw[Qh (by omega) (by omega)];rfl
   have hb:a.length+1<=(a++10::r).length:=by simp
   have F:(a++10::r).take (a.length+1)=a++[10]:=by simp[List.take_append,List.take_of_length_le]
   have A:(a++10::r).drop (a.length+1)=r:=by simp
   refine gZ ?_;refine t_if (fun _=>?_) (fun e=>by omega);refine Qt l (Qt l ?_);rw[hw];refine Jw ?_ ?_
   ·refine K3 undS hb ?_;rw[F];refine Qj ?_;refine gZ ?_;refine Qt l ?_;refine gZ ?_;refine Jw ?_ ?_
    ·refine K2 undS hb ?_;rw[A];refine Qj ?_;refine gZ ?_;refine Ul o rfl (Jb i ?_);rintro b j ⟨h',d,rfl,c,⟨rfl,g⟩|⟨rfl,f⟩⟩
     ·refine yF ?_;exact Qi (x _ _ _ hlen.1 ⟨rfl,r,h',rfl,Zg d,c,g,rfl,by simp at hlen n;omega⟩)
     ·refine yT ?_;refine gI ?_;refine gZ ?_;exact Qa ⟨LH.le_trans c (Gl _ _),.inr (w _ _ f d)⟩
    ·refine gZ ?_;refine Qt l ?_;refine gZ ?_;refine K2 undS hb ?_;rw[A];refine Qj ?_;refine gZ ?_;refine Ul o rfl (Jb i ?_);rintro b j ⟨h',d,rfl,c,⟨rfl,g⟩|⟨rfl,f⟩⟩
     ·refine yF ?_;exact Qi (x _ _ _ hlen.1 ⟨rfl,r,h',rfl,Zg d,c,g,rfl,by simp at hlen n;omega⟩)
     ·refine yT ?_;refine gI ?_;refine gZ ?_;exact Qa ⟨LH.le_trans c (Gl _ _),.inr (w _ _ f d)⟩
   ·refine K2 undS hb ?_;rw[A];refine Qj ?_;refine gZ ?_;refine Qt l ?_;refine gZ ?_;refine K3 undS hb ?_;rw[F];refine Qj ?_;refine gZ ?_;refine Ul o rfl (Jb i ?_);rintro b j ⟨h',d,rfl,c,⟨rfl,g⟩|⟨rfl,f⟩⟩
    ·refine yF ?_;exact Qi (x _ _ _ hlen.1 ⟨rfl,r,h',rfl,Zg d,c,g,rfl,by simp at hlen n;omega⟩)
    ·refine yT ?_;refine gI ?_;refine gZ ?_;exact Qa ⟨LH.le_trans c (Gl _ _),.inr (w _ _ f d)⟩
 ·have h0:s=[]:=List.eq_nil_of_length_eq_zero (by omega);refine gH ?_;refine gZ ?_;exact Qa ⟨LH.le_trans m (Gl _ _),.inl ⟨s,h0,K _ _ _ q (t s)⟩⟩
theorem c3726{h:LH}(s:Bs):FW X0 Tryz.prog 47 #[.string (str s)] h fun r h'=>∃ z,r=.func (.func 93) #[] #[.pointer (some ⟨z,0,none⟩)]/\h.get z=none/\h'=h.add (bxC z 9 (.string (str s))):=by
 refine w3726 Qk ?_;refine Z9 fun z a=>?_;refine Qa ⟨z,rfl,a,?_⟩;unfold LH.add;congr 1;funext r;unfold Cells.upd Cells.add bxC oneC;by_cases e:r=z
 ·subst e;simp only[if_pos rfl,a]
 ·simp only[if_neg e];cases h.get r<;>rfl
end Go.Y.Txt
end
section
namespace Go.TM.Rv
/-! ### Halves -/
def diff(h h':Cells):Cells:=fun r=>match h r with
 | some _=>none
 | none=>h' r
theorem diff_disj(h h':Cells):Disj h (diff h h'):=fun r=>by
 unfold diff;cases h r with
 | none=>exact .inl rfl
 | some x=>exact .inr rfl
theorem diff_get{h h':Cells}(a:h.le h'):h.add (diff h h')=h':=by
 funext r;unfold Cells.add diff;cases e:h r with
 | none=>rfl
 | some x=>exact(a r x e).symm
theorem diff_add{h h':LH}(e:h.le h'):h.add (diff h.get h'.get)=h':=by
 obtain⟨d,a,b,c⟩:=e;show ({ h with get:=h.get.add (diff h.get h'.get) }:LH)=h';rw[diff_get d];cases h;cases h';simp only at a b c;subst a;subst b;subst c;rfl
section
variable {P:Program} {X:XP} {Q:Leaf->LH->Prop}
end
end Go.TM.Rv
end
section
namespace Go.TM.Tp
variable {hB h':LH}{k n c:Nat}{el:TypeId}{p:Option Addr}
theorem t_grB{X:XP}{P:Program}{Q:Leaf->LH->Prop}{f:FuncId}{args:Array Value}{k:Value->T}{V:Value->LH->Prop}(hle:hB.le h')(c:Gr P f args hB V)
 (o:∀ v b g,hB.le b->b.le g->h'.le g->(∀ r,hB.get r=none->h'.get r≠none->b.get r=none)->V v b->(k v).wp X P Q g):(T.call false f args k).wp X P Q h':=by
 have e:=Rv.diff_add hle;have d:=Rv.diff_disj hB.get h'.get;rw[<- e];refine Jn (Dd (FW.frame Qk c d)) ?_;rintro v _ ⟨n,d2,rfl,a,hv⟩;refine o v n _ a (Gl _ _) ⟨fun r x i=>?_,a.2.1.trans ?_,a.2.2.1.trans ?_,a.2.2.2.trans ?_⟩ (fun r h0 m=>?_) hv
 ·rw[<- e]at i;cases hb:hB.get r with
  | some y =>
   have l:h'.get r=some y:=hle.1 _ _ hb;rw[e]at i;rw[l]at i;cases i;exact Qn (a.1 _ _ hb)
  | none =>
   have j:Rv.diff hB.get h'.get r=some x:=by
    have:=i;unfold LH.add Cells.add at this;simp only[hb]at this;exact this
   exact Q8 d2 j
 ·exact hle.2.1.symm
 ·exact hle.2.2.1.symm
 ·exact hle.2.2.2.symm
 ·rcases d2 r with h|h
  ·exact h
  ·exfalso;apply m;unfold Rv.diff at h;rw[h0]at h;exact h
theorem Wp{α:Type}{Enc d:α->List Value->Prop}{f e:LH}{l:List α}(hm:∀ x ws,Enc x ws->d x ws)(j:h'.le e)(q:∀ r,hB.get r=none->h'.get r≠none->f.get r=none)(g:Growing Enc el k hB.get h'.get p n c l):Growing d el k f.get e.get p n c l:=by
 obtain⟨s,o,r⟩:=g.row;refine⟨⟨s,o.le j.1,r.mono hm⟩,fun a h=>q _ (g.new a h) ?_⟩;rcases o.2 with⟨i,_⟩|⟨b,cs,i,m,_⟩
 ·rw[i]at h;cases h
 ·rw[i]at h;cases h;rw[m];simp
theorem Zv{α β:Type}{Enc:α->List Value->Prop}{d:β->List Value->Prop}{f:TypeId}{k':Nat}{h₀ e h h':Cells}{q:Option Addr}{w t:Nat}{l:List α}{m:List β}(s:el≠f)(g:Growing Enc el k h₀ h p n c l)(g':Growing d f k' e h q w t m)(kept:∀ r y,(∀ a,p=some a->a.block≠r)->h r=some y->h' r=some y):Growing d f k' e h' q w t m:=by
 obtain⟨B,o,r⟩:=g'.row;refine⟨⟨B,⟨o.1,?_⟩,r⟩,g'.new⟩;rcases o.2 with i|⟨b,cs,i,u,z⟩
 ·exact .inl i
 ·refine .inr ⟨b,cs,i,kept b _ ?_ u,z⟩;rintro a rfl rfl;obtain⟨C,A,_⟩:=g.row;rcases A.2 with⟨j,_⟩|⟨D,x,j,v,_⟩
  ·cases j
  ·cases j;rw[u]at v;cases v;exact s rfl
end Go.TM.Tp
namespace Go.Y.Txt
open Go.TM.Tp
variable {h:Cells}{h' hB:LH}{f:FileC}{u:UseFile}{X:XP}{Q:Leaf->LH->Prop}{q:Option Addr}{m d:Nat}
theorem paperEnc_mono{h':Cells}(a:h.le h'):∀ x ws,PaperEnc h x ws->PaperEnc h' x ws:=by
 rintro x _ ⟨q,m,c,rfl,s⟩;exact⟨q,m,c,rfl,s.le IntE.grow a⟩
theorem reqEnc_mono{h':Cells}(a:h.le h'):∀ x ws,ReqEnc h x ws->ReqEnc h' x ws:=by
 rintro x _ ⟨q,m,c,rfl,s⟩;exact⟨q,m,c,rfl,s.le IntE.grow a⟩
theorem elX:(46:TypeId)≠49/\(46:TypeId)≠51/\(49:TypeId)≠51:=by decide
structure PSt(hB h':LH)(f:FileC)(u:UseFile):Prop where
 le:hB.le h'
 g4:Growing SpanEnc 46 2 hB.get h'.get f.p4 f.n4 f.c4 u.excuses
 g5:Growing (PaperEnc hB.get) 49 4 hB.get h'.get f.p5 f.n5 f.c5 u.papers
 g6:Growing (ReqEnc hB.get) 51 3 hB.get h'.get f.p6 f.n6 f.c6 u.requests
theorem PSt.none{h:LH}:PSt h h ⟨.none,0,0,.none,0,0,.none,0,0⟩ noFile:=⟨LH.le_refl _,Growing.nil,Growing.nil,Growing.nil⟩
theorem PSt.fileR(s:PSt hB h' f u)(a:Few u):FileR h'.get f u :=
 ⟨s.g4.sl SpanEnc.len (by omega) SpanEnc.e (by have:=a.1;omega),s.g5.sl PaperEnc.len (by omega) (PaperEnc.e (Rd.of_le s.le.1)) (by have:=a.2.1;omega),s.g6.sl ReqEnc.len (by omega) (ReqEnc.e (Rd.of_le s.le.1)) (by have:=a.2.2;omega)⟩
theorem PSt.rebase{a b:LH}(s:PSt hB h' f u)(e:hB.le a)(g:a.le b)(c:h'.le b)(d:∀ r,hB.get r=.none->h'.get r≠.none->a.get r=.none):PSt a b f u :=
 ⟨g,Wp (fun _ _ h=>h) c d s.g4,Wp (paperEnc_mono e.1) c d s.g5,Wp (reqEnc_mono e.1) c d s.g6⟩
theorem t_putX{K:Option Addr->Nat->Nat->T}(s:PSt hB h' f u)(h:Few u)(x:Span)
 (n:∀ g e c,PSt hB c { f with p4:=g,n4:=f.n4+1,c4:=e } (putX u x)->(K g (f.n4+1) e).wp X Tryz.prog Q c) :
  (T.sem false (Instr.buildSlice 22 1 #[(0,.agg #[.int .i64 x.first,.int .i64 x.last])]) fun v=>T.unS v fun a m o=>T.sem false (Builtin.append_ #[22,22] 22 #[.slice f.p4 f.n4 f.c4,.slice a m o]) fun v=>T.unS v K).wp X Tryz.prog Q h':=by
 have t:=s.g4.count SpanEnc.len (by omega);have q:=h.1;refine Zq [.int .i64 x.first,.int .i64 x.last] Kp K1 (by decide) (by decide) (by kernel_rfl) ?_;intro r p b _ i;refine gZ ?_;refine Hh (h₀:=hB) (Enc:=SpanEnc) x [.int .i64 x.first,.int .i64 x.last] rfl rfl Kp K1 rfl (by omega) (by omega) (s.g4.le b.1) (LH.le_trans s.le b) rfl rfl i (by intro w hw;simp at hw;rcases hw with rfl|rfl<;>rfl) ?_;intro g e l j d k;refine gZ ?_;exact n g e l ⟨j,k,Zv elX.1 (s.g4.le b.1) (s.g5.le b.1) d,Zv elX.2.1 (s.g4.le b.1) (s.g6.le b.1) d⟩
theorem t_putP{K:Option Addr->Nat->Nat->T}(s:PSt hB h' f u)(i:Few u)(x:Paper)(t:Sl IntE 1 hB.get q m x.items)
 (o:∀ h g c,PSt hB c { f with p5:=h,n5:=f.n5+1,c5:=g } (putP u x)->(K h (f.n5+1) g).wp X Tryz.prog Q c) :
  (T.sem false (Instr.buildSlice 23 1 #[(0,.agg #[.int .i64 x.days.first,.int .i64 x.days.last,.int .i64 x.land,.slice q m d])]) fun v=>T.unS v fun a m p=>T.sem false (Builtin.append_ #[23,23] 23 #[.slice f.p5 f.n5 f.c5,.slice a m p]) fun v=>T.unS v K).wp X Tryz.prog Q h':=by
 have A:=s.g5.count PaperEnc.len (by omega);have z:=i.2.1;refine Zq [.int .i64 x.days.first,.int .i64 x.days.last,.int .i64 x.land,.slice q m d] Z4 K0 (by decide) (by decide) (by kernel_rfl) ?_;intro r y b _ j;refine gZ ?_;refine Hh (h₀:=hB) (Enc:=PaperEnc hB.get) x [.int .i64 x.days.first,.int .i64 x.days.last,.int .i64 x.land,.slice q m d] rfl rfl Z4 K0 rfl (by omega) (by omega) (s.g5.le b.1) (LH.le_trans s.le b) ⟨q,m,d,rfl,t⟩ rfl j (by intro w hw;simp at hw;rcases hw with rfl|rfl|rfl|rfl<;>rfl) ?_;intro h g n k e l;refine gZ ?_;exact o h g n ⟨k,Zv elX.1.symm (s.g5.le b.1) (s.g4.le b.1) e,l,Zv elX.2.2 (s.g5.le b.1) (s.g6.le b.1) e⟩
theorem t_putR{K:Option Addr->Nat->Nat->T}(s:PSt hB h' f u)(i:Few u)(x:Request)(t:Sl IntE 1 hB.get q m x.items)
 (o:∀ h g c,PSt hB c { f with p6:=h,n6:=f.n6+1,c6:=g } (putR u x)->(K h (f.n6+1) g).wp X Tryz.prog Q c) :
  (T.sem false (Instr.buildSlice 24 1 #[(0,.agg #[.int .i64 x.day,.int .i64 x.land,.slice q m d])]) fun v=>T.unS v fun a m p=>T.sem false (Builtin.append_ #[24,24] 24 #[.slice f.p6 f.n6 f.c6,.slice a m p]) fun v=>T.unS v K).wp X Tryz.prog Q h':=by
 have A:=s.g6.count ReqEnc.len (by omega);have z:=i.2.2;refine Zq [.int .i64 x.day,.int .i64 x.land,.slice q m d] und24 Dp (by decide) (by decide) (by kernel_rfl) ?_;intro r y b _ j;refine gZ ?_;refine Hh (h₀:=hB) (Enc:=ReqEnc hB.get) x [.int .i64 x.day,.int .i64 x.land,.slice q m d] rfl rfl und24 Dp rfl (by omega) (by omega) (s.g6.le b.1) (LH.le_trans s.le b) ⟨q,m,d,rfl,t⟩ rfl j (by intro w hw;simp at hw;rcases hw with rfl|rfl|rfl<;>rfl) ?_;intro h g n k e l;refine gZ ?_;exact o h g n ⟨k,Zv elX.2.1.symm (s.g6.le b.1) (s.g4.le b.1) e,Zv elX.2.2.symm (s.g6.le b.1) (s.g5.le b.1) e,l⟩
end Go.Y.Txt
end
section
namespace Go.TM.Tp
section
variable {P:Program} {X:XP} {Q:Leaf->LH->Prop}
variable {h:LH}{K:Value->T}{xT asserted:TypeId}{v:Value}
theorem Hi{fs:Array Field}(hu:P.underlying asserted=some (.struct fs))(a:(K (.tuple #[v,.bool true])).wp X P Q h):(T.sem false (Instr.typeAssert (.iface asserted v) xT asserted true) K).wp X P Q h:=by
 refine Q9 (A:=fun w h'=>w=.tuple #[v,.bool true]/\h'=h.get) ?_ (by rintro w h' ⟨rfl,rfl⟩;exact a);unfold Instr.typeAssert;simp only[lwp_bind,Qc hu,if_true,Qg];exact⟨trivial,trivial⟩
theorem Wb{t:TypeId}{z:Value}{fs:Array Field}(hu:P.underlying asserted=some (.struct fs))(a:t≠asserted)(e:(P.info? asserted).map (·.zero)=some (some z))(d:(K (.tuple #[z,.bool false])).wp X P Q h):(T.sem false (Instr.typeAssert (.iface t v) xT asserted true) K).wp X P Q h:=by
 obtain⟨j,c,b⟩:=Option.map_eq_some_iff.1 e;refine Q9 (A:=fun w h'=>w=.tuple #[z,.bool false]/\h'=h.get) ?_ (by rintro w h' ⟨rfl,rfl⟩;exact d);unfold Instr.typeAssert;simp only[lwp_bind,Qc hu,if_neg a,if_true,Je c b,Qg];exact⟨trivial,trivial⟩
end
end Go.TM.Tp
namespace Go.Y.Txt
open Go.TM.Tp
variable {v:Value}{H:Cells}{X:XP}{h:LH}{a:Addr}
theorem via_p0_eq{A : Next -> Cells -> Prop}{E : Halt -> Cells -> Prop} : Qd Tryz.prog (do let d <- Deferred.ofValue (.func (.func 268) #[] #[]) #[v]; invoke d.target d.args) A E H = Qd Tryz.prog (do let d <- Deferred.ofValue (.func (.method "touchmark/use.place") #[.iface 104 v] #[]) #[]; invoke d.target d.args) A E H := by
 kernel_rfl
theorem via_p0{Q : Value -> LH -> Prop}(c : CV X Tryz.prog (.func (.func 268) #[] #[]) #[v] h Q) : CV X Tryz.prog (.func (.method "touchmark/use.place") #[.iface 104 v] #[]) #[] h Q := by
 unfold CV at c ⊢;intro main R hR fr cs hk;exact via_p0_eq.mp (c main R hR fr cs hk)
theorem via_p1_eq{A : Next -> Cells -> Prop}{E : Halt -> Cells -> Prop} : Qd Tryz.prog (do let d <- Deferred.ofValue (.func (.func 269) #[] #[]) #[v]; invoke d.target d.args) A E H = Qd Tryz.prog (do let d <- Deferred.ofValue (.func (.method "touchmark/use.place") #[.iface 106 v] #[]) #[]; invoke d.target d.args) A E H := by
 kernel_rfl
theorem via_p1{Q : Value -> LH -> Prop}(c : CV X Tryz.prog (.func (.func 269) #[] #[]) #[v] h Q) : CV X Tryz.prog (.func (.method "touchmark/use.place") #[.iface 106 v] #[]) #[] h Q := by
 unfold CV at c ⊢;intro main R hR fr cs hk;exact via_p1_eq.mp (c main R hR fr cs hk)
theorem via_p2_eq{A : Next -> Cells -> Prop}{E : Halt -> Cells -> Prop} : Qd Tryz.prog (do let d <- Deferred.ofValue (.func (.func 270) #[] #[]) #[v]; invoke d.target d.args) A E H = Qd Tryz.prog (do let d <- Deferred.ofValue (.func (.method "touchmark/use.place") #[.iface 108 v] #[]) #[]; invoke d.target d.args) A E H := by
 kernel_rfl
theorem via_p2{Q : Value -> LH -> Prop}(c : CV X Tryz.prog (.func (.func 270) #[] #[]) #[v] h Q) : CV X Tryz.prog (.func (.method "touchmark/use.place") #[.iface 108 v] #[]) #[] h Q := by
 unfold CV at c ⊢;intro main R hR fr cs hk;exact via_p2_eq.mp (c main R hR fr cs hk)
theorem via_p3_eq{A : Next -> Cells -> Prop}{E : Halt -> Cells -> Prop} : Qd Tryz.prog (do let d <- Deferred.ofValue (.func (.func 271) #[] #[]) #[v]; invoke d.target d.args) A E H = Qd Tryz.prog (do let d <- Deferred.ofValue (.func (.method "touchmark/use.place") #[.iface 110 v] #[]) #[]; invoke d.target d.args) A E H := by
 kernel_rfl
theorem via_p3{Q : Value -> LH -> Prop}(c : CV X Tryz.prog (.func (.func 271) #[] #[]) #[v] h Q) : CV X Tryz.prog (.func (.method "touchmark/use.place") #[.iface 110 v] #[]) #[] h Q := by
 unfold CV at c ⊢;intro main R hR fr cs hk;exact via_p3_eq.mp (c main R hR fr cs hk)
theorem undL0:∃ fs,Tryz.prog.underlying 104=some (.struct fs)/\(Tryz.prog.info? 104).map (·.zero)=some (some (.agg #[.int .i64 0,.int .i64 0,.int .i64 0,.int .i64 0])):=⟨_,Tryz.underlying104,by kernel_rfl⟩
theorem undL1:∃ fs,Tryz.prog.underlying 106=some (.struct fs)/\(Tryz.prog.info? 106).map (·.zero)=some (some (.agg #[.int .i64 0,.int .i64 0])):=⟨_,Tryz.underlying106,by kernel_rfl⟩
theorem undL2:∃ fs,Tryz.prog.underlying 108=some (.struct fs)/\(Tryz.prog.info? 108).map (·.zero)=some (some (.agg #[.int .i64 0,.int .i64 0,.int .i64 0,.slice none 0 0])):=⟨_,Tryz.underlying108,by kernel_rfl⟩
theorem undL3:∃ fs,Tryz.prog.underlying 110=some (.struct fs)/\(Tryz.prog.info? 110).map (·.zero)=some (some (.agg #[.int .i64 0,.int .i64 0,.slice none 0 0])):=⟨_,Tryz.underlying110,by kernel_rfl⟩
theorem lineT:(104:TypeId)≠106/\(104:TypeId)≠108/\(104:TypeId)≠110/\(106:TypeId)≠108/\(106:TypeId)≠110/\(108:TypeId)≠110:=by decide
def LineV(x:LU)(v:Value)(h:LH):Prop:=match x with
 | .use x y z w=>v=.iface 104 (.agg #[.int .i64 (x:Int),.int .i64 (y:Int),.int .i64 (z:Int),.int .i64 (w:Int)])
 | .excuse x y=>v=.iface 106 (.agg #[.int .i64 (x:Int),.int .i64 (y:Int)])
 | .paper x y l m=>∃ p n c,v=.iface 108 (.agg #[.int .i64 (x:Int),.int .i64 (y:Int),.int .i64 (l:Int),.slice p n c])/\InS h p n c (ints m)
 | .request d l m=>∃ p n c,v=.iface 110 (.agg #[.int .i64 (d:Int),.int .i64 (l:Int),.slice p n c])/\InS h p n c (ints m)
theorem LineR.val{x:LU}{r:Value}(l:LineR a (some x) r h):∃ v,r=.tuple #[v,.nilIface]/\LineV x v h:=by
 cases x with
 | use x y z w=>exact⟨_,l,rfl⟩
 | excuse x y=>exact⟨_,l,rfl⟩
 | paper x y f m=>obtain⟨p,n,c,b,e⟩:=l;exact⟨_,b,p,n,c,rfl,e⟩
 | request d f m=>obtain⟨p,n,c,b,e⟩:=l;exact⟨_,b,p,n,c,rfl,e⟩
theorem Uz{hB: LH}{x : LU}(l : LineV x v hB) : CV X0 Tryz.prog (.func (.method "touchmark/use.place") #[v] #[]) #[] h (fun r h' => r = .int .i64 (x.place : Int) /\ h' = h) := by
 cases x with
 | use x y z w=>obtain rfl:=l;exact via_p0 (Zl Qk (by rfl) (c3807 _ _ _ _))
 | excuse x y=>obtain rfl:=l;exact via_p1 (Zl Qk (by rfl) (c3808 _ _))
 | paper x y l' m=>obtain⟨p,n,c,rfl,_⟩:=l;exact via_p2 (Zl Qk (by rfl) (c3809 _ _ _ _ _ _))
 | request d l' m=>obtain⟨p,n,c,rfl,_⟩:=l;exact via_p3 (Zl Qk (by rfl) (c3810 _ _ _ _ _))
theorem Parts.le{h h':Cells}(b:h.le h')(p:Parts h):Parts h':=fun j a=>Qe b (p j a)
theorem place_cond(a n:Nat):(!(((a:Int)==0)==(((n+1:Nat):Int)==1)))=decide (a=0↔n≠0):=by
 by_cases c:a=0
 ·by_cases b:n=0
  ·subst c;subst b;rfl
  ·have:(((n+1:Nat):Int)==1)=false:=by simp;omega
   rw[this];simp[c,b]
 ·have d:((a:Int)==0)=false:=by simp;omega
  rw[d];by_cases b:n=0
  ·subst b;simp[c]
  ·have:(((n+1:Nat):Int)==1)=false:=by simp;omega
   rw[this];simp[c,b]
def ParI(h:LH)(t:Bs)(s:Bs)(vs:List Value)(h':LH):Prop:=∃ (hB:LH) (n p:Nat) (u:UseFile) (f:FileC),h.le hB/\PSt hB h' f u /\
 vs=[.int .i64 u.items,.int .i64 u.lands,.int .i64 u.from_,.int .i64 u.idle,.slice f.p4 f.n4 f.c4,.slice f.p5 f.n5 f.c5,.slice f.p6 f.n6 f.c6,.int .i64 (n:Int),.int .i64 0,.int .i64 (p:Int)] /\
 goU n p u (linesL s)=goU 0 0 noFile (linesL t)/\s.length+n<=t.length/\(u.excuses.length<=n/\u.papers.length<=n/\u.requests.length<=n)/\(n=0->s=t)/\(n≠0->t≠[])/\p<=3
theorem c3706(hp:Parts h.get)(ea:ErrL a h.get)(t:Bs):Gr Tryz.prog 11 #[.string (str t)] h fun r h'=>ParseA (parseU t) r h':=by
 refine w3706 _ Qk ?_;unfold n3706;refine Q5 undS ?_;refine yJ (fun e=>?_) (fun e=>?_)
 ·have:parseU t=(noFile,0,2):=by unfold parseU;rw[if_pos (by omega)]
  rw[this];exact Qa ⟨LH.le_refl _,.none⟩
 have ht:¬ 60000<t.length:=by omega
 refine Jn (Dd (c3726 t)) ?_;rintro _ _ ⟨z,rfl,hz,rfl⟩;refine t_eachF (μ:=List.length) ?_ (hm:=h) (k₀:=bxC z 9 (.string (str t))) rfl (Gh hz) (LH.le_refl h) (hands3743 t (by omega)) (ParI h t) ⟨h,0,0,noFile,_,LH.le_refl _,PSt.none,rfl,rfl,by omega,by simp[noFile],fun _=>rfl,fun h0=>absurd rfl h0,by omega⟩ ?_ ?_
 ·rintro s xs s' ⟨h0,rfl,rfl⟩;exact(G6 h0).1
 ·rintro s U h' O P ⟨hB,n,p,u,f,G,S,rfl,hgo,a0,X,h0,h1,_⟩;have hs:s=[]:=O;subst hs;have M:goU 0 0 noFile (linesL t)=(u,none):=by rw[<- hgo,lines_nil,goU]
  rw[parse_right ht M];refine yI (fun e=>?_) (fun e=>?_)
  ·have H:n=0:=by
    have:(n:Int)=0:=by simpa using e
    omega
   rw[if_pos (by rw[<- h0 H,lines_nil])];exact Qa ⟨P,.none⟩
  ·have H:n≠0:=fun h=>by rw[h]at e;simp at e
   rw[if_neg (by rw[lines_step (h1 H)];simp)];have j:Few u:=⟨by omega,by omega,by omega⟩
   refine t_gr (c26 (Parts.le P.1 hp) (S.fileR j)) ?_;rintro _ E I rfl;refine yI (fun e=>?_) (fun e=>?_)
   ·have hc:checkF u≠0:=by simpa using e
    rw[if_pos hc];exact Qa ⟨LH.le_trans P I,.none⟩
   ·have hc:checkF u=0:=by simpa using e
    rw[if_neg (by simp[hc])];exact Qa ⟨LH.le_trans P I,f,rfl,(S.fileR j).le I.1⟩
 ·rintro s xs s' U h' ⟨D,rfl,rfl⟩ P ⟨hB,n,p,u,f,G,S,rfl,hgo,a0,X,h0,h1,m0⟩ Y V;have l0:=G6 D;have o0:=trimS_len 10 (lineCut s).1;rw[lines_step D]at hgo;refine gZ ?_;refine Qj ?_;refine gZ ?_;refine t_pu (c3728 _ 10 (by omega)) ?_;refine Qj ?_;refine t_grB S.le (c3727 (ea.le G.1) (trimS 10 (lineCut s).1) (by omega)) ?_;generalize trimS 10 (lineCut s).1=b at *;generalize (lineCut s).2=s' at *;intro r A E l1 l2 l3 ld hr;have F:=S.rebase l1 l2 l3 ld;have g:=LH.le_trans G l1;have c:h.le E:=LH.le_trans g l2;have g0:E.get.cell? ⟨0,0,none⟩=some (errV a):=ea.le c.1;have Q:wrap .i64 ((n:Int)+1)=((n+1:Nat):Int):=by rw[Qh (by omega) (by omega)];rfl
  have C:(∀ x,lineU b=some x->x.place<p\/(x.place=0↔n≠0))->parseU t=(noFile,n+1,3):=fun K=>parse_wrong ht (by rw[<- hgo];exact go_fail K);cases L:lineU b with
  | none =>
   rw[L]at hr;obtain⟨v,e,rfl,bad⟩:=hr;have hw:=C (by rw[L];simp);refine gZ ?_;rw[Q];refine Q1 (fun U h'=>False) ?_ (fun _ _ hf=>hf.elim);refine Jv g0 ?_;refine t_pu (c3729 (bad.le l2)) ?_;refine yT ?_;refine gZ ?_;refine Jw ?_ ?_
   ·refine gZ ?_;refine Jw ?_ ?_
    ·refine gZ ?_;refine Ww c ?_;refine gZ ?_;rw[hw];exact Qa ⟨c,.none⟩
    ·refine gZ ?_;refine Ww c ?_;refine gZ ?_;rw[hw];exact Qa ⟨c,.none⟩
   ·refine gZ ?_;refine Ww c ?_;refine gZ ?_;rw[hw];exact Qa ⟨c,.none⟩
  | some x =>
   rw[L]at hr;obtain⟨v,rfl,J⟩:=hr.val;have j:Few u:=⟨by omega,by omega,by omega⟩
   refine gZ ?_;rw[Q];refine Q1 (fun U h'=>U=[.int .i64 u.items,.int .i64 u.lands,.int .i64 u.from_,.int .i64 u.idle,.slice f.p4 f.n4 f.c4,.slice f.p5 f.n5 f.c5,.slice f.p6 f.n6 f.c6,.int .i64 ((n+1:Nat):Int),.int .i64 0]/\E=h'/\¬ (x.place<p\/(x.place=0↔n≠0))) ?_ ?_
   ·refine Jv g0 ?_;refine t_pu c3729n ?_;refine yF ?_;refine Jb (Uz J) ?_;rintro _ E ⟨rfl,rfl⟩;refine yJ (fun e=>?_) (fun e=>?_)
    ·have hw:=C (fun y R=>by rw[L]at R;cases R;exact .inl (by omega));refine gZ ?_;refine Jw ?_ ?_
     ·refine gZ ?_;refine Jw ?_ ?_
      ·refine gZ ?_;refine Ww c ?_;refine gZ ?_;rw[hw];exact Qa ⟨c,.none⟩
      ·refine gZ ?_;refine Ww c ?_;refine gZ ?_;rw[hw];exact Qa ⟨c,.none⟩
     ·refine gZ ?_;refine Ww c ?_;refine gZ ?_;rw[hw];exact Qa ⟨c,.none⟩
    refine Jb (Uz J) ?_;rintro _ E ⟨rfl,rfl⟩;refine gZ ?_;rw[place_cond];refine Ql (fun M=>?_) (fun M=>?_)
    ·have hw:=C (fun y R=>by rw[L]at R;cases R;exact .inr (of_decide_eq_true M));refine gZ ?_;refine Ww c ?_;refine gZ ?_;rw[hw];exact Qa ⟨c,.none⟩
    ·have e3:=of_decide_eq_false M;exact Qi ⟨rfl,rfl,fun K=>by rcases K with K|K;exact e (by omega);exact e3 K⟩
   rintro U k0 ⟨rfl,rfl,Z⟩;have k:goU (n+1) x.place (x.put u) (linesL s')=goU 0 0 noFile (linesL t):=by rw[<- go_next L Z];exact hgo
   have n0:=put_len u x;have B:s.length<=t.length:=by omega
   refine gZ ?_;refine Jb (Uz J) ?_;rintro _ E ⟨rfl,rfl⟩;obtain⟨b0,W,z0⟩:=undL0;obtain⟨c0,u1,z1⟩:=undL1;obtain⟨e0,u2,z2⟩:=undL2;obtain⟨j0,u3,z3⟩:=undL3;obtain⟨k1,k2,k3,k4,k5,k6⟩:=lineT;have o:x.place<=3:=by cases x<;>exact Nat.le_of_ble_eq_true rfl
   revert k o;generalize x.place=pl;intro k o;refine gZ ?_;cases x with
   | use x y w d =>
    obtain rfl:=J;refine Hi W ?_;refine yT ?_;have i:PSt A E f ((LU.use x y w d).put u):=⟨F.le,F.g4,F.g5,F.g6⟩
    refine gZ ?_;refine Wj (LH.le_trans g i.le) (V _ _ (LH.le_trans g i.le) ⟨A,n+1,pl,_,_,g,i,rfl,k,by omega,⟨by omega,by omega,by omega⟩,fun h=>absurd h (by omega),fun _ e=>D (List.eq_nil_of_length_eq_zero (by rw[e]at B;exact Nat.le_zero.1 B)),o⟩)
   | excuse x y =>
    obtain rfl:=J;refine Wb W k1.symm z0 ?_;refine yF ?_;refine Hi u1 ?_;refine yT ?_;refine t_putX F j ⟨x,y⟩ fun p' c' N i=>?_;have i:PSt A N _ ((LU.excuse x y).put u):=i;refine gZ ?_;refine Wj (LH.le_trans g i.le) (V _ _ (LH.le_trans g i.le) ⟨A,n+1,pl,_,_,g,i,rfl,k,by omega,⟨by omega,by omega,by omega⟩,fun h=>absurd h (by omega),fun _ e=>D (List.eq_nil_of_length_eq_zero (by rw[e]at B;exact Nat.le_zero.1 B)),o⟩)
   | paper x y l m =>
    obtain⟨q,qn,qc,rfl,si⟩:=J;refine Wb W k2.symm z0 ?_;refine yF ?_;refine Wb u1 k4.symm z1 ?_;refine yF ?_;refine Hi u2 ?_;refine yT ?_;refine t_putP F j ⟨⟨x,y⟩,l,ints m⟩ si.2 fun p' c' N i=>?_;have i:PSt A N _ ((LU.paper x y l m).put u):=i;refine gZ ?_;refine Wj (LH.le_trans g i.le) (V _ _ (LH.le_trans g i.le) ⟨A,n+1,pl,_,_,g,i,rfl,k,by omega,⟨by omega,by omega,by omega⟩,fun h=>absurd h (by omega),fun _ e=>D (List.eq_nil_of_length_eq_zero (by rw[e]at B;exact Nat.le_zero.1 B)),o⟩)
   | request d l m =>
    obtain⟨q,qn,qc,rfl,si⟩:=J;refine Wb W k3.symm z0 ?_;refine yF ?_;refine Wb u1 k5.symm z1 ?_;refine yF ?_;refine Wb u2 k6.symm z2 ?_;refine yF ?_;refine Hi u3 ?_;refine yT ?_;refine t_putR F j ⟨d,l,ints m⟩ si.2 fun p' c' N i=>?_;have i:PSt A N _ ((LU.request d l m).put u):=i;refine gZ ?_;refine Wj (LH.le_trans g i.le) (V _ _ (LH.le_trans g i.le) ⟨A,n+1,pl,_,_,g,i,rfl,k,by omega,⟨by omega,by omega,by omega⟩,fun h=>absurd h (by omega),fun _ e=>D (List.eq_nil_of_length_eq_zero (by rw[e]at B;exact Nat.le_zero.1 B)),o⟩)
end Go.Y.Txt
end

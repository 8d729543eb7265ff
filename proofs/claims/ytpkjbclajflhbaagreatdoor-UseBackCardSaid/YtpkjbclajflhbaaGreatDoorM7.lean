/- use: what is printed is parsed as it was: UseBack -/
import Derived.Test.YtpkjbclajflhbaaGreatDoorM6
set_option linter.all false
noncomputable section
open Go Go.Conc Go.TM Go.Proofs
set_option maxRecDepth 100000
open Go.IntKind (wrap)
section
namespace Go.Y.Txt
open Go.TM.Tp
attribute [local irreducible] T.wp CV FWK
def errV(a:Addr):Value:=.iface 340 (.pointer (some a))
def ErrL(a:Addr)(h:Cells):Prop:=h.cell? ⟨0,0,none⟩=some (errV a)
variable {h:LH}{a:Addr}
theorem ErrL.le{a:Addr}{h h':Cells}(b:h.le h')(e:ErrL a h):ErrL a h':=Qd b e
def numE(a:Addr)(o:Option Nat):Value:=match o with
 | some n=>.tuple #[.int .i64 (n:Int),.nilIface]
 | none=>.tuple #[.int .i64 0,errV a]
theorem c3749(y:ErrL a h.get)(l:Bs)(B:l.length<=2^40):Gr Tryz.prog 100 #[.string (str l)] h fun r _=>r=numE a (numL l):=by
 refine w3749 Qn ?_;have A:h.get.cell? ⟨0,0,none⟩=some (errV a):=y;have cond:numL l≠none->(1<=l.length/\l.length<=9)/\l.all digit=true/\(l.head?=some 48->l.length=1):=fun j=>by
  unfold numL at j;split at j
  ·assumption
  ·exact absurd rfl j
 have no:∀ {P:Prop},(numL l≠none->P)->¬ P->numL l=none:=fun m t=>by
  cases e:numL l with
  | none=>rfl
  | some n=>exact absurd (m (by rw[e];simp)) t
 refine Ja undS ?_;refine gZ ?_;refine t_pu (c81 _ _ _) ?_;refine yI (fun e=>?_) (fun e=>?_)
 ·rw[no (fun j=>(cond j).1) (by intro g;simp[isIn]at e;omega)]
  repeat (refine Jq A ?_)
  refine gZ ?_;exact Qg ⟨LH.le_refl _,rfl⟩
 have hlen:1<=l.length/\l.length<=9:=by simp[isIn]at e;omega
 have o:l≠[]:=by intro h0;subst h0;simp at hlen
 refine t_gr (d3542 o B) ?_;rintro _ m f rfl;have z:m.get.cell? ⟨0,0,none⟩=some (errV a):=ErrL.le f.1 y;refine Qq ?_;refine t_neB (b:=[]) undS ?_;refine yI (fun p=>?_) (fun p=>?_)
 ·have x:¬ l.all digit=true:=fun g=>by rw[decide_eq_true (trimD_nil.2 g)]at p;cases p
  rw[no (fun j=>(cond j).2.1) x]
  repeat (refine Jq z ?_)
  refine gZ ?_;exact Qg ⟨f,rfl⟩
 have c:l.all digit=true:=trimD_nil.1 (by simpa using p);obtain⟨b,r,d⟩ : ∃ b r,l=b::r:=by
  cases l with
  | nil=>exact absurd rfl o
  | cons b r=>exact⟨b,r,rfl⟩
 have u:l[0]?=some b:=by rw[d];rfl
 have fin:(l.head?=some 48->l.length=1)->numE a (numL l)=.tuple #[.int .i64 (valL l:Nat),.nilIface]:=fun g=>by
  unfold numL;rw[if_pos ⟨hlen,c,g⟩];rfl
 refine Z2 (i:=0) undS u ?_;refine yI (fun s=>?_) (fun s=>?_)
 ·have hb:b=48:=UInt8.toNat_inj.1 (by
   have:(b.toNat:Int)=48:=by simpa using s
   show b.toNat=48;omega)
  refine t_neB (b:=[48]) undS ?_;refine yI (fun q=>?_) (fun q=>?_)
  ·have w:¬ (l.head?=some 48->l.length=1):=fun g=>by
    have m:=g (by rw[d,hb];rfl);rw[d]at m;have:r=[]:=List.eq_nil_of_length_eq_zero (by simpa using m);rw[d,hb,this]at q;simp at q
   rw[no (fun j=>(cond j).2.2) w]
   repeat (refine Jq z ?_)
   refine gZ ?_;exact Qg ⟨f,rfl⟩
  ·have v:l=[48]:=by simpa using q
   rw[fin (fun _=>by rw[v];rfl)];refine t_gr (c3771 c hlen.1 hlen.2) ?_;rintro _ t k rfl;refine gZ ?_;exact Qg ⟨LH.le_trans f k,rfl⟩
 ·have hb:b≠48:=by rintro rfl;simp at s
  rw[fin (fun g=>by rw[d]at g;simp at g;exact absurd g hb)];refine t_gr (c3771 c hlen.1 hlen.2) ?_;rintro _ t k rfl;refine gZ ?_;exact Qg ⟨LH.le_trans f k,rfl⟩
def NumsE(a:Addr)(o:Option (List Nat))(r:Value)(h:LH):Prop:=match o with
 | some m=>∃ p n c,r=.tuple #[.slice p n c,.nilIface]/\InS h p n c (ints m)
 | none=>r=.tuple #[.slice none 0 0,errV a]
theorem H5(a:Addr):IsI (errV a):=.inr ⟨_,_,rfl⟩
theorem c3747(E:ErrL a h.get){p:Option Addr}{n c:Nat}{l:List Bs}(s:BsS h p n c l)(M:l.length<=2^20)(hb:∀ x∈l,x.length<=2^20):Gr Tryz.prog 98 #[.slice p n c] h fun r h'=>NumsE a (numsL l) r h':=by
 obtain⟨ms,u⟩:=undErr;refine w3747 Qn ?_;have N:=s.2.1;refine J9 (fun A w h'=>h.le h'/\∃ (q:Option Addr) (m k i:Nat) (acc:List Nat),w=[.slice none 0 0,.nilIface,.slice q m k,.int .i64 i]/\i<=n/\A=n-i/\numsL (l.take i)=some acc/\Growing IntEnc 3 1 h.get h'.get q m k (ints acc))
  (fun w h'=>h.le h'/\∃ (q:Option Addr) (m k:Nat) (i:Int) (acc:List Nat),w=[.slice none 0 0,.nilIface,.slice q m k,.int .i64 i]/\numsL l=some acc/\Growing IntEnc 3 1 h.get h'.get q m k (ints acc))
  ⟨LH.le_refl _,none,0,0,0,[],rfl,Nat.zero_le _,rfl,rfl,Growing.nil⟩ ?_ ?_
 ·rintro Y A w F G ⟨f,q,m,k,i,acc,rfl,L,rfl,d,g⟩;have t:=Ww d;rw[List.length_take]at t;refine yJ (fun C=>?_) (fun C=>?_)
  ·have y:=List.getElem?_eq_getElem (show i<l.length by omega);have j:=List.getElem_mem (show i<l.length by omega);generalize l[i]=x at y j;obtain⟨b,K,D⟩:=(s.le f).at y;have H:0<=(i:Int)/\(i:Int)<(n:Int):=by omega
   refine gZ ?_;refine Q9 (by rw[Int.toNat_natCast];exact D) ?_;refine t_gr (c3749 (E.le f.1) x (by have:=hb x j;omega)) ?_;rintro _ J o rfl;have e:=nums_snoc (l.take i) x;rw[<- Zq y,d]at e;cases hv:numL x with
   | none =>
    unfold numE;refine gZ ?_;refine J1 u (H5 a) rfl ?_;refine yT ?_;refine gI ?_;refine gZ ?_;refine Qg ⟨LH.le_trans f o,?_⟩;rw[nums_none hv j];exact rfl
   | some v =>
    unfold numE;rw[hv]at e;refine gZ ?_;refine J1 u (.inl rfl) rfl ?_;refine yF ?_;refine t_pushN (v:Int) (by unfold ints;rw[List.length_map];omega) (g.le o.1) (LH.le_trans f o) fun I B h' z g'=>?_;refine Qi (G (n-(i+1)) _ _ (by omega) ⟨z,I,m+1,B,i+1,acc++[v],?_,by omega,rfl,e,?_⟩)
    ·rw[Qh (by omega) (by omega)];rfl
    ·unfold ints at g' ⊢;rw[List.map_append];exact g'
  ·rw[List.take_of_length_le (by omega)]at d;exact gH ⟨f,q,m,k,_,acc,rfl,d,g⟩
 ·rintro w F ⟨f,q,m,k,i,acc,rfl,d,g⟩;have t:=Ww d;refine gZ ?_;refine Qg ⟨f,?_⟩;rw[d];exact⟨q,m,k,rfl,growI g (by unfold ints;rw[List.length_map];omega)⟩
theorem c3750(o:ErrL a h.get)(l:Bs)(A:l.length<=2^19):Gr Tryz.prog 101 #[.string (str l)] h fun r h'=>NumsE a (listL l) r h':=by
 refine w3750 Qn ?_;refine Gj (b:=[]) undS ?_;refine yI (fun e=>?_) (fun e=>?_)
 ·have g:l=[]:=by simpa using e
  subst g;exact Qg ⟨LH.le_refl _,none,0,0,rfl,InS.nil⟩
 ·have i:l≠[]:=by simpa using e
  have c:listL l=numsL (cut 44 l):=by unfold listL;rw[if_neg i]
  rw[c];have j:=G6 44 l;refine t_gr (c3746 l 44 (by omega)) ?_;rintro _ y d ⟨p,n,k,rfl,s⟩;refine gZ ?_;refine t_gr (c3747 (o.le d.1) s (by omega) (fun x t=>by have:=K1 t;omega)) ?_;intro r z f hr;cases hv:numsL (cut 44 l) with
  | none =>
   rw[hv]at hr;have hr:r=.tuple #[.slice none 0 0,errV a]:=hr;subst hr;refine gZ ?_;exact Qg ⟨LH.le_trans d f,rfl⟩
  | some m =>
   rw[hv]at hr;obtain⟨q,v,u,rfl,w⟩:=hr;refine gZ ?_;exact Qg ⟨LH.le_trans d f,q,v,u,rfl,w⟩
def rangeE(a:Addr)(o:Option (Nat×Nat)):Value:=match o with
 | some p=>.tuple #[.agg #[.int .i64 (p.1:Int),.int .i64 (p.2:Int)],.nilIface]
 | none=>.tuple #[.agg #[.int .i64 0,.int .i64 0],errV a]
theorem c3748(J:ErrL a h.get)(l:Bs)(N:l.length<=2^19):Gr Tryz.prog 99 #[.string (str l)] h fun r _=>r=rangeE a (rangeL l):=by
 obtain⟨ms,g⟩:=undErr;refine w3748 Qn ?_;have K:=G6 45 l;refine t_gr (c3746 (h:=h) l 45 (by omega)) ?_;rintro _ M A ⟨p,n,k,rfl,s⟩;refine gZ ?_;refine t_gr (c3747 (J.le A.1) s (by omega) (fun x B=>by have:=K1 B;omega)) ?_;intro r F H hr;have c:=LH.le_trans A H;have D:F.get.cell? ⟨0,0,none⟩=some (errV a):=J.le c.1;have G:=Kq 45 l;cases hv:numsL (cut 45 l) with
 | none =>
  rw[hv]at hr;have hr:r=.tuple #[.slice none 0 0,errV a]:=hr;subst hr;have e:rangeL l=none:=by unfold rangeL;rw[hv]
  rw[e];refine gZ ?_;refine Jd (fun t h'=>False) ?_ (fun _ _ y=>y.elim);refine J1 g (H5 a) rfl ?_;refine yT ?_;refine gZ ?_
  repeat (refine Jq D ?_;refine gZ ?_)
  exact Qg ⟨c,rfl⟩
 | some m =>
  rw[hv]at hr;obtain⟨q,I,O,rfl,o⟩:=hr;have d:=Ww hv;have w:=o.2.1;have f:(ints m).length=m.length:=by unfold ints;simp
  refine gZ ?_
  match m,hv,o,d,f with
  | [],hv,o,d,f =>
   exfalso;cases e:cut 45 l with
   | nil=>exact G e
   | cons a b=>rw[e]at d;simp at d
  | [u],hv,o,d,f =>
   have e:rangeL l=some (u,u):=by unfold rangeL;rw[hv]
   rw[e];have j:I=1:=by rw[w];rfl
   subst j;obtain⟨x,B,E⟩:=o.at (i:=0) (x:=(u:Int)) rfl;rw[Nat.zero_mul]at E;refine Jd (fun t h'=>t=[.nilIface,.int .i64 0,.int .i64 0]/\F=h') ?_ ?_
   ·refine J1 g (.inl rfl) rfl ?_;refine yF ?_;refine gZ ?_;refine t_if (fun e=>absurd e (by decide)) (fun _=>?_);refine gZ ?_;refine Qp (fun e=>absurd e (by decide)) (fun _=>?_);refine gZ ?_;exact Qi ⟨rfl,rfl⟩
   rintro t _ ⟨rfl,rfl⟩;have w1:wrap .i64 (((1:Nat):Int)-1)=0:=by rw[Qh (by omega) (by omega)];rfl
   rw[w1];refine gZ ?_;exact Qg ⟨c,rfl⟩
  | [u,C],hv,o,d,f =>
   have j:I=2:=by rw[w];rfl
   subst j;obtain⟨x,B,E⟩:=o.at (i:=0) (x:=(u:Int)) rfl;obtain⟨P,z,L⟩:=o.at (i:=1) (x:=(C:Int)) rfl;rw[B]at z;cases z;rw[Nat.zero_mul]at E;rw[Nat.one_mul]at L;by_cases v:u=C
   ·have e:rangeL l=none:=by unfold rangeL;rw[hv];simp[v]
    rw[e];refine Jd (fun t h'=>False) ?_ (fun _ _ y=>y.elim);refine J1 g (.inl rfl) rfl ?_;refine yF ?_;refine gZ ?_;refine t_if (fun e=>absurd e (by decide)) (fun _=>?_);refine gZ ?_;refine Qp (fun _=>?_) (fun e=>absurd e (by decide));refine gZ ?_;refine Qp (fun _=>?_) (fun e=>absurd e (by simp[v]));refine gZ ?_
    repeat (refine Jq D ?_;refine gZ ?_)
    exact Qg ⟨c,rfl⟩
   ·have e:rangeL l=some (u,C):=by unfold rangeL;rw[hv];simp[v]
    rw[e];refine Jd (fun t h'=>t=[.nilIface,.int .i64 0,.int .i64 0]/\F=h') ?_ ?_
    ·refine J1 g (.inl rfl) rfl ?_;refine yF ?_;refine gZ ?_;refine t_if (fun e=>absurd e (by decide)) (fun _=>?_);refine gZ ?_;refine Qp (fun _=>?_) (fun e=>absurd e (by decide));refine gZ ?_;refine Qp (fun e=>absurd e (by simp;omega)) (fun _=>?_);refine gZ ?_;exact Qi ⟨rfl,rfl⟩
    rintro t _ ⟨rfl,rfl⟩;have w1:wrap .i64 (((2:Nat):Int)-1)=1:=by rw[Qh (by omega) (by omega)];rfl
    rw[w1];refine gZ ?_;exact Qg ⟨c,rfl⟩
  | u::C::Q::m,hv,o,d,f =>
   have e:rangeL l=none:=by unfold rangeL;rw[hv]
   rw[e];refine Jd (fun t h'=>False) ?_ (fun _ _ y=>y.elim);refine J1 g (.inl rfl) rfl ?_;refine yF ?_;refine gZ ?_;refine t_if (fun _=>?_) (fun e=>absurd (show (I:Int)>2 by rw[w,f];simp;omega) e);refine gZ ?_
   repeat (refine Jq D ?_;refine gZ ?_)
   exact Qg ⟨c,rfl⟩
end Go.Y.Txt
end
section
namespace Go.TM.Tp
section
variable {P:Program} {X:XP} {Q:Leaf->LH->Prop}
variable {h:LH}{K:Value->T}{t xT asserted:TypeId}{v z:Value}
theorem t_assertNo{want:Array (String×TypeId)}(hu:P.underlying asserted=some (.interface want))(a:(P.info? t).map (fun i=>(lacking want i.methods).isEmpty)=some false)(g:(P.info? asserted).map (·.zero)=some (some z))(f:(K (.tuple #[z,.bool false])).wp X P Q h):(T.sem false (Instr.typeAssert (.iface t v) xT asserted true) K).wp X P Q h:=by
 obtain⟨i,c,a⟩:=Option.map_eq_some_iff.1 a;obtain⟨j,d,b⟩:=Option.map_eq_some_iff.1 g;obtain⟨m,hm⟩:=missingMethod_some (want:=want) (got:=i.methods) (fun e=>by rw[e]at a;cases a);refine Q6 (A:=fun w h'=>w=.tuple #[z,.bool false]/\h'=h.get) ?_ (by rintro w h' ⟨rfl,rfl⟩;exact f);unfold Instr.typeAssert;simp only[lwp_bind,Qa hu,Jl c,hm,if_true,Jb d b,Qe];exact⟨trivial,trivial⟩
theorem t_assertYes{want:Array (String×TypeId)}(hu:P.underlying asserted=some (.interface want))(a:(P.info? t).map (fun i=>(lacking want i.methods).isEmpty)=some true)(c:(K (.tuple #[.iface t v,.bool true])).wp X P Q h):(T.sem false (Instr.typeAssert (.iface t v) xT asserted true) K).wp X P Q h:=by
 obtain⟨i,b,a⟩:=Option.map_eq_some_iff.1 a;have hm:=missingMethod_none (want:=want) (got:=i.methods) (List.isEmpty_iff.1 a);refine Q6 (A:=fun w h'=>w=.tuple #[.iface t v,.bool true]/\h'=h.get) ?_ (by rintro w h' ⟨rfl,rfl⟩;exact c);unfold Instr.typeAssert;simp only[lwp_bind,Qa hu,Jl b,hm,if_true,Qe];exact⟨trivial,trivial⟩
theorem t_makeNone{el:TypeId}{n b:Nat}(hu:P.underlying t=some (.slice el))(o:(P.info? el).map (fun i=>(i.size,i.bytes,i.zero))=some (1,b,some z))(s:z.cells=#[z])(hb:b<=1024)(q:n<=2^30)
 (p:∀ r cs,h.get r=none->cs.size=n->(K (.slice (some ⟨r,0,none⟩) 0 n)).wp X P Q { h with get:=h.get.upd r (true,.cells cs el (0,0)) }):(T.sem false (Instr.makeSlice t (.int .i64 0) (.int .i64 (n:Int))) K).wp X P Q h:=by
 obtain⟨inf,d,j,k,g4⟩:=Zj o;refine Q6 (A:=fun v h'=>∃ r cs,h.get r=none/\cs.size=n/\v=.slice (some ⟨r,0,none⟩) 0 n/\h'=h.get.upd r (true,.cells cs el (0,0))) ?_ (by rintro v h' ⟨r,cs,l,m,rfl,rfl⟩;exact p r cs l m);unfold Instr.makeSlice;have hw:IntKind.i64.wrap (n:Int)=n:=Qh (by omega) (by omega);have f:IntKind.i64.wrap 0=0:=Qh (by omega) (by omega);simp only[lwp_bind,Qa hu,asInt,asIntOf,Qe,Jl d,hw,f,k];have e:b*n<=1024*2^30:=Nat.mul_le_mul hb q;have hle:((b:Int)*(n:Int))<=1024*2^30:=by
  have:((b*n:Nat):Int)<=((1024*2^30:Nat):Int):=Int.ofNat_le.2 e;simpa using this
 rw[if_neg (by simp;omega)];have a:∀ {K:Unit->Cells->Prop},K () h.get->Qc P (askRoom ((n:Int).toNat*b)) K (fun _ _=>False) h.get:=by
  intro K g;unfold askRoom;split
  ·exact⟨.inl rfl,g⟩
  ·exact g
 rw[lwp_bind];refine a ?_;simp only[lwp_bind,Qx d,j,Nat.mul_one,Int.toNat_natCast];by_cases c:n=0
 ·subst c;simp only[if_true,lwp_bind,Qe];exact J7 fun r hr=>⟨r,_,hr,by simp,rfl,rfl⟩
 ·simp only[if_neg c,lwp_bind,Jb d g4,Qe];exact J7 fun r hr=>⟨r,_,hr,by simp,rfl,rfl⟩
end
end Go.TM.Tp
namespace Go.Y.Txt
open Go.TM.Tp
variable {v:Value}{H:Cells}{X:XP}{h:LH}
theorem via_unwrap_eq{A : Next -> Cells -> Prop}{E : Halt -> Cells -> Prop} : Qc Tryz.prog (do let d <- Deferred.ofValue (.func (.func 274) #[] #[]) #[v]; invoke d.target d.args) A E H = Qc Tryz.prog (do let d <- Deferred.ofValue (.func (.method "Unwrap") #[.iface 236 v] #[]) #[]; invoke d.target d.args) A E H := by
 kernel_rfl
theorem via_unwrap{Q : Value -> LH -> Prop}(c : CV X Tryz.prog (.func (.func 274) #[] #[]) #[v] h Q) : CV X Tryz.prog (.func (.method "Unwrap") #[.iface 236 v] #[]) #[] h Q := by
 unfold CV at c ⊢;intro main R hR fr cs hk;exact via_unwrap_eq.mp (c main R hR fr cs hk)
theorem via_comp_eq{A : Next -> Cells -> Prop}{E : Halt -> Cells -> Prop} : Qc Tryz.prog (do let d <- Deferred.ofValue (.func (.func 278) #[] #[]) #[v]; invoke d.target d.args) A E H = Qc Tryz.prog (do let d <- Deferred.ofValue (.func (.method "Comparable") #[.iface 241 v] #[]) #[]; invoke d.target d.args) A E H := by
 kernel_rfl
theorem via_comp{Q : Value -> LH -> Prop}(c : CV X Tryz.prog (.func (.func 278) #[] #[]) #[v] h Q) : CV X Tryz.prog (.func (.method "Comparable") #[.iface 241 v] #[]) #[] h Q := by
 unfold CV at c ⊢;intro main R hR fr cs hk;exact via_comp_eq.mp (c main R hR fr cs hk)
def handV:Value:=.agg #[.pointer (some ⟨Tryz.prog.globals.size,340,none⟩)]
theorem lwp_typeOf{Q:Value->Cells->Prop}{E:Halt->Cells->Prop}{h:Cells}:Qc Tryz.prog (Extern.ReflectliteType.typeOf #[.iface 340 v]) Q E h=Q (.iface 241 handV) h:=by kernel_rfl
theorem lwp_comp{Q : Value -> Cells -> Prop}{E : Halt -> Cells -> Prop}{h : Cells} : Qc Tryz.prog ((Extern.ReflectliteType.method fun t => do Extern.Rtype.noPackHeld "Comparable" t; pure (.bool (<- typeInfo t).comparable)) #[handV]) Q E h = Q (.bool true) h := by kernel_rfl
attribute [local irreducible] T.wp CV FWK
theorem cv_typeOf(v:Value):CV X Tryz.prog (.func (.func 104) #[] #[]) #[.iface 340 v] h (fun r h'=>r=.iface 241 handV/\h'=h) :=
 K0 (e:=Extern.ReflectliteType.typeOf) (fd:=Tryz.f104) (by kernel_rfl) (by kernel_rfl) (by kernel_rfl) (by kernel_rfl) (by kernel_rfl) (lwp_typeOf.mpr ⟨rfl,rfl⟩)
theorem cv_comp : CV X Tryz.prog (.func (.method "Comparable") #[.iface 241 handV] #[]) #[] h (fun r h' => r = .bool true /\ h' = h) :=
 via_comp (K0 (e := Extern.ReflectliteType.method fun t => do Extern.Rtype.noPackHeld "Comparable" t; pure (.bool (<- typeInfo t).comparable)) (fd := Tryz.f278) (by kernel_rfl) (by kernel_rfl) (by kernel_rfl) (by kernel_rfl) (by kernel_rfl) (lwp_comp.mpr ⟨rfl, rfl⟩))
end Go.Y.Txt
end
section
namespace Go.Y.Txt
open Go.TM.Tp
attribute [local irreducible] T.wp CV FWK
def JoinE(a:Addr)(v:Value)(h:LH):Prop:=∃ b q m c x,v=.iface 236 (.pointer (some ⟨b,0,none⟩))/\h.get.cell? ⟨b,0,none⟩=some (.slice q m c)/\1<=m/\q=some x/\h.get.cell? x=some (errV a)
def BadE(a:Addr)(v:Value)(h:LH):Prop:=v=errV a\/JoinE a v h
variable {a:Addr}{v:Value}{h:LH}
theorem BadE.le{a:Addr}{v:Value}{h h':LH}(d:h.le h')(b:BadE a v h):BadE a v h':=by
 rcases b with b|⟨b,q,m,c,x,e,f,g,i,j⟩
 ·exact .inl b
 ·exact .inr ⟨b,q,m,c,x,e,Qd d.1 f,g,i,Qd d.1 j⟩
theorem BadE.isI(b:BadE a v h):∃ t w,v=.iface t w:=by
 rcases b with b|⟨b,q,m,c,x,d,_⟩
 ·exact⟨_,_,b⟩
 ·exact⟨_,_,d⟩
theorem undPErr:Tryz.prog.underlying 340=some (.pointer 342):=by kernel_rfl
theorem compPErr:(Tryz.prog.info? 340).map (·.comparable)=some true:=by kernel_rfl
theorem sizePErr:(Tryz.prog.info? 342).map (·.size)=some 1:=by kernel_rfl
theorem eq_self{ms:Array (String×TypeId)}(c:Tryz.prog.underlying 83=some (.interface ms)){h:Cells}:Qc Tryz.prog (Op.equal 83 (errV a) (errV a)) (fun b h'=>b=true/\h'=h) (fun _ _=>False) h:=by
 obtain⟨i,d,hc⟩:=Option.map_eq_some_iff.1 compPErr;obtain⟨j,e,f⟩:=Option.map_eq_some_iff.1 sizePErr;exact lwp_eqSelf c undPErr d hc e (by omega) ⟨rfl,rfl⟩
theorem und1789:∃ w,Tryz.prog.underlying 243=some (.interface w)/\(Tryz.prog.info? 236).map (fun i=>(lacking w i.methods).isEmpty)=some false/\(Tryz.prog.info? 243).map (·.zero)=some (some .nilIface):=⟨_,Tryz.underlying243,by kernel_rfl,by kernel_rfl⟩
theorem und1792:∃ w,Tryz.prog.underlying 246=some (.interface w)/\(Tryz.prog.info? 236).map (fun i=>(lacking w i.methods).isEmpty)=some false/\(Tryz.prog.info? 246).map (·.zero)=some (some .nilIface):=⟨_,Tryz.underlying246,by kernel_rfl,by kernel_rfl⟩
theorem und1794:∃ w,Tryz.prog.underlying 248=some (.interface w)/\(Tryz.prog.info? 236).map (fun i=>(lacking w i.methods).isEmpty)=some true:=⟨_,Tryz.underlying248,by kernel_rfl⟩
theorem c3812{b:Nat}{q:Option Addr}{m c:Nat}(hc:h.get.cell? ⟨b,0,none⟩=some (.slice q m c)):Pu Tryz.prog 274 #[.pointer (some ⟨b,0,none⟩)] h (.slice q m c):=by
 refine w3812 Qn ?_;refine gS2 rfl (gL1 (by rw[Ql];exact hc) ?_);exact Qg ⟨rfl,rfl⟩
theorem c3754:Pu Tryz.prog 105 #[errV a,errV a,.bool true] h (.bool true):=by
 obtain⟨ms,b⟩:=undErr;refine w3754 _ _ _ Qn ?_;unfold n3754;refine Q1 (fun e c h'=>c=[errV a,.bool false]/\h=h') (n:=0) ⟨rfl,rfl⟩ ?_;rintro Y e c _ f ⟨rfl,rfl⟩;refine gZ ?_;refine Jd (fun c h'=>False) ?_ (fun _ _ d=>d.elim);refine yT ?_;refine Yj (eq_self b) (H5 a) ?_;refine yT ?_;refine gI ?_;refine gZ ?_;exact Qg ⟨rfl,rfl⟩
theorem c3754j(b:JoinE a v h):Pu Tryz.prog 105 #[v,errV a,.bool true] h (.bool true):=by
 obtain⟨ms,f⟩:=undErr;obtain⟨b,q,m,c,x,rfl,i,s,rfl,j⟩:=b;obtain⟨u,v1,v2,l⟩:=und1789;obtain⟨w,w1,w2,w3⟩:=und1792;obtain⟨y,o,p⟩:=und1794;refine w3754 _ _ _ Qn ?_;unfold n3754;refine Q1 (fun g d h'=>d=[.iface 236 (.pointer (some ⟨b,0,none⟩)),.bool false]/\h=h') (n:=0) ⟨rfl,rfl⟩ ?_;rintro Y g d _ t ⟨rfl,rfl⟩;refine gZ ?_;refine Jd (fun d h'=>d=[.bool false]/\h=h') ?_ ?_
 ·refine yT ?_;refine Yj (c:=false) (lwp_eqOther f (by decide) ⟨rfl,rfl⟩) (.inr ⟨_,_,rfl⟩) ?_;refine yF ?_;exact Qi ⟨rfl,rfl⟩
 rintro d _ ⟨rfl,rfl⟩;refine gZ ?_;refine Jd (fun d h'=>d=[.bool false]/\h=h') ?_ ?_
 ·refine t_assertNo v1 v2 l ?_;refine yF ?_;exact Qi ⟨rfl,rfl⟩
 rintro d _ ⟨rfl,rfl⟩;refine gZ ?_;refine t_assertNo w1 w2 w3 ?_;refine yF ?_;refine t_assertYes o p ?_;refine yT ?_;refine Q7 (via_unwrap (Za Qn (by rfl) (c3812 i))) ?_;rintro _ h ⟨rfl,rfl⟩;refine gZ ?_;refine Q1 (fun g d h'=>d=[.bool false,.int .i64 0]/\h=h') (n:=0) ⟨rfl,rfl⟩ ?_;rintro r g d _ k ⟨rfl,rfl⟩;refine gZ ?_;refine t_if (fun _=>?_) (fun e=>by omega);refine gT ⟨by omega,by omega⟩ ?_;have ex:x.add (Int.toNat 0*1)=x:=Ug x;refine gS2 rfl (Jq (by rw[ex];exact j) ?_);refine t_pu c3754 ?_;refine yT ?_;refine gI ?_;refine gZ ?_;exact Qg ⟨rfl,rfl⟩
theorem c3729(b:BadE a v h):Pu Tryz.prog 50 #[v,errV a] h (.bool true):=by
 obtain⟨ms,c⟩:=undErr;obtain⟨t,w,hv⟩:=b.isI;refine w3729 _ _ Qn ?_;unfold n3729;refine D2 c (.inr ⟨t,w,hv⟩) rfl ?_;refine gZ ?_;refine Qp (fun e=>by rw[hv]at e;cases e) (fun _=>?_);refine D2 c (H5 a) rfl ?_;refine yF ?_;refine Q7 (cv_typeOf _) ?_;rintro _ _ ⟨rfl,rfl⟩;refine gZ ?_;refine Q7 cv_comp ?_;rintro _ _ ⟨rfl,rfl⟩;refine gZ ?_;refine t_pu (v:=.bool true) ?_ ?_
 ·rcases b with rfl|b
  ·exact c3754
  ·exact c3754j b
 refine gZ ?_;exact Qg ⟨rfl,rfl⟩
theorem c3729n:Pu Tryz.prog 50 #[.nilIface,errV a] h (.bool false):=by
 obtain⟨ms,b⟩:=undErr;refine w3729 _ _ Qn ?_;unfold n3729;refine D2 b (.inl rfl) rfl ?_;refine yT ?_;refine Yj (c:=false) (lwp_eqNilL b ⟨rfl,rfl⟩) (.inl rfl) ?_;refine gZ ?_;exact Qg ⟨rfl,rfl⟩
end Go.Y.Txt
end
section
namespace Go.Y
open Go.Proofs.YtpkjbclajflhbaaGreatDoor
open Go.ChangeShapes Go.WideShapes Go.RowKit
variable {W:World}
theorem UT:UseTy Tryz.prog 3 47 46 22 49 23 51 24 26 where
 int:=by kernel_rfl
 int1:=by kernel_rfl
 bytes:=⟨of_decide_eq_true (by kernel_rfl),of_decide_eq_true (by kernel_rfl),of_decide_eq_true (by kernel_rfl),of_decide_eq_true (by kernel_rfl)⟩
 ints:=by kernel_rfl
 ints1:=by kernel_rfl
 span:=⟨_,Tryz.underlying46,rfl⟩
 span2:=by kernel_rfl
 spans:=by kernel_rfl
 spans1:=by kernel_rfl
 paper:=⟨_,Tryz.underlying49,rfl⟩
 paper4:=by kernel_rfl
 papers:=by kernel_rfl
 papers1:=by kernel_rfl
 req:=⟨_,Tryz.underlying51,rfl⟩
 req3:=by kernel_rfl
 reqs:=by kernel_rfl
 reqs1:=by kernel_rfl
 file:=⟨_,Tryz.underlying26,rfl⟩
 file7:=by kernel_rfl
def partsN : String := "touchmark/use.parts"
theorem gParts:Tryz.prog.globalNamed partsN=some 2:=by kernel_rfl
theorem tParts:(Tryz.prog.globals[2]?).map (·.type)=some 160:=by kernel_rfl
theorem cells98:Tryz.prog.cellsOf 160=4:=by kernel_rfl
theorem array4{α:Type}:∀ {l:List α},l.length=4->∃ a b c d,l=[a,b,c,d]
 | [a,b,c,d],_=>⟨a,b,c,d,rfl⟩
theorem parts_of_laid{l:List (String×DataW Unit)}(h:laidMetH Tryz.prog l W)(hm:(partsN,Rows.laid_touchmark_use_parts)∈l):Parts (getW W):=by
 obtain⟨g,t,cs,fuel,p,w,z,hv,v⟩:=laidMetH.funcs h (n:=partsN) hm;obtain rfl:=Option.some.inj (gParts.symm.trans w);obtain rfl:=Option.some.inj (tParts.symm.trans z);obtain⟨xs,m,_,c,i,y,a⟩:=DataW.trod_array Tryz.underlying160 v;rw[cells98]at i;have b:∀ j:Nat,W.cell? ⟨2,j,none⟩=cs[j]?:=World.var?_cell gParts hv;obtain⟨D,E,F,G,rfl⟩:=array4 y;obtain⟨v0,v1,v2,r,hc⟩:=array4 i;have s:Tryz.prog.cellsOf 149=1:=by kernel_rfl
 have u:∀ j:Nat,cs[j]?=[v0,v1,v2,r][j]?:=fun j=>by rw[<- hc];simp
 simp only[Prod.mk.injEq]at c;obtain⟨c,_⟩:=c;simp only[DataW.funcsOut,DataW.funcsOutAll,List.map_cons,List.map_nil,DataW.agg.injEq,List.cons.injEq,beq_self_eq_true,if_true,and_true]at c;obtain⟨h0,d,e,f⟩:=c;have k:=a 0 (by decide);have k1:=a 1 (by decide);have o:=a 2 (by decide);have q:=a 3 (by decide);rw[hc,s]at k k1 o q;obtain⟨d0,H⟩:=D;obtain⟨d1,I⟩:=E;obtain⟨d2,J⟩:=F;obtain⟨d3,K⟩:=G;simp only at h0 d e f;subst h0;subst d;subst e;subst f;have r0:v0=.func (.func 296) #[] #[]:=func_of_trod (P:=Tryz.prog) Tryz.underlying149 (by kernel_rfl) k;have A:v1=.func (.func 297) #[] #[]:=func_of_trod (P:=Tryz.prog) Tryz.underlying149 (by kernel_rfl) k1;have B:v2=.func (.func 298) #[] #[]:=func_of_trod (P:=Tryz.prog) Tryz.underlying149 (by kernel_rfl) o;have C:r=.func (.func 299) #[] #[]:=func_of_trod (P:=Tryz.prog) Tryz.underlying149 (by kernel_rfl) q;intro j x;refine G5 ?_;rw[b,u]
 match j,x with
 | 0,_=>simp[r0]
 | 1,_=>simp[A]
 | 2,_=>simp[B]
 | 3,_=>simp[C]
theorem Dj{P:Program}{w:World}{n:String}{d:DataW Unit}:∀ {l:List (String×DataW Unit)} {ps:List MemPlace},DataW.LaidVars P w l ps->(n,d)∈l->∃ g t cs fuel p,P.globalNamed n=some g/\(P.globals[g]?).map (·.type)=some t/\w.var? P n=some cs/\DataW.trod (fun _=>()) P w 0 (fun _=>true) false fuel t cs.toList=some (d,p)/\∀ x∈MemPlace.row ⟨g,0,none⟩ cs.size,x∈ps
 | [],_,h,hm=>by simp at hm
 | (m,e)::r,ps,h,hm=>by
  obtain⟨g,t,cs,fuel,p,q,s,u,v,y,z,c⟩:=h;rcases List.mem_cons.1 hm with a|a
  ·cases a;exact⟨g,t,cs,fuel,p,s,u,v,y,fun x b=>by rw[c,List.mem_append,List.mem_append];exact .inl (.inl b)⟩
  ·obtain⟨g,t,cs,fuel,p,f,i,j,k,o⟩:=Dj z a;exact⟨g,t,cs,fuel,p,f,i,j,k,fun x b=>by rw[c,List.mem_append];exact .inr (o x b)⟩
def powN : String := "internal/strconv.uint64pow10"
theorem gPow:Tryz.prog.globalNamed powN=some 5:=by kernel_rfl
theorem tPow:(Tryz.prog.globals[5]?).map (·.type)=some 313:=by kernel_rfl
theorem und64:Tryz.prog.underlying 292=some (.int .u64):=by kernel_rfl
theorem pow_of_laid{l:List (String×DataW Unit)}(h:laidMetH Tryz.prog l W)(hm:(powN,Rows.laid_internal_strconv_uint64pow10)∈l):Tp.PowT 5 (getW W):=by
 obtain⟨ps,A,_⟩:=(laidMetH_iff.1 h).1;obtain⟨g',G,f,g,F,p,s,t,k,_⟩:=Dj A (List.mem_filter.2 ⟨hm,rfl⟩);obtain rfl:=Option.some.inj (gPow.symm.trans p);obtain rfl:=Option.some.inj (tPow.symm.trans s);obtain⟨xs,m,_,u,D,E,o⟩:=DataW.trod_array Tryz.underlying313 k;have v:Tryz.prog.cellsOf 292=1:=by kernel_rfl
 have b:∀ j:Nat,W.cell? ⟨5,j,none⟩=f[j]?:=World.var?_cell gPow t;have u:(Rows.laid_internal_strconv_uint64pow10:DataW Unit)=.agg (xs.map (·.1)):=(Prod.mk.inj u).1;intro j B;refine G5 ?_;rw[b];have q:=o j (by omega);rw[v]at q;cases d:xs[j]? with
 | none=>have:=List.getElem?_eq_none_iff.1 d;omega
 | some y =>
  rw[d]at q;obtain⟨n,w,x,_⟩:=DataW.trod_int und64 q;have C:(xs.map (·.1))[j]?=some (.lit (.int .u64 n)):=by rw[List.getElem?_map,d,x];rfl
  have c:∀ i:Nat,i<5->∀ z:DataW Unit,(xs.map (·.1))[i]?=some z->z=.lit (.int .u64 (10^i:Nat)):=by
   intro i r z e;have:(DataW.agg (xs.map (·.1)):DataW Unit)=Rows.laid_internal_strconv_uint64pow10:=u.symm;unfold Rows.laid_internal_strconv_uint64pow10 at this;injection this with this;rw[this]at e
   match i,r with
   | 0,_=>cases e;rfl
   | 1,_=>cases e;rfl
   | 2,_=>cases e;rfl
   | 3,_=>cases e;rfl
   | 4,_=>cases e;rfl
  have a:=c j B _ C;injection a with a;injection a with _ a;subst a;have:=congrArg (·[0]?) w;simp at this;simpa using this
def errN : String := "touchmark/use.errLine"
theorem gErr:Tryz.prog.globalNamed errN=some 0:=by kernel_rfl
theorem tErr:(Tryz.prog.globals[0]?).map (·.type)=some 83:=by kernel_rfl
theorem starE : "*" ++ "errors.errorString" = "*errors.errorString" := by decide
theorem row1825(u : TypeId)(h : Tryz.prog.typeName? 3 u = some "*errors.errorString") : u = 340 :=
 typeName_ptr_named (nm := "errors.errorString") (by rw [starE]; kernel_rfl) (by kernel_rfl) (by decide) u (by rw [starE]; exact h)
theorem err_of_laid{l:List (String×DataW Unit)}(h:laidMetH Tryz.prog l W)(hm:(errN,Rows.laid_touchmark_use_errLine)∈l):∃ a,Txt.ErrL a (getW W):=by
 obtain⟨ps,t,_,c⟩:=(laidMetH_iff.1 h).1;obtain⟨g',A,d,g,y,n,p,q,i,o⟩:=Dj t (List.mem_filter.2 ⟨hm,rfl⟩);obtain rfl:=Option.some.inj (gErr.symm.trans n);obtain rfl:=Option.some.inj (tErr.symm.trans p);have b:∀ j:Nat,W.cell? ⟨0,j,none⟩=d[j]?:=World.var?_cell gErr q;obtain⟨x⟩:=d;have r:∀ u v,x=[.iface u v]->Value.okWide Tryz.prog W .any 0 u v:=fun u v e=>by
  subst e;exact(c 0 0 (o _ (by simp[MemPlace.row]))).2 u v (by simpa using b 0)
 obtain⟨f,w,k,m⟩ : ∃ f:Field,Tryz.prog.underlying 342=some (.struct #[f])/\f.type=9/\f.offset=0:=⟨_,Tryz.underlying342,rfl,rfl⟩
 obtain⟨s,z,rfl,_⟩:=errorString_of_trod (tp:=340) Tryz.underlying83 row1825 Txt.undPErr w k m (by kernel_rfl) (by kernel_rfl) (by kernel_rfl) i r;exact⟨s,G5 (by rw[b];rfl)⟩
def noUse:Value:=.agg #[.int .i64 0,.int .i64 0,.int .i64 0,.int .i64 0,.slice none 0 0,.slice none 0 0,.slice none 0 0]
end Go.Y
namespace Go.Y.Tre
open Go.ChangeShapes Go.WideShapes Go.RowKit
theorem own:ownKnob Tryz.prog.godebug=none:=by kernel_rfl
theorem lo:laidOutB Tryz.prog=true:=by kernel_rfl
end Go.Y.Tre
end
section
namespace Go.Y.Txt
open Go.TM.Tp
attribute [local irreducible] T.wp CV FWK
def eV(a:Addr)(b:Bool):Value:=if b then errV a else .nilIface
variable {a:Addr}{p:Option Addr}{c:Nat}
theorem U6(a:Addr)(b:Bool):IsI (eV a b):=by cases b;exact .inl rfl;exact .inr ⟨_,_,rfl⟩
theorem U5(a:Addr)(b:Bool):isNilI (eV a b) = !b:=by cases b<;>rfl
def ErrEnc(a:Addr)(_:Unit)(ws:List Value):Prop:=ws=[errV a]
theorem ErrEnc.len:∀ x ws,ErrEnc a x ws->ws.length=1:=by rintro x _ rfl;rfl
theorem undEs:Tryz.prog.underlying 235=some (.slice 83):=by kernel_rfl
theorem infE:(Tryz.prog.info? 83).map (fun i=>(i.size,i.bytes,i.zero))=some (1,16,some .nilIface):=by kernel_rfl
theorem err_one(a:Addr):∀ w∈[errV a],isOne w=true:=by
 intro w hw;rw[List.mem_singleton]at hw;rw[hw];rfl
def ErrsS(a:Addr)(h:LH)(p:Option Addr)(bs:List Bool):Prop:=∀ (i:Nat) b,bs[i]?=some b->∃ x,p=some x/\h.get.cell? (x.add (i*1))=some (eV a b)
theorem ErrsS.le{a:Addr}{h h':LH}{p:Option Addr}{bs:List Bool}(e:h.le h')(s:ErrsS a h p bs):ErrsS a h' p bs:=fun i b hb=>by
 obtain⟨x,c,d⟩:=s i b hb;exact⟨x,c,Qd e.1 d⟩
theorem count_step{bs:List Bool}{i:Nat}{b:Bool}(h:bs[i]?=some b):(bs.take (i+1)).countP id=(bs.take i).countP id+(if b then 1 else 0):=by
 rw[Zq h,List.countP_append];cases b<;>rfl
theorem row_apart{h₀ h:Cells}{n r:Nat}{l:List Unit}{cs:Array Value}(g:Growing (ErrEnc a) 83 1 h₀ h p n c l)(hr:h r=some (true,.cells cs 238 (0,0))):∀ x,p=some x->x.block≠r:=by
 rintro x rfl rfl;obtain⟨f,⟨_,o⟩,_⟩:=g.row;rcases o with⟨b,_⟩|⟨r,e,b,d,_⟩
 ·cases b
 ·cases b;rw[hr]at d;simp at d
theorem c3751{h:LH}{bs:List Bool}(s:ErrsS a h p bs)(hl:bs.length<=2^20):Gr Tryz.prog 102 #[.slice p bs.length c] h fun r h'=>(bs.countP id=0/\r=.nilIface)\/(bs.countP id≠0/\JoinE a r h'):=by
 obtain⟨ms,F⟩:=undErr;refine w3751 Qn ?_;refine J9 (fun L m h'=>h=h'/\∃ i:Nat,m=[.int .i64 ((bs.take i).countP id:Nat),.int .i64 i]/\i<=bs.length/\L=bs.length-i) (fun m h'=>h=h'/\∃ i:Int,m=[.int .i64 (bs.countP id:Nat),.int .i64 i]) ⟨rfl,0,rfl,Nat.zero_le _,rfl⟩ ?_ ?_
 ·rintro Y L m _ E ⟨rfl,i,rfl,hi,rfl⟩;have D:=List.countP_le_length (p:=id) (l:=bs.take i);rw[List.length_take]at D;refine yJ (fun O=>?_) (fun O=>?_)
  ·have y:=List.getElem?_eq_getElem (show i<bs.length by omega);generalize bs[i]=b at y;obtain⟨x,Q,P⟩:=s i b y;have u:=count_step y;refine gT ⟨by omega,by omega⟩ (gS2 Q (Jq (by rw[Int.toNat_natCast];exact P) ?_));refine J1 F (U6 a b) rfl ?_;rw[U5,Bool.not_not];refine yI (fun e=>?_) (fun e=>?_)
   ·subst e;refine Qi (E (bs.length-(i+1)) _ _ (by omega) ⟨rfl,i+1,?_,by omega,rfl⟩);rw[Qh (by omega) (by omega),Qh (by omega) (by omega),u];rfl
   ·subst e;refine Qi (E (bs.length-(i+1)) _ _ (by omega) ⟨rfl,i+1,?_,by omega,rfl⟩);rw[Qh (by omega) (by omega),u];rfl
  ·rw[List.take_of_length_le (by omega)];exact gH ⟨rfl,_,rfl⟩
 rintro m _ ⟨rfl,i,rfl⟩;have e0:=List.countP_le_length (p:=id) (l:=bs);refine yI (fun e=>?_) (fun e=>?_)
 ·exact Qg ⟨LH.le_refl _,.inl ⟨by
   have:((bs.countP id:Nat):Int)=0:=by simpa using e
   omega,rfl⟩⟩
 have G:bs.countP id≠0:=fun h0=>by rw[h0]at e;simp at e
 refine t_makeNone undEs infE rfl (by decide) (by omega) fun r0 A H a0=>?_;have N:Growing (ErrEnc a) 83 1 h.get ({ h with get:=h.get.upd r0 (true,.cells A 83 (0,0)) }:LH).get (some ⟨r0,0,none⟩) 0 (bs.countP id) [] :=
  ⟨⟨[],⟨rfl,.inr ⟨r0,A,rfl,Qk _ _ _,by omega,Nat.zero_le _,fun j v hj=>by simp at hj⟩⟩,.nil⟩,fun x y=>by cases y;exact H⟩
 have B:h.le { h with get:=h.get.upd r0 (true,.cells A 83 (0,0)) }:=Qr H;revert N B;generalize ({ h with get:=h.get.upd r0 (true,.cells A 83 (0,0)) }:LH)=C;intro N B;refine gZ ?_;refine H8 fun r h2 K J hr=>?_;have U:h.get r=none:=by
  cases y:h.get r with
  | none=>rfl
  | some x=>rw[B.1 _ _ y]at J;cases J
 refine J9 (fun L m h'=>h.le h'/\∃ (i:Nat) (q:Addr) (n t:Nat) (l:List Unit),m=[.int .i64 i]/\i<=bs.length/\L=bs.length-i/\h'.get r=some (true,.cells #[.slice (some q) n t] 238 (0,0))/\Growing (ErrEnc a) 83 1 h.get h'.get (some q) n t l/\l.length=(bs.take i).countP id)
  (fun m h'=>h.le h'/\∃ (i:Int) (q:Addr) (n t:Nat) (l:List Unit),m=[.int .i64 i]/\h'.get r=some (true,.cells #[.slice (some q) n t] 238 (0,0))/\Growing (ErrEnc a) 83 1 h.get h'.get (some q) n t l/\l.length=bs.countP id)
  ⟨LH.le_trans B K,0,⟨r0,0,none⟩,0,_,[],rfl,Nat.zero_le _,rfl,hr,N.le K.1,rfl⟩ ?_ ?_
 ·rintro Y L m h3 E ⟨k,i,q,n,t,l,rfl,hi,rfl,f,g,d⟩;have D:=List.countP_le_length (p:=id) (l:=bs.take i);rw[List.length_take]at D;refine yJ (fun O=>?_) (fun O=>?_)
  ·have y:=List.getElem?_eq_getElem (show i<bs.length by omega);generalize bs[i]=b at y;obtain⟨x,Q,P⟩:=(s.le k) i b y;have u:=count_step y;refine gT ⟨by omega,by omega⟩ (gS2 Q (Jq (by rw[Int.toNat_natCast];exact P) ?_));refine J1 F (U6 a b) rfl ?_;rw[U5,Bool.not_not];refine yI (fun e=>?_) (fun e=>?_)
   ·subst e;have gc:h3.get.cell? (Addr.add ⟨r,0,none⟩ 0)=some (.slice (some q) n t):=Jx (i:=0) f rfl;have hn:=g.count ErrEnc.len (by omega);refine gS2 rfl (gL1 gc ?_);refine Zo [errV a] undEs infE (by decide) (by decide) (by kernel_rfl) ?_;intro r7 h7 z _ S;refine gZ ?_;refine Gy (h₀:=h) (Enc:=ErrEnc a) () [errV a] rfl rfl undEs infE rfl (by omega) (by omega) (g.le z.1) (LH.le_trans k z) rfl rfl S (err_one a) ?_;intro p' c2 h8 W V M;have I:=V r _ (row_apart (g.le z.1) (z.1 _ _ f)) (z.1 _ _ f);have R:=row_apart M I;obtain⟨X,rfl⟩ : ∃ X,p'=some X:=by
     obtain⟨m,⟨o1,o⟩,_⟩:=M.row;rcases o with⟨_,C,_⟩|⟨r9,_,C,_⟩
     ·omega
     ·exact⟨_,C⟩
    refine gZ ?_;refine Z0 (i:=0) I rfl rfl fun h9 b9 e9=>?_;obtain⟨Z,o9,w9⟩:=M.row;refine Qi (E (bs.length-(i+1)) _ _ (by omega) ⟨Ov.le_of W (b9.ov U),i+1,X,n+1,c2,l++[()],?_,by omega,rfl,e9,⟨⟨Z,Hm R b9 o9,w9⟩,M.new⟩,?_⟩)
    ·rw[Qh (by omega) (by omega)];rfl
    ·rw[u,List.length_append,d];rfl
   ·subst e;refine Qi (E (bs.length-(i+1)) _ _ (by omega) ⟨k,i+1,q,n,t,l,?_,by omega,rfl,f,g,?_⟩)
    ·rw[Qh (by omega) (by omega)];rfl
    ·rw[u,d];rfl
  ·rw[List.take_of_length_le (by omega)]at d;exact gH ⟨k,_,q,n,t,l,rfl,f,g,d⟩
 rintro m h3 ⟨k,i,q,n,t,l,rfl,f,g,d⟩;refine gZ ?_;have hn:=g.count ErrEnc.len (by omega);obtain⟨m,⟨o1,o⟩,w⟩:=g.row;refine Qg ⟨k,.inr ⟨G,r,some q,n,t,q,rfl,Jx (i:=0) f rfl,by omega,rfl,?_⟩⟩;rcases o with⟨C,_⟩|⟨r9,b0,C,h2,c0,h4,h5⟩
 ·cases C
 ·cases C;obtain⟨ws,rfl,hw⟩:=w.at ErrEnc.len 0 () (by
   match l,d with
   | [],d=>exact absurd d.symm G
   | ()::l,_=>rfl)
  exact Jx h2 (h5 0 _ (hw 0 _ rfl))
end Go.Y.Txt
end
section
namespace Go.TM.Tp
def fieldsP(l:Bs):Option (Bs×List Bs):=if (cutV 58 l).2.2=true/\(cutV 58 l).2.1.getLast?=some 59 then some ((cutV 58 l).1,cut 59 (trimS 59 (cutV 58 l).2.1)) else none
theorem item_w0(a:List Bs):itemU [] a=none:=by
 unfold itemU;rw[if_neg (by decide),if_neg (by decide),if_neg (by decide),if_neg (by decide)]
theorem line_prog(l:Bs):lineU l=(fieldsP l).bind fun x=>itemU x.1 x.2:=by
 unfold fieldsP lineU;rcases Zp 58 l with h|⟨a,r,rfl,h⟩
 ·rw[Dp h,fields_none h,if_neg (by simp)]
 ·rw[Do h,fields_some h];simp only[true_and];by_cases h0:a=[]
  ·subst h0;rw[if_pos rfl];split
   ·simp[item_w0]
   ·rfl
  ·rw[if_neg h0];split
   ·rename_i b;unfold trimS;rw[if_pos b]
   ·rfl
theorem cutV_len(c:UInt8)(l:Bs):(cutV c l).1.length<=l.length/\(cutV c l).2.1.length<=l.length:=by
 rcases Zp c l with h|⟨a,r,rfl,h⟩
 ·rw[Dp h];simp
 ·rw[Do h];simp;omega
theorem trimS_len(c:UInt8)(l:Bs):(trimS c l).length<=l.length:=by
 unfold trimS;split
 ·rw[List.length_dropLast];omega
 ·exact Nat.le_refl _
def lineCut(s:Bs):Bs×Bs:=match cut 10 s with
 | a::_::_=>(a++[10],s.drop (a.length+1))
 | _=>(s,[])
theorem Ga{l:Bs}(h:(10:UInt8)∉l):lineCut l=(l,[]):=by unfold lineCut;rw[Zg h]
theorem W9{a r:Bs}(h:(10:UInt8)∉a):lineCut (a++10::r)=(a++[10],r):=by
 unfold lineCut;rw[Zr h];have:=Kq 10 r;cases e:cut 10 r with
 | nil=>exact absurd e this
 | cons x y=>simp
theorem trimS_snoc(c:UInt8)(a:Bs):trimS c (a++[c])=a:=by unfold trimS;simp
theorem trimS_none{c:UInt8}{a:Bs}(h:c∉a):trimS c a=a:=by
 unfold trimS;rw[if_neg];intro e;exact h (List.mem_of_getLast? e)
theorem lines_step{s:Bs}(h0:s≠[]):linesL s=trimS 10 (lineCut s).1::linesL (lineCut s).2:=by
 rcases Zp 10 s with h|⟨a,r,rfl,h⟩
 ·rw[Ga h,lines_one h h0,trimS_none h];rfl
 ·rw[W9 h,Hf h,trimS_snoc]
theorem Gn{s:Bs}(h0:s≠[]):(lineCut s).2.length<s.length/\(lineCut s).1.length<=s.length:=by
 have b:=List.length_pos_iff.2 h0;rcases Zp 10 s with h|⟨a,r,rfl,h⟩
 ·rw[Ga h];simp;exact b
 ·rw[W9 h];simp;omega
end Go.TM.Tp
end
section
namespace Go.TM.Tp
theorem item_else{w:Bs}{f:List Bs}(k:¬ (w=wUse/\f.length=4))(l:¬ (w=wExcuse/\f.length=1))(n:¬ (w=wPaper/\f.length=3))(o:¬ (w=wRequest/\f.length=3)):itemU w f=none:=by
 by_cases g:w=wUse
 ·subst g;rw[itemU_use];cases e:numsL f with
  | none=>rfl
  | some m =>
   have hm:=Ww e
   match m,hm with
   | [a,b,c,d],hm=>exact absurd ⟨rfl,hm.symm⟩ k
   | [],_=>rfl
   | [_],_=>rfl
   | [_,_],_=>rfl
   | [_,_,_],_=>rfl
   | _::_::_::_::_::_,_=>rfl
 by_cases h:w=wExcuse
 ·subst h;exact itemU_excuse' fun e=>l ⟨rfl,e⟩
 by_cases i:w=wPaper
 ·subst i;exact itemU_paper' fun e=>n ⟨rfl,e⟩
 by_cases j:w=wRequest
 ·subst j;exact itemU_request' fun e=>o ⟨rfl,e⟩
 unfold itemU;rw[if_neg g,if_neg h,if_neg i,if_neg j]
end Go.TM.Tp
namespace Go.Y.Txt
open Go.TM.Tp
attribute [local irreducible] T.wp CV FWK
def LineR(a:Addr)(o:Option LU)(r:Value)(h:LH):Prop:=match o with
 | some (.use x y z w)=>r=.tuple #[.iface 104 (.agg #[.int .i64 (x:Int),.int .i64 (y:Int),.int .i64 (z:Int),.int .i64 (w:Int)]),.nilIface]
 | some (.excuse x y)=>r=.tuple #[.iface 106 (.agg #[.int .i64 (x:Int),.int .i64 (y:Int)]),.nilIface]
 | some (.paper x y l m)=>∃ p n c,r=.tuple #[.iface 108 (.agg #[.int .i64 (x:Int),.int .i64 (y:Int),.int .i64 (l:Int),.slice p n c]),.nilIface]/\InS h p n c (ints m)
 | some (.request d l m)=>∃ p n c,r=.tuple #[.iface 110 (.agg #[.int .i64 (d:Int),.int .i64 (l:Int),.slice p n c]),.nilIface]/\InS h p n c (ints m)
 | none=>∃ v e,r=.tuple #[v,e]/\BadE a e h
variable {a:Addr}{h:LH}
theorem rangeE_is(a:Addr)(o:Option (Nat×Nat)):rangeE a o=.tuple #[.agg #[.int .i64 (spanO o).first,.int .i64 (spanO o).last],eV a o.isNone]:=by cases o<;>rfl
theorem numE_is(a:Addr)(o:Option Nat):numE a o=.tuple #[.int .i64 (numO o),eV a o.isNone]:=by cases o<;>rfl
theorem NumsE.is{o:Option (List Nat)}{r:Value}(x:NumsE a o r h):∃ p n c,r=.tuple #[.slice p n c,eV a o.isNone]/\InS h p n c (listO o):=by
 cases o with
 | some m=>obtain⟨p,n,c,b,d⟩:=x;exact⟨p,n,c,b,d⟩
 | none=>exact⟨none,0,0,x,InS.nil⟩
theorem fill3(a:Addr)(x y z:Bool):Instr.fill (fun i=>some (i*1,1)) ((Array.range (3*1)).map (Value.nilIface.cells[·%Value.nilIface.cells.size]!)) #[(0,eV a x),(1,eV a y),(2,eV a z)].toList=some [eV a x,eV a y,eV a z].toArray:=by
 cases x<;>cases y<;>cases z<;>kernel_rfl
theorem LineR.bad{v e:Value}(b:BadE a e h):LineR a none (.tuple #[v,e]) h:=⟨v,e,rfl,b⟩
theorem c3727(M:ErrL a h.get)(l:Bs)(hl:l.length<=2^18):Gr Tryz.prog 48 #[.string (str l)] h fun r h'=>LineR a (lineU l) r h':=by
 obtain⟨ms,Q⟩:=undErr;refine w3727 Qn ?_;obtain⟨y0,z0⟩:=cutV_len 58 l;have tl:=trimS_len 59 (cutV 58 l).2.1;rw[line_prog l];unfold fieldsP;refine t_pu (c3744 l 58 (by omega)) ?_;refine gZ ?_;refine Qq ?_;refine gZ ?_;refine Qq ?_;refine gZ ?_;refine t_pu (c3745 _ 59 (by omega)) ?_;refine gZ ?_;refine Qq ?_;refine gZ ?_;generalize (cutV 58 l).1=w at *;generalize (cutV 58 l).2.1=r0 at *;generalize (cutV 58 l).2.2=ok at *;have b1:=G6 59 (trimS 59 r0);refine t_gr (c3746 (trimS 59 r0) 59 (by omega)) ?_;rintro _ P g ⟨p,n,k,rfl,s⟩;have small:∀ x∈cut 59 (trimS 59 r0),x.length<=2^18:=fun x hx=>by have:=K1 hx;omega
 generalize cut 59 (trimS 59 r0)=f at *;have V:P.get.cell? ⟨0,0,none⟩=some (errV a):=M.le g.1;have D:=s.2.1;refine gZ ?_;rcases Decidable.em (¬ (ok=true/\r0.getLast?=some 59)) with A|A
 ·rw[if_neg A];refine Jd (fun B h'=>False) ?_ (fun _ _ hf=>hf.elim);refine Qp (fun e=>?_) (fun e=>?_)
  ·repeat (refine Jq V ?_;refine gZ ?_)
   exact Qg ⟨g,.bad (.inl rfl)⟩
  refine Qp (fun F=>?_) (fun F=>?_)
  ·repeat (refine Jq V ?_;refine gZ ?_)
   exact Qg ⟨g,.bad (.inl rfl)⟩
  ·exact absurd ⟨by simpa using e,by simpa using F⟩ A
 have A:=Decidable.not_not.1 A;rw[if_pos A];show T.wp _ _ _ (retQ fun r h'=>h.le h'/\LineR a (itemU w f) r h') _;refine Jd (fun B h'=>B=[.nilIface,.nilIface]/\P=h') ?_ ?_
 ·rw[A.1];refine yF ?_;refine Qp (fun e=>by rw[decide_eq_true A.2]at e;cases e) (fun _=>?_);exact Qi ⟨rfl,rfl⟩
 rintro B _ ⟨rfl,rfl⟩;refine gZ ?_;have J:∀ j:Nat,((n:Int)==(j:Int))=decide (f.length=j):=fun j=>by
  rw[D];by_cases Y:f.length=j
  ·rw[decide_eq_true Y,Y];simp
  ·rw[decide_eq_false Y];simp;omega
 refine Jd (fun B h'=>B=[.bool (decide (w=wUse/\f.length=4))]/\P=h') ?_ ?_
 ·refine Gj (b:=wUse) undS ?_;refine yI (fun e=>?_) (fun e=>?_)
  ·refine Qi ⟨?_,rfl⟩;have e:w=wUse:=by simpa using e
   rw[show ((n:Int)==4)=decide (f.length=4) from J 4];simp[e]
  ·refine Qi ⟨?_,rfl⟩;have e:¬ w=wUse:=by simpa using e
   simp[e]
 rintro B _ ⟨rfl,rfl⟩;refine gZ ?_;refine Qp (fun e=>?_) (fun l0=>?_)
 ·obtain⟨rfl,N⟩:=of_decide_eq_true e;rw[itemU_use];refine t_gr (c3747 (M.le g.1) s (by omega) (fun x hx=>by have:=small x hx;omega)) ?_;intro r h2 t hr;have c:=LH.le_trans g t;cases hv:numsL f with
  | none =>
   rw[hv]at hr;have hr:r=.tuple #[.slice none 0 0,errV a]:=hr;subst hr;refine gZ ?_;refine J1 Q (H5 a) rfl ?_;refine yT ?_;exact Qg ⟨c,.bad (.inl rfl)⟩
  | some m =>
   rw[hv]at hr;obtain⟨q,n2,k2,rfl,R⟩:=hr;have o:=Ww hv
   match m,o,R with
   | [x,y,z,w],_,R =>
    have p0:n2=4:=by have:=R.2.1;rw[this];rfl
    subst p0;obtain⟨q0,I,V⟩:=R.at (i:=0) (x:=(x:Int)) rfl;obtain⟨q1,E,U⟩:=R.at (i:=1) (x:=(y:Int)) rfl;obtain⟨q2,K,g2⟩:=R.at (i:=2) (x:=(z:Int)) rfl;obtain⟨q3,a0,W⟩:=R.at (i:=3) (x:=(w:Int)) rfl;rw[I]at E K a0;cases E;cases K;cases a0;rw[Nat.mul_one]at V U g2 W;refine gZ ?_;refine J1 Q (.inl rfl) rfl ?_;refine yF ?_;refine gZ ?_;exact Qg ⟨c,rfl⟩
   | [],o,_=>simp at o;omega
   | [_],o,_=>simp at o;omega
   | [_,_],o,_=>simp at o;omega
   | [_,_,_],o,_=>simp at o;omega
   | _::_::_::_::_::_,o,_=>simp at o;omega
 have n1:=of_decide_eq_false l0;refine Jd (fun B h'=>B=[.bool (decide (w=wExcuse/\f.length=1))]/\P=h') ?_ ?_
 ·refine Gj (b:=wExcuse) undS ?_;refine yI (fun e=>?_) (fun e=>?_)
  ·refine Qi ⟨?_,rfl⟩;have e:w=wExcuse:=by simpa using e
   rw[show ((n:Int)==1)=decide (f.length=1) from J 1];simp[e]
  ·refine Qi ⟨?_,rfl⟩;have e:¬ w=wExcuse:=by simpa using e
   simp[e]
 rintro B _ ⟨rfl,rfl⟩;refine gZ ?_;refine Qp (fun e=>?_) (fun m0=>?_)
 ·obtain⟨rfl,N⟩:=of_decide_eq_true e
  match f,N,s,D,small with
  | [x],_,s,D,small =>
   rw[itemU_excuse];obtain⟨q0,I,U⟩:=s.at (i:=0) (x:=x) rfl;rw[Nat.mul_one]at U;have a1:0<=(0:Int)/\(0:Int)<(n:Int):=by have:n=1:=D;omega
   refine gZ ?_;refine Q9 U ?_;refine t_gr (c3748 (M.le g.1) x (by have:=small x (by simp);omega)) ?_;rintro _ h2 t rfl;have c:=LH.le_trans g t;cases hv:rangeL x with
   | none =>
    unfold rangeE;refine gZ ?_;exact Qg ⟨c,.bad (.inl rfl)⟩
   | some q =>
    unfold rangeE;refine gZ ?_;exact Qg ⟨c,rfl⟩
 have n2:=of_decide_eq_false m0;refine Jd (fun B h'=>B=[.bool (decide (w=wPaper/\f.length=3))]/\P=h') ?_ ?_
 ·refine Gj (b:=wPaper) undS ?_;refine yI (fun e=>?_) (fun e=>?_)
  ·refine Qi ⟨?_,rfl⟩;have e:w=wPaper:=by simpa using e
   rw[show ((n:Int)==3)=decide (f.length=3) from J 3];simp[e]
  ·refine Qi ⟨?_,rfl⟩;have e:¬ w=wPaper:=by simpa using e
   simp[e]
 rintro B _ ⟨rfl,rfl⟩;refine gZ ?_;refine Qp (fun e=>?_) (fun n0=>?_)
 ·obtain⟨rfl,N⟩:=of_decide_eq_true e
  match f,N,s,D,small with
  | [x,y,z],_,s,D,small =>
   rw[itemU_paper];obtain⟨q0,I,U⟩:=s.at (i:=0) (x:=x) rfl;have w0:0<=(0:Int)/\(0:Int)<(n:Int):=by have:n=3:=D;omega
   have x0:0<=(1:Int)/\(1:Int)<(n:Int):=by have:n=3:=D;omega
   have X:0<=(2:Int)/\(2:Int)<(n:Int):=by have:n=3:=D;omega
   refine gZ ?_;refine Q9 U ?_;refine t_gr (c3748 (M.le g.1) x (by have:=small x (by simp);omega)) ?_;rintro _ h2 t rfl;have c:=LH.le_trans g t;rw[rangeE_is];obtain⟨q1,E,g2⟩:=(s.le t).at (i:=1) (x:=y) rfl;refine gZ ?_;refine Q9 g2 ?_;refine t_gr (c3749 (M.le c.1) y (by have:=small y (by simp);omega)) ?_;rintro _ h3 e0 rfl;have O:=LH.le_trans c e0;rw[numE_is];obtain⟨q2,K,W⟩:=(s.le (LH.le_trans t e0)).at (i:=2) (x:=z) rfl;refine gZ ?_;refine Q9 W ?_;refine t_gr (c3750 (M.le O.1) z (by have:=small z (by simp);omega)) ?_;intro r N L hr;have C:=LH.le_trans O L;obtain⟨p5,n5,k5,rfl,s5⟩:=hr.is;refine gZ ?_;refine Zo [eV a (rangeL x).isNone,eV a (numL y).isNone,eV a (listL z).isNone] undEs infE (by decide) (by decide) (fill3 a _ _ _) ?_;intro r6 h6 j0 _ u0;have b0:=LH.le_trans C j0;refine gZ ?_;have es:ErrsS a h6 (some ⟨r6,0,none⟩) [(rangeL x).isNone,(numL y).isNone,(listL z).isNone]:=by
    intro i b hb;refine⟨_,rfl,?_⟩;rw[Nat.mul_one];refine u0 i _ ?_
    match i,hb with
    | 0,hb=>cases hb;rfl
    | 1,hb=>cases hb;rfl
    | 2,hb=>cases hb;rfl
    | i+3,hb=>simp at hb
   refine t_gr (c3751 es (by simp)) ?_;intro r h7 k0 hr;have c0:=LH.le_trans b0 k0;have s7:=s5.le (LH.le_trans j0 k0);refine gZ ?_;refine Qg ⟨c0,?_⟩;rcases hr with⟨hc,rfl⟩|⟨hc,Y⟩
   ·cases G:rangeL x with
    | none=>rw[G]at hc;simp at hc
    | some q =>
     cases F:numL y with
     | none=>rw[G,F]at hc;simp at hc
     | some v =>
      cases S:listL z with
      | none=>rw[G,F,S]at hc;simp at hc
      | some m =>
       rw[S]at s7;exact⟨p5,n5,k5,rfl,s7⟩
   ·have:((rangeL x).bind fun p=>(numL y).bind fun l=>(listL z).map fun m=>LU.paper p.1 p.2 l m)=none:=by
     cases G:rangeL x with
     | none=>rfl
     | some q =>
      cases F:numL y with
      | none=>rfl
      | some v =>
       cases S:listL z with
       | none=>rfl
       | some m=>rw[G,F,S]at hc;simp at hc
    rw[this];exact .bad (.inr Y)
 have n3:=of_decide_eq_false n0;refine Jd (fun B h'=>B=[.bool (decide (w=wRequest/\f.length=3))]/\P=h') ?_ ?_
 ·refine Gj (b:=wRequest) undS ?_;refine yI (fun e=>?_) (fun e=>?_)
  ·refine Qi ⟨?_,rfl⟩;have e:w=wRequest:=by simpa using e
   rw[show ((n:Int)==3)=decide (f.length=3) from J 3];simp[e]
  ·refine Qi ⟨?_,rfl⟩;have e:¬ w=wRequest:=by simpa using e
   simp[e]
 rintro B _ ⟨rfl,rfl⟩;refine gZ ?_;refine Qp (fun e=>?_) (fun o0=>?_)
 ·obtain⟨rfl,N⟩:=of_decide_eq_true e
  match f,N,s,D,small with
  | [x,y,z],_,s,D,small =>
   rw[itemU_request];have Z:n=3:=D;have hk:=s.1;have s2:BsS P p 2 k [x,y]:=⟨by omega,slTake s.2 (i:=2) (by omega)⟩
   refine Gi undSs infS (i:=2) (by omega) ?_;refine gZ ?_;refine t_gr (c3747 (M.le g.1) s2 (by simp) (fun u hu=>by have:=small u (by simp at hu ⊢;rcases hu with h|h<;>simp[h]);omega)) ?_;intro r h2 t hr;have c:=LH.le_trans g t;have X:0<=(2:Int)/\(2:Int)<(n:Int):=by have:n=3:=D;omega
   obtain⟨q2,K,W⟩:=(s.le t).at (i:=2) (x:=z) rfl;obtain⟨p3,n3,k3,rfl,s3⟩:=hr.is;refine gZ ?_;refine Q9 W ?_;refine t_gr (c3750 (M.le c.1) z (by have:=small z (by simp);omega)) ?_;intro r N L s0;have C:=LH.le_trans c L;obtain⟨p5,n5,k5,rfl,s5⟩:=s0.is;refine gZ ?_;refine J1 Q (U6 a _) rfl ?_;rw[U5,Bool.not_not];refine gZ ?_;have H:numsL [x,y]=(numL x).bind fun d=>(numL y).map fun l=>[d,l]:=by
    rw[Ze,Ze,numsL_nil];cases numL x with
    | none=>rfl
    | some d=>cases numL y<;>rfl
   refine Qp (fun e=>?_) (fun e=>?_)
   ·have:((numL x).bind fun d=>(numL y).bind fun l=>(listL z).map fun m=>LU.request d l m)=none:=by
     rw[H]at e;cases G:numL x with
     | none=>rfl
     | some d =>
      cases F:numL y with
      | none=>rfl
      | some l=>rw[G,F]at e;simp at e
    rw[this];refine Qg ⟨C,.bad (.inl ?_)⟩;rw[e];rfl
   ·rw[H]at e s3;cases G:numL x with
    | none=>rw[G]at e;simp at e
    | some d =>
     cases F:numL y with
     | none=>rw[G,F]at e;simp at e
     | some v =>
      rw[G,F]at s3;have s4:=s3.le L;have Z:n3=2:=by have:=s3.2.1;rw[this];rfl
      subst Z;obtain⟨q0,I,g4⟩:=s4.at (i:=0) (x:=(d:Int)) rfl;obtain⟨q1,E,g5⟩:=s4.at (i:=1) (x:=(v:Int)) rfl;rw[I]at E;cases E;rw[Nat.mul_one]at g4 g5;refine gZ ?_;refine Qg ⟨C,?_⟩;cases S:listL z with
      | none=>exact .bad (.inl rfl)
      | some m =>
       rw[S]at s5;exact⟨p5,n5,k5,rfl,s5⟩
 have n4:=of_decide_eq_false o0;rw[item_else n1 n2 n3 n4]
 repeat (refine Jq V ?_;refine gZ ?_)
 exact Qg ⟨g,.bad (.inl rfl)⟩
end Go.Y.Txt
end
section
namespace Go.TM.Tp
def bxC(z:Nat)(el:TypeId)(v:Value):Cells:=oneC z (.cells #[v] el (0,0))
variable {h:LH}{z:Nat}{el:TypeId}{v w:Value}
theorem Uc(a:h.get z=none):(h.add (bxC z el v)).get z=some (true,.cells #[v] el (0,0)):=Zl a
theorem bx_cell(a:h.get z=none):(h.add (bxC z el v)).get.cell? ⟨z,0,none⟩=some v:=by
 unfold Cells.cell?;simp only[Uc a];rfl
theorem bx_store(a:h.get z=none):{ h.add (bxC z el v) with get:=(h.add (bxC z el v)).get.setCell ⟨z,0,none⟩ w }=h.add (bxC z el w):=by
 have b:(h.add (bxC z el v)).get.setCell ⟨z,0,none⟩ w=(h.add (bxC z el w)).get:=by
  funext r;unfold Cells.setCell;by_cases e:r=z
  ·subst e;rw[Uc a,if_pos rfl,Uc a];rfl
  ·rw[if_neg e];show h.get.add (bxC z el v) r=h.get.add (bxC z el w) r;unfold Cells.add bxC oneC;simp only[if_neg e]
 show (⟨(h.add (bxC z el v)).get.setCell ⟨z,0,none⟩ w,_,_,_⟩ : LH)=_;rw[b];rfl
theorem W3(h:LH)(k:Cells):h.le (h.add k):=⟨fun _ _ a=>Qj a,rfl,rfl,rfl⟩
theorem Dt{X:XP}{P:Program}{Q:Leaf->LH->Prop}{k:T}(a:h.get z=none)(b:isOne w=true)(c:k.wp X P Q (h.add (bxC z el w))):(T.store (Addr.add ⟨z,0,none⟩ 0) w k).wp X P Q (h.add (bxC z el v)):=by
 have e:Addr.add ⟨z,0,none⟩ 0=⟨z,0,none⟩:=by rw[Ql]
 rw[e];refine Hp b ⟨_,Uc a⟩ (bx_cell a) (by simp[Cells.frozen?,Uc a]) ?_;rw[bx_store a];exact c
def NextLine(s:Bs)(xs:List Value)(s':Bs):Prop:=s≠[]/\xs=[.string (str (lineCut s).1)]/\s'=(lineCut s).2
def NoLine(s:Bs):Prop:=s=[]
end Go.TM.Tp
namespace Go.Y.Txt
open Go.TM.Tp
attribute [local irreducible] T.wp CV FWK
theorem hands3743{h₀:LH}{z:Nat}(u:Bs)(L:u.length<=2^40):HandsF X0 Tryz.prog (.func (.func 93) #[] #[.pointer (some ⟨z,0,none⟩)]) h₀ (bxC z 9 (.string (str u))) NextLine NoLine u:=by
 intro y J E K w k h hle B C;refine Za Qn (by rfl) (?_:FW X0 Tryz.prog 93 #[y,.pointer (some ⟨z,0,none⟩)] (h.add (bxC z 9 (.string (str u)))) _);refine w3743 Qn ?_;refine Q1 (fun G I h'=>I=[]/\∃ (s:Bs) (hm:LH),h'=hm.add (bxC z 9 (.string (str s)))/\hm.get z=none/\h₀.le hm/\J s hm/\G=s.length/\s.length<=2^40)
  ⟨rfl,u,h,rfl,J8 C,hle,B,rfl,L⟩ ?_
 rintro Y G I _ x ⟨rfl,s,hm,rfl,o,m,q,rfl,n⟩;have l:=bx_cell (el:=9) (v:=.string (str s)) o;have t:∀ H,Disj hm.get (bxC z 9 (.string (str H))):=fun H=>W0 o;refine gZ ?_;refine Q9 l ?_;refine Ja undS ?_;refine yJ (fun D=>?_) (fun D=>?_)
 ·have h0:s≠[]:=by rintro rfl;simp at D
  have hlen:=Gn h0;have i:=CV.frame Qn (k s hm [.string (str (lineCut s).1)] (lineCut s).2 m ⟨h0,rfl,rfl⟩ q) (t (lineCut s).2);refine Q9 l ?_;refine t_pu (c3569 s 10) ?_;rcases Zp 10 s with p|⟨a,r,rfl,p⟩
  ·rw[Hh p];rw[Ga p]at i hlen;refine gZ ?_;refine t_if (fun e=>absurd e (by decide)) (fun _=>?_);refine Q9 l ?_;refine Dt o rfl ?_;refine Q7 i ?_;rintro b j ⟨h',d,rfl,c,⟨rfl,g⟩|⟨rfl,f⟩⟩
   ·refine yF ?_;exact Qi (x _ _ _ hlen.1 ⟨rfl,[],h',rfl,J8 d,c,g,rfl,by simp⟩)
   ·refine yT ?_;refine gI ?_;refine gZ ?_;exact Qg ⟨LH.le_trans c (W3 _ _),.inr (w _ _ f d)⟩
  ·rw[Wb p];rw[W9 p]at i hlen;have hw:wrap .i64 ((a.length:Int)+1)=((a.length+1:Nat):Int):=by
    have:(a++10::r).length=a.length+r.length+1:=by simp;omega
    rw[Qh (by omega) (by omega)];rfl
   have hb:a.length+1<=(a++10::r).length:=by simp
   have F:(a++10::r).take (a.length+1)=a++[10]:=by simp[List.take_append,List.take_of_length_le]
   have A:(a++10::r).drop (a.length+1)=r:=by simp
   refine gZ ?_;refine t_if (fun _=>?_) (fun e=>by omega);refine Q9 l (Q9 l ?_);rw[hw];refine Zt ?_ ?_
   ·refine Wg undS hb ?_;rw[F];refine Qq ?_;refine gZ ?_;refine Q9 l ?_;refine gZ ?_;refine Zt ?_ ?_
    ·refine W5 undS hb ?_;rw[A];refine Qq ?_;refine gZ ?_;refine Dt o rfl (Q7 i ?_);rintro b j ⟨h',d,rfl,c,⟨rfl,g⟩|⟨rfl,f⟩⟩
     ·refine yF ?_;exact Qi (x _ _ _ hlen.1 ⟨rfl,r,h',rfl,J8 d,c,g,rfl,by simp at hlen n;omega⟩)
     ·refine yT ?_;refine gI ?_;refine gZ ?_;exact Qg ⟨LH.le_trans c (W3 _ _),.inr (w _ _ f d)⟩
    ·refine gZ ?_;refine Q9 l ?_;refine gZ ?_;refine W5 undS hb ?_;rw[A];refine Qq ?_;refine gZ ?_;refine Dt o rfl (Q7 i ?_);rintro b j ⟨h',d,rfl,c,⟨rfl,g⟩|⟨rfl,f⟩⟩
     ·refine yF ?_;exact Qi (x _ _ _ hlen.1 ⟨rfl,r,h',rfl,J8 d,c,g,rfl,by simp at hlen n;omega⟩)
     ·refine yT ?_;refine gI ?_;refine gZ ?_;exact Qg ⟨LH.le_trans c (W3 _ _),.inr (w _ _ f d)⟩
   ·refine W5 undS hb ?_;rw[A];refine Qq ?_;refine gZ ?_;refine Q9 l ?_;refine gZ ?_;refine Wg undS hb ?_;rw[F];refine Qq ?_;refine gZ ?_;refine Dt o rfl (Q7 i ?_);rintro b j ⟨h',d,rfl,c,⟨rfl,g⟩|⟨rfl,f⟩⟩
    ·refine yF ?_;exact Qi (x _ _ _ hlen.1 ⟨rfl,r,h',rfl,J8 d,c,g,rfl,by simp at hlen n;omega⟩)
    ·refine yT ?_;refine gI ?_;refine gZ ?_;exact Qg ⟨LH.le_trans c (W3 _ _),.inr (w _ _ f d)⟩
 ·have h0:s=[]:=List.eq_nil_of_length_eq_zero (by omega);refine gH ?_;refine gZ ?_;exact Qg ⟨LH.le_trans m (W3 _ _),.inl ⟨s,h0,K _ _ _ q (t s)⟩⟩
theorem c3726{h:LH}(s:Bs):FW X0 Tryz.prog 47 #[.string (str s)] h fun r h'=>∃ z,r=.func (.func 93) #[] #[.pointer (some ⟨z,0,none⟩)]/\h.get z=none/\h'=h.add (bxC z 9 (.string (str s))):=by
 refine w3726 Qn ?_;refine Z1 fun z a=>?_;refine Qg ⟨z,rfl,a,?_⟩;unfold LH.add;congr 1;funext r;unfold Cells.upd Cells.add bxC oneC;by_cases e:r=z
 ·subst e;simp only[if_pos rfl,a]
 ·simp only[if_neg e];cases h.get r<;>rfl
end Go.Y.Txt
end
section
namespace Go.TM.Rv
attribute [local irreducible] T.wp CV FWK
/-! ### Halves -/
def diff(h h':Cells):Cells:=fun r=>match h r with
 | some _=>none
 | none=>h' r
theorem diff_disj(h h':Cells):Disj h (diff h h'):=fun r=>by
 unfold diff;cases h r with
 | none=>exact .inl rfl
 | some x=>exact .inr rfl
theorem diff_get{h h':Cells}(a:h.le h'):h.add (diff h h')=h':=by
 funext r;unfold Cells.add diff;cases e:h r with
 | none=>rfl
 | some x=>exact(a r x e).symm
theorem diff_add{h h':LH}(e:h.le h'):h.add (diff h.get h'.get)=h':=by
 obtain⟨d,a,b,c⟩:=e;show ({ h with get:=h.get.add (diff h.get h'.get) }:LH)=h';rw[diff_get d];cases h;cases h';simp only at a b c;subst a;subst b;subst c;rfl
section
variable {P:Program} {X:XP} {Q:Leaf->LH->Prop}
end
end Go.TM.Rv
end
section
namespace Go.TM.Tp
attribute [local irreducible] T.wp CV FWK
variable {hB h':LH}{k n c:Nat}{el:TypeId}{p:Option Addr}
theorem t_grB{X:XP}{P:Program}{Q:Leaf->LH->Prop}{f:FuncId}{args:Array Value}{k:Value->T}{V:Value->LH->Prop}(hle:hB.le h')(c:Gr P f args hB V)
 (o:∀ v b g,hB.le b->b.le g->h'.le g->(∀ r,hB.get r=none->h'.get r≠none->b.get r=none)->V v b->(k v).wp X P Q g):(T.call false f args k).wp X P Q h':=by
 have e:=Rv.diff_add hle;have d:=Rv.diff_disj hB.get h'.get;rw[<- e];refine Ji (Hn (FW.frame Qn c d)) ?_;rintro v _ ⟨n,d2,rfl,a,hv⟩;refine o v n _ a (W3 _ _) ⟨fun r x i=>?_,a.2.1.trans ?_,a.2.2.1.trans ?_,a.2.2.2.trans ?_⟩ (fun r h0 m=>?_) hv
 ·rw[<- e]at i;cases hb:hB.get r with
  | some y =>
   have l:h'.get r=some y:=hle.1 _ _ hb;rw[e]at i;rw[l]at i;cases i;exact Qj (a.1 _ _ hb)
  | none =>
   have j:Rv.diff hB.get h'.get r=some x:=by
    have:=i;unfold LH.add Cells.add at this;simp only[hb]at this;exact this
   exact Q5 d2 j
 ·exact hle.2.1.symm
 ·exact hle.2.2.1.symm
 ·exact hle.2.2.2.symm
 ·rcases d2 r with h|h
  ·exact h
  ·exfalso;apply m;unfold Rv.diff at h;rw[h0]at h;exact h
theorem Wa{α:Type}{Enc d:α->List Value->Prop}{f e:LH}{l:List α}(hm:∀ x ws,Enc x ws->d x ws)(j:h'.le e)(q:∀ r,hB.get r=none->h'.get r≠none->f.get r=none)(g:Growing Enc el k hB.get h'.get p n c l):Growing d el k f.get e.get p n c l:=by
 obtain⟨s,o,r⟩:=g.row;refine⟨⟨s,o.le j.1,r.mono hm⟩,fun a h=>q _ (g.new a h) ?_⟩;rcases o.2 with⟨i,_⟩|⟨b,cs,i,m,_⟩
 ·rw[i]at h;cases h
 ·rw[i]at h;cases h;rw[m];simp
theorem Zk{α β:Type}{Enc:α->List Value->Prop}{d:β->List Value->Prop}{f:TypeId}{k':Nat}{h₀ e h h':Cells}{q:Option Addr}{w t:Nat}{l:List α}{m:List β}(s:el≠f)(g:Growing Enc el k h₀ h p n c l)(g':Growing d f k' e h q w t m)(kept:∀ r y,(∀ a,p=some a->a.block≠r)->h r=some y->h' r=some y):Growing d f k' e h' q w t m:=by
 obtain⟨B,o,r⟩:=g'.row;refine⟨⟨B,⟨o.1,?_⟩,r⟩,g'.new⟩;rcases o.2 with i|⟨b,cs,i,u,z⟩
 ·exact .inl i
 ·refine .inr ⟨b,cs,i,kept b _ ?_ u,z⟩;rintro a rfl rfl;obtain⟨C,A,_⟩:=g.row;rcases A.2 with⟨j,_⟩|⟨D,x,j,v,_⟩
  ·cases j
  ·cases j;rw[u]at v;cases v;exact s rfl
end Go.TM.Tp
namespace Go.Y.Txt
open Go.TM.Tp
attribute [local irreducible] T.wp CV FWK
variable {h:Cells}{h' hB:LH}{f:FileC}{u:UseFile}{X:XP}{Q:Leaf->LH->Prop}{q:Option Addr}{m d:Nat}
theorem paperEnc_mono{h':Cells}(a:h.le h'):∀ x ws,PaperEnc h x ws->PaperEnc h' x ws:=by
 rintro x _ ⟨q,m,c,rfl,s⟩;exact⟨q,m,c,rfl,s.le IntE.grow a⟩
theorem reqEnc_mono{h':Cells}(a:h.le h'):∀ x ws,ReqEnc h x ws->ReqEnc h' x ws:=by
 rintro x _ ⟨q,m,c,rfl,s⟩;exact⟨q,m,c,rfl,s.le IntE.grow a⟩
theorem elX:(46:TypeId)≠49/\(46:TypeId)≠51/\(49:TypeId)≠51:=by decide
structure PSt(hB h':LH)(f:FileC)(u:UseFile):Prop where
 le:hB.le h'
 g4:Growing SpanEnc 46 2 hB.get h'.get f.p4 f.n4 f.c4 u.excuses
 g5:Growing (PaperEnc hB.get) 49 4 hB.get h'.get f.p5 f.n5 f.c5 u.papers
 g6:Growing (ReqEnc hB.get) 51 3 hB.get h'.get f.p6 f.n6 f.c6 u.requests
theorem PSt.none{h:LH}:PSt h h ⟨.none,0,0,.none,0,0,.none,0,0⟩ noFile:=⟨LH.le_refl _,Growing.nil,Growing.nil,Growing.nil⟩
theorem PSt.fileR(s:PSt hB h' f u)(a:Few u):FileR h'.get f u :=
 ⟨s.g4.sl SpanEnc.len (by omega) SpanEnc.e (by have:=a.1;omega),s.g5.sl PaperEnc.len (by omega) (PaperEnc.e (Rd.of_le s.le.1)) (by have:=a.2.1;omega),s.g6.sl ReqEnc.len (by omega) (ReqEnc.e (Rd.of_le s.le.1)) (by have:=a.2.2;omega)⟩
theorem PSt.rebase{a b:LH}(s:PSt hB h' f u)(e:hB.le a)(g:a.le b)(c:h'.le b)(d:∀ r,hB.get r=.none->h'.get r≠.none->a.get r=.none):PSt a b f u :=
 ⟨g,Wa (fun _ _ h=>h) c d s.g4,Wa (paperEnc_mono e.1) c d s.g5,Wa (reqEnc_mono e.1) c d s.g6⟩
theorem t_putX{K:Option Addr->Nat->Nat->T}(s:PSt hB h' f u)(h:Few u)(x:Span)
 (n:∀ g e c,PSt hB c { f with p4:=g,n4:=f.n4+1,c4:=e } (putX u x)->(K g (f.n4+1) e).wp X Tryz.prog Q c) :
  (T.sem false (Instr.buildSlice 22 1 #[(0,.agg #[.int .i64 x.first,.int .i64 x.last])]) fun v=>T.unS v fun a m o=>T.sem false (Builtin.append_ #[22,22] 22 #[.slice f.p4 f.n4 f.c4,.slice a m o]) fun v=>T.unS v K).wp X Tryz.prog Q h':=by
 have t:=s.g4.count SpanEnc.len (by omega);have q:=h.1;refine Zo [.int .i64 x.first,.int .i64 x.last] Yh Ux (by decide) (by decide) (by kernel_rfl) ?_;intro r p b _ i;refine gZ ?_;refine Gy (h₀:=hB) (Enc:=SpanEnc) x [.int .i64 x.first,.int .i64 x.last] rfl rfl Yh Ux rfl (by omega) (by omega) (s.g4.le b.1) (LH.le_trans s.le b) rfl rfl i (by intro w hw;simp at hw;rcases hw with rfl|rfl<;>rfl) ?_;intro g e l j d k;refine gZ ?_;exact n g e l ⟨j,k,Zk elX.1 (s.g4.le b.1) (s.g5.le b.1) d,Zk elX.2.1 (s.g4.le b.1) (s.g6.le b.1) d⟩
theorem t_putP{K:Option Addr->Nat->Nat->T}(s:PSt hB h' f u)(i:Few u)(x:Paper)(t:Sl IntE 1 hB.get q m x.items)
 (o:∀ h g c,PSt hB c { f with p5:=h,n5:=f.n5+1,c5:=g } (putP u x)->(K h (f.n5+1) g).wp X Tryz.prog Q c) :
  (T.sem false (Instr.buildSlice 23 1 #[(0,.agg #[.int .i64 x.days.first,.int .i64 x.days.last,.int .i64 x.land,.slice q m d])]) fun v=>T.unS v fun a m p=>T.sem false (Builtin.append_ #[23,23] 23 #[.slice f.p5 f.n5 f.c5,.slice a m p]) fun v=>T.unS v K).wp X Tryz.prog Q h':=by
 have A:=s.g5.count PaperEnc.len (by omega);have z:=i.2.1;refine Zo [.int .i64 x.days.first,.int .i64 x.days.last,.int .i64 x.land,.slice q m d] Ue Uv (by decide) (by decide) (by kernel_rfl) ?_;intro r y b _ j;refine gZ ?_;refine Gy (h₀:=hB) (Enc:=PaperEnc hB.get) x [.int .i64 x.days.first,.int .i64 x.days.last,.int .i64 x.land,.slice q m d] rfl rfl Ue Uv rfl (by omega) (by omega) (s.g5.le b.1) (LH.le_trans s.le b) ⟨q,m,d,rfl,t⟩ rfl j (by intro w hw;simp at hw;rcases hw with rfl|rfl|rfl|rfl<;>rfl) ?_;intro h g n k e l;refine gZ ?_;exact o h g n ⟨k,Zk elX.1.symm (s.g5.le b.1) (s.g4.le b.1) e,l,Zk elX.2.2 (s.g5.le b.1) (s.g6.le b.1) e⟩
theorem t_putR{K:Option Addr->Nat->Nat->T}(s:PSt hB h' f u)(i:Few u)(x:Request)(t:Sl IntE 1 hB.get q m x.items)
 (o:∀ h g c,PSt hB c { f with p6:=h,n6:=f.n6+1,c6:=g } (putR u x)->(K h (f.n6+1) g).wp X Tryz.prog Q c) :
  (T.sem false (Instr.buildSlice 24 1 #[(0,.agg #[.int .i64 x.day,.int .i64 x.land,.slice q m d])]) fun v=>T.unS v fun a m p=>T.sem false (Builtin.append_ #[24,24] 24 #[.slice f.p6 f.n6 f.c6,.slice a m p]) fun v=>T.unS v K).wp X Tryz.prog Q h':=by
 have A:=s.g6.count ReqEnc.len (by omega);have z:=i.2.2;refine Zo [.int .i64 x.day,.int .i64 x.land,.slice q m d] und24 Uw (by decide) (by decide) (by kernel_rfl) ?_;intro r y b _ j;refine gZ ?_;refine Gy (h₀:=hB) (Enc:=ReqEnc hB.get) x [.int .i64 x.day,.int .i64 x.land,.slice q m d] rfl rfl und24 Uw rfl (by omega) (by omega) (s.g6.le b.1) (LH.le_trans s.le b) ⟨q,m,d,rfl,t⟩ rfl j (by intro w hw;simp at hw;rcases hw with rfl|rfl|rfl<;>rfl) ?_;intro h g n k e l;refine gZ ?_;exact o h g n ⟨k,Zk elX.2.1.symm (s.g6.le b.1) (s.g4.le b.1) e,Zk elX.2.2.symm (s.g6.le b.1) (s.g5.le b.1) e,l⟩
end Go.Y.Txt
end
section
namespace Go.TM.Tp
section
variable {P:Program} {X:XP} {Q:Leaf->LH->Prop}
variable {h:LH}{K:Value->T}{xT asserted:TypeId}{v:Value}
theorem Gz{a:Array Field}(hu:P.underlying asserted=some (.struct a))(b:(K (.tuple #[v,.bool true])).wp X P Q h):(T.sem false (Instr.typeAssert (.iface asserted v) xT asserted true) K).wp X P Q h:=by
 refine Q6 (A:=fun w h'=>w=.tuple #[v,.bool true]/\h'=h.get) ?_ (by rintro w h' ⟨rfl,rfl⟩;exact b);unfold Instr.typeAssert;simp only[lwp_bind,Qa hu,if_true,Qe];exact⟨trivial,trivial⟩
theorem Ky{t:TypeId}{z:Value}{c:Array Field}(hu:P.underlying asserted=some (.struct c))(a:t≠asserted)(f:(P.info? asserted).map (·.zero)=some (some z))(e:(K (.tuple #[z,.bool false])).wp X P Q h):(T.sem false (Instr.typeAssert (.iface t v) xT asserted true) K).wp X P Q h:=by
 obtain⟨j,d,b⟩:=Option.map_eq_some_iff.1 f;refine Q6 (A:=fun w h'=>w=.tuple #[z,.bool false]/\h'=h.get) ?_ (by rintro w h' ⟨rfl,rfl⟩;exact e);unfold Instr.typeAssert;simp only[lwp_bind,Qa hu,if_neg a,if_true,Jb d b,Qe];exact⟨trivial,trivial⟩
end
end Go.TM.Tp
namespace Go.Y.Txt
open Go.TM.Tp
variable {v:Value}{H:Cells}{X:XP}{h:LH}{a:Addr}
theorem via_p0_eq{A : Next -> Cells -> Prop}{E : Halt -> Cells -> Prop} : Qc Tryz.prog (do let d <- Deferred.ofValue (.func (.func 268) #[] #[]) #[v]; invoke d.target d.args) A E H = Qc Tryz.prog (do let d <- Deferred.ofValue (.func (.method "touchmark/use.place") #[.iface 104 v] #[]) #[]; invoke d.target d.args) A E H := by
 kernel_rfl
theorem via_p0{Q : Value -> LH -> Prop}(c : CV X Tryz.prog (.func (.func 268) #[] #[]) #[v] h Q) : CV X Tryz.prog (.func (.method "touchmark/use.place") #[.iface 104 v] #[]) #[] h Q := by
 unfold CV at c ⊢;intro main R hR fr cs hk;exact via_p0_eq.mp (c main R hR fr cs hk)
theorem via_p1_eq{A : Next -> Cells -> Prop}{E : Halt -> Cells -> Prop} : Qc Tryz.prog (do let d <- Deferred.ofValue (.func (.func 269) #[] #[]) #[v]; invoke d.target d.args) A E H = Qc Tryz.prog (do let d <- Deferred.ofValue (.func (.method "touchmark/use.place") #[.iface 106 v] #[]) #[]; invoke d.target d.args) A E H := by
 kernel_rfl
theorem via_p1{Q : Value -> LH -> Prop}(c : CV X Tryz.prog (.func (.func 269) #[] #[]) #[v] h Q) : CV X Tryz.prog (.func (.method "touchmark/use.place") #[.iface 106 v] #[]) #[] h Q := by
 unfold CV at c ⊢;intro main R hR fr cs hk;exact via_p1_eq.mp (c main R hR fr cs hk)
theorem via_p2_eq{A : Next -> Cells -> Prop}{E : Halt -> Cells -> Prop} : Qc Tryz.prog (do let d <- Deferred.ofValue (.func (.func 270) #[] #[]) #[v]; invoke d.target d.args) A E H = Qc Tryz.prog (do let d <- Deferred.ofValue (.func (.method "touchmark/use.place") #[.iface 108 v] #[]) #[]; invoke d.target d.args) A E H := by
 kernel_rfl
theorem via_p2{Q : Value -> LH -> Prop}(c : CV X Tryz.prog (.func (.func 270) #[] #[]) #[v] h Q) : CV X Tryz.prog (.func (.method "touchmark/use.place") #[.iface 108 v] #[]) #[] h Q := by
 unfold CV at c ⊢;intro main R hR fr cs hk;exact via_p2_eq.mp (c main R hR fr cs hk)
theorem via_p3_eq{A : Next -> Cells -> Prop}{E : Halt -> Cells -> Prop} : Qc Tryz.prog (do let d <- Deferred.ofValue (.func (.func 271) #[] #[]) #[v]; invoke d.target d.args) A E H = Qc Tryz.prog (do let d <- Deferred.ofValue (.func (.method "touchmark/use.place") #[.iface 110 v] #[]) #[]; invoke d.target d.args) A E H := by
 kernel_rfl
theorem via_p3{Q : Value -> LH -> Prop}(c : CV X Tryz.prog (.func (.func 271) #[] #[]) #[v] h Q) : CV X Tryz.prog (.func (.method "touchmark/use.place") #[.iface 110 v] #[]) #[] h Q := by
 unfold CV at c ⊢;intro main R hR fr cs hk;exact via_p3_eq.mp (c main R hR fr cs hk)
theorem undL0:∃ a,Tryz.prog.underlying 104=some (.struct a)/\(Tryz.prog.info? 104).map (·.zero)=some (some (.agg #[.int .i64 0,.int .i64 0,.int .i64 0,.int .i64 0])):=⟨_,Tryz.underlying104,by kernel_rfl⟩
theorem undL1:∃ a,Tryz.prog.underlying 106=some (.struct a)/\(Tryz.prog.info? 106).map (·.zero)=some (some (.agg #[.int .i64 0,.int .i64 0])):=⟨_,Tryz.underlying106,by kernel_rfl⟩
theorem undL2:∃ a,Tryz.prog.underlying 108=some (.struct a)/\(Tryz.prog.info? 108).map (·.zero)=some (some (.agg #[.int .i64 0,.int .i64 0,.int .i64 0,.slice none 0 0])):=⟨_,Tryz.underlying108,by kernel_rfl⟩
theorem undL3:∃ a,Tryz.prog.underlying 110=some (.struct a)/\(Tryz.prog.info? 110).map (·.zero)=some (some (.agg #[.int .i64 0,.int .i64 0,.slice none 0 0])):=⟨_,Tryz.underlying110,by kernel_rfl⟩
theorem lineT:(104:TypeId)≠106/\(104:TypeId)≠108/\(104:TypeId)≠110/\(106:TypeId)≠108/\(106:TypeId)≠110/\(108:TypeId)≠110:=by decide
attribute [local irreducible] T.wp CV FWK
def LineV(x:LU)(v:Value)(h:LH):Prop:=match x with
 | .use x y z w=>v=.iface 104 (.agg #[.int .i64 (x:Int),.int .i64 (y:Int),.int .i64 (z:Int),.int .i64 (w:Int)])
 | .excuse x y=>v=.iface 106 (.agg #[.int .i64 (x:Int),.int .i64 (y:Int)])
 | .paper x y l m=>∃ p n c,v=.iface 108 (.agg #[.int .i64 (x:Int),.int .i64 (y:Int),.int .i64 (l:Int),.slice p n c])/\InS h p n c (ints m)
 | .request d l m=>∃ p n c,v=.iface 110 (.agg #[.int .i64 (d:Int),.int .i64 (l:Int),.slice p n c])/\InS h p n c (ints m)
theorem LineR.val{x:LU}{r:Value}(l:LineR a (some x) r h):∃ v,r=.tuple #[v,.nilIface]/\LineV x v h:=by
 cases x with
 | use x y z w=>exact⟨_,l,rfl⟩
 | excuse x y=>exact⟨_,l,rfl⟩
 | paper x y f m=>obtain⟨p,n,c,b,e⟩:=l;exact⟨_,b,p,n,c,rfl,e⟩
 | request d f m=>obtain⟨p,n,c,b,e⟩:=l;exact⟨_,b,p,n,c,rfl,e⟩
theorem Ua{hB: LH}{x : LU}(l : LineV x v hB) : CV X0 Tryz.prog (.func (.method "touchmark/use.place") #[v] #[]) #[] h (fun r h' => r = .int .i64 (x.place : Int) /\ h' = h) := by
 cases x with
 | use x y z w=>obtain rfl:=l;exact via_p0 (Za Qn (by rfl) (c3807 _ _ _ _))
 | excuse x y=>obtain rfl:=l;exact via_p1 (Za Qn (by rfl) (c3808 _ _))
 | paper x y l' m=>obtain⟨p,n,c,rfl,_⟩:=l;exact via_p2 (Za Qn (by rfl) (c3809 _ _ _ _ _ _))
 | request d l' m=>obtain⟨p,n,c,rfl,_⟩:=l;exact via_p3 (Za Qn (by rfl) (c3810 _ _ _ _ _))
theorem Parts.le{h h':Cells}(b:h.le h')(p:Parts h):Parts h':=fun j a=>Qd b (p j a)
theorem place_cond(a n:Nat):(!(((a:Int)==0)==(((n+1:Nat):Int)==1)))=decide (a=0↔n≠0):=by
 by_cases c:a=0
 ·by_cases b:n=0
  ·subst c;subst b;rfl
  ·have:(((n+1:Nat):Int)==1)=false:=by simp;omega
   rw[this];simp[c,b]
 ·have d:((a:Int)==0)=false:=by simp;omega
  rw[d];by_cases b:n=0
  ·subst b;simp[c]
  ·have:(((n+1:Nat):Int)==1)=false:=by simp;omega
   rw[this];simp[c,b]
def ParI(h:LH)(t:Bs)(s:Bs)(vs:List Value)(h':LH):Prop:=∃ (hB:LH) (n p:Nat) (u:UseFile) (f:FileC),h.le hB/\PSt hB h' f u /\
 vs=[.int .i64 u.items,.int .i64 u.lands,.int .i64 u.from_,.int .i64 u.idle,.slice f.p4 f.n4 f.c4,.slice f.p5 f.n5 f.c5,.slice f.p6 f.n6 f.c6,.int .i64 (n:Int),.int .i64 0,.int .i64 (p:Int)] /\
 goU n p u (linesL s)=goU 0 0 noFile (linesL t)/\s.length+n<=t.length/\(u.excuses.length<=n/\u.papers.length<=n/\u.requests.length<=n)/\(n=0->s=t)/\(n≠0->t≠[])/\p<=3
theorem c3706(hp:Parts h.get)(ea:ErrL a h.get)(t:Bs):Gr Tryz.prog 11 #[.string (str t)] h fun r h'=>ParseA (parseU t) r h':=by
 refine w3706 _ Qn ?_;unfold n3706;refine Ja undS ?_;refine yJ (fun e=>?_) (fun e=>?_)
 ·have:parseU t=(noFile,0,2):=by unfold parseU;rw[if_pos (by omega)]
  rw[this];exact Qg ⟨LH.le_refl _,.none⟩
 have ht:¬ 60000<t.length:=by omega
 refine Ji (Hn (c3726 t)) ?_;rintro _ _ ⟨z,rfl,hz,rfl⟩;refine t_eachF (μ:=List.length) ?_ (hm:=h) (k₀:=bxC z 9 (.string (str t))) rfl (W0 hz) (LH.le_refl h) (hands3743 t (by omega)) (ParI h t) ⟨h,0,0,noFile,_,LH.le_refl _,PSt.none,rfl,rfl,by omega,by simp[noFile],fun _=>rfl,fun h0=>absurd rfl h0,by omega⟩ ?_ ?_
 ·rintro s xs s' ⟨h0,rfl,rfl⟩;exact(Gn h0).1
 ·rintro s U h' O P ⟨hB,n,p,u,f,G,S,rfl,hgo,a0,X,h0,h1,_⟩;have hs:s=[]:=O;subst hs;have M:goU 0 0 noFile (linesL t)=(u,none):=by rw[<- hgo,lines_nil,goU]
  rw[parse_right ht M];refine yI (fun e=>?_) (fun e=>?_)
  ·have H:n=0:=by
    have:(n:Int)=0:=by simpa using e
    omega
   rw[if_pos (by rw[<- h0 H,lines_nil])];exact Qg ⟨P,.none⟩
  ·have H:n≠0:=fun h=>by rw[h]at e;simp at e
   rw[if_neg (by rw[lines_step (h1 H)];simp)];have j:Few u:=⟨by omega,by omega,by omega⟩
   refine t_gr (c26 (Parts.le P.1 hp) (S.fileR j)) ?_;rintro _ E I rfl;refine yI (fun e=>?_) (fun e=>?_)
   ·have hc:checkF u≠0:=by simpa using e
    rw[if_pos hc];exact Qg ⟨LH.le_trans P I,.none⟩
   ·have hc:checkF u=0:=by simpa using e
    rw[if_neg (by simp[hc])];exact Qg ⟨LH.le_trans P I,f,rfl,(S.fileR j).le I.1⟩
 ·rintro s xs s' U h' ⟨D,rfl,rfl⟩ P ⟨hB,n,p,u,f,G,S,rfl,hgo,a0,X,h0,h1,m0⟩ Y V;have l0:=Gn D;have o0:=trimS_len 10 (lineCut s).1;rw[lines_step D]at hgo;refine gZ ?_;refine Qq ?_;refine gZ ?_;refine t_pu (c3728 _ 10 (by omega)) ?_;refine Qq ?_;refine t_grB S.le (c3727 (ea.le G.1) (trimS 10 (lineCut s).1) (by omega)) ?_;generalize trimS 10 (lineCut s).1=b at *;generalize (lineCut s).2=s' at *;intro r A E l1 l2 l3 ld hr;have F:=S.rebase l1 l2 l3 ld;have g:=LH.le_trans G l1;have c:h.le E:=LH.le_trans g l2;have g0:E.get.cell? ⟨0,0,none⟩=some (errV a):=ea.le c.1;have Q:wrap .i64 ((n:Int)+1)=((n+1:Nat):Int):=by rw[Qh (by omega) (by omega)];rfl
  have C:(∀ x,lineU b=some x->x.place<p\/(x.place=0↔n≠0))->parseU t=(noFile,n+1,3):=fun K=>parse_wrong ht (by rw[<- hgo];exact go_fail K);cases L:lineU b with
  | none =>
   rw[L]at hr;obtain⟨v,e,rfl,bad⟩:=hr;have hw:=C (by rw[L];simp);refine gZ ?_;rw[Q];refine Jd (fun U h'=>False) ?_ (fun _ _ hf=>hf.elim);refine Jq g0 ?_;refine t_pu (c3729 (bad.le l2)) ?_;refine yT ?_;refine gZ ?_;refine Zt ?_ ?_
   ·refine gZ ?_;refine Zt ?_ ?_
    ·refine gZ ?_;refine Wf c ?_;refine gZ ?_;rw[hw];exact Qg ⟨c,.none⟩
    ·refine gZ ?_;refine Wf c ?_;refine gZ ?_;rw[hw];exact Qg ⟨c,.none⟩
   ·refine gZ ?_;refine Wf c ?_;refine gZ ?_;rw[hw];exact Qg ⟨c,.none⟩
  | some x =>
   rw[L]at hr;obtain⟨v,rfl,J⟩:=hr.val;have j:Few u:=⟨by omega,by omega,by omega⟩
   refine gZ ?_;rw[Q];refine Jd (fun U h'=>U=[.int .i64 u.items,.int .i64 u.lands,.int .i64 u.from_,.int .i64 u.idle,.slice f.p4 f.n4 f.c4,.slice f.p5 f.n5 f.c5,.slice f.p6 f.n6 f.c6,.int .i64 ((n+1:Nat):Int),.int .i64 0]/\E=h'/\¬ (x.place<p\/(x.place=0↔n≠0))) ?_ ?_
   ·refine Jq g0 ?_;refine t_pu c3729n ?_;refine yF ?_;refine Q7 (Ua J) ?_;rintro _ E ⟨rfl,rfl⟩;refine yJ (fun e=>?_) (fun e=>?_)
    ·have hw:=C (fun y R=>by rw[L]at R;cases R;exact .inl (by omega));refine gZ ?_;refine Zt ?_ ?_
     ·refine gZ ?_;refine Zt ?_ ?_
      ·refine gZ ?_;refine Wf c ?_;refine gZ ?_;rw[hw];exact Qg ⟨c,.none⟩
      ·refine gZ ?_;refine Wf c ?_;refine gZ ?_;rw[hw];exact Qg ⟨c,.none⟩
     ·refine gZ ?_;refine Wf c ?_;refine gZ ?_;rw[hw];exact Qg ⟨c,.none⟩
    refine Q7 (Ua J) ?_;rintro _ E ⟨rfl,rfl⟩;refine gZ ?_;rw[place_cond];refine Qp (fun M=>?_) (fun M=>?_)
    ·have hw:=C (fun y R=>by rw[L]at R;cases R;exact .inr (of_decide_eq_true M));refine gZ ?_;refine Wf c ?_;refine gZ ?_;rw[hw];exact Qg ⟨c,.none⟩
    ·have e3:=of_decide_eq_false M;exact Qi ⟨rfl,rfl,fun K=>by rcases K with K|K;exact e (by omega);exact e3 K⟩
   rintro U k0 ⟨rfl,rfl,Z⟩;have k:goU (n+1) x.place (x.put u) (linesL s')=goU 0 0 noFile (linesL t):=by rw[<- go_next L Z];exact hgo
   have n0:=put_len u x;have B:s.length<=t.length:=by omega
   refine gZ ?_;refine Q7 (Ua J) ?_;rintro _ E ⟨rfl,rfl⟩;obtain⟨b0,W,z0⟩:=undL0;obtain⟨c0,u1,z1⟩:=undL1;obtain⟨e0,u2,z2⟩:=undL2;obtain⟨j0,u3,z3⟩:=undL3;obtain⟨k1,k2,k3,k4,k5,k6⟩:=lineT;have o:x.place<=3:=by cases x<;>exact Nat.le_of_ble_eq_true rfl
   revert k o;generalize x.place=pl;intro k o;refine gZ ?_;cases x with
   | use x y w d =>
    obtain rfl:=J;refine Gz W ?_;refine yT ?_;have i:PSt A E f ((LU.use x y w d).put u):=⟨F.le,F.g4,F.g5,F.g6⟩
    refine gZ ?_;refine K6 (LH.le_trans g i.le) (V _ _ (LH.le_trans g i.le) ⟨A,n+1,pl,_,_,g,i,rfl,k,by omega,⟨by omega,by omega,by omega⟩,fun h=>absurd h (by omega),fun _ e=>D (List.eq_nil_of_length_eq_zero (by rw[e]at B;exact Nat.le_zero.1 B)),o⟩)
   | excuse x y =>
    obtain rfl:=J;refine Ky W k1.symm z0 ?_;refine yF ?_;refine Gz u1 ?_;refine yT ?_;refine t_putX F j ⟨x,y⟩ fun p' c' N i=>?_;have i:PSt A N _ ((LU.excuse x y).put u):=i;refine gZ ?_;refine K6 (LH.le_trans g i.le) (V _ _ (LH.le_trans g i.le) ⟨A,n+1,pl,_,_,g,i,rfl,k,by omega,⟨by omega,by omega,by omega⟩,fun h=>absurd h (by omega),fun _ e=>D (List.eq_nil_of_length_eq_zero (by rw[e]at B;exact Nat.le_zero.1 B)),o⟩)
   | paper x y l m =>
    obtain⟨q,qn,qc,rfl,si⟩:=J;refine Ky W k2.symm z0 ?_;refine yF ?_;refine Ky u1 k4.symm z1 ?_;refine yF ?_;refine Gz u2 ?_;refine yT ?_;refine t_putP F j ⟨⟨x,y⟩,l,ints m⟩ si.2 fun p' c' N i=>?_;have i:PSt A N _ ((LU.paper x y l m).put u):=i;refine gZ ?_;refine K6 (LH.le_trans g i.le) (V _ _ (LH.le_trans g i.le) ⟨A,n+1,pl,_,_,g,i,rfl,k,by omega,⟨by omega,by omega,by omega⟩,fun h=>absurd h (by omega),fun _ e=>D (List.eq_nil_of_length_eq_zero (by rw[e]at B;exact Nat.le_zero.1 B)),o⟩)
   | request d l m =>
    obtain⟨q,qn,qc,rfl,si⟩:=J;refine Ky W k3.symm z0 ?_;refine yF ?_;refine Ky u1 k5.symm z1 ?_;refine yF ?_;refine Ky u2 k6.symm z2 ?_;refine yF ?_;refine Gz u3 ?_;refine yT ?_;refine t_putR F j ⟨d,l,ints m⟩ si.2 fun p' c' N i=>?_;have i:PSt A N _ ((LU.request d l m).put u):=i;refine gZ ?_;refine K6 (LH.le_trans g i.le) (V _ _ (LH.le_trans g i.le) ⟨A,n+1,pl,_,_,g,i,rfl,k,by omega,⟨by omega,by omega,by omega⟩,fun h=>absurd h (by omega),fun _ e=>D (List.eq_nil_of_length_eq_zero (by rw[e]at B;exact Nat.le_zero.1 B)),o⟩)
end Go.Y.Txt
end
section
namespace Go.TM.Tp
theorem t_sliceArrM{P:Program}{X:XP}{Q:Leaf->LH->Prop}{h:LH}{K:Value->T}{t el:TypeId}{n i j s b:Nat}{z:Option Value}{a:Addr}(hu:P.underlying t=some (.array n el))(e:(P.info? el).map (fun i=>(i.size,i.bytes,i.zero))=some (s,b,z))(f:i<=j)(k:j<=n)(g:i<n)
 (l:(K (.slice (some (a.add (i*s))) (j-i) (n-i))).wp X P Q h):(T.sem false (Instr.sliceAt t (.pointer (some a)) (some (.int .i64 (i:Int))) (some (.int .i64 (j:Int))) none) K).wp X P Q h:=by
 obtain⟨inf,c,d,_,_⟩:=Zj e;refine Q6 (A:=fun v h'=>h'=h.get/\(K v).wp X P Q h) ?_ (by rintro v h' ⟨rfl,hw⟩;exact hw);unfold Instr.sliceAt;simp only[lwp_bind,Qa hu,Instr.sureAddr];unfold Instr.sliceBounds Instr.sliceBound;simp only[lwp_bind,Qe,asIntOf];rw[if_pos (show 0<=(j:Int)/\(j:Int)<=(n:Int) by omega)];simp only[Qe,lwp_bind,Int.toNat_natCast];rw[if_pos (show 0<=(i:Int)/\(i:Int)<=(j:Int) by omega)];simp only[Qe,lwp_bind,Int.toNat_natCast,Qx c,d];refine⟨trivial,?_⟩;rw[if_neg (by omega)];exact l
end Go.TM.Tp
namespace Go.Y.Txt
open Go.TM.Tp
open Go.Lib (decDigits)
attribute [local irreducible] T.wp CV FWK
variable {h:LH}{r n:Nat}{cs:Array Value}
theorem und24:Tryz.prog.underlying 291=some (.array 24 5):=by kernel_rfl
abbrev bV(b:UInt8):Value:=.int .u8 (b.toNat:Int)
set_option maxHeartbeats 0 in
theorem k3784(E:1000<=n)(F:n<10000)(hb:h.get r=some (true,.cells cs 291 (0,0)))(s:cs.size=24) :
  FW X0 Tryz.prog 200 #[.slice (some ⟨r,1,none⟩) 4 23,.int .u64 (n:Int)] h fun v h'=>v=.tuple #[]/\Wr 291 24 r h h' [(1,bV (hiD (n / 100))),(2,bV (loD (n / 100))),(3,bV (hiD (n%100))),(4,bV (loD (n%100)))]:=by
 refine w3784 _ _ _ _ Qn ?_;unfold n3784;have z:Wr 291 24 r h h []:=⟨⟨fun _ _=>rfl,rfl,rfl,rfl⟩,cs,hb,s,by simp⟩
 refine Q1 (fun t a h'=>a=[.int .u64 (n:Int),.int .i64 ((4:Nat):Int)]/\h=h') (n:=0) ⟨rfl,rfl⟩ ?_;rintro Y t a _ G ⟨rfl,rfl⟩;refine gZ ?_;refine t_if (fun e=>absurd e (by decide)) (fun _=>?_);refine gH ?_;refine gZ ?_;have c:n%100<100:=by omega
 have b:n / 100<100:=by omega
 have u:Jv[2*(n%100)]?=some (hiD (n%100)):=(Wu _ c).1;have w:Jv[2*(n%100)+1]?=some (loD (n%100)):=(Wu _ c).2;have x:Jv[2*(n / 100)]?=some (hiD (n / 100)):=(Wu _ b).1;have y:Jv[2*(n / 100)+1]?=some (loD (n / 100)):=(Wu _ b).2;have g:IntKind.wrap .u32 (n:Int)=(n:Int):=Zc (by omega);have w1:Int.tmod (n:Int) 10000=(n:Int):=by rw[Int.tmod_eq_emod_of_nonneg (by omega)];omega
 have w2:Int.tmod (n:Int) 100*2=((2*(n%100):Nat):Int):=by rw[Int.tmod_eq_emod_of_nonneg (by omega)];omega
 have w3:Int.tdiv (n:Int) 100=((n / 100:Nat):Int):=by rw[Int.tdiv_eq_ediv_of_nonneg (by omega)];omega
 have w4:Int.tdiv (n:Int) 10000=((0:Nat):Int):=by rw[Int.tdiv_eq_ediv_of_nonneg (by omega)];omega
 have i1:IntKind.wrap .u32 (Int.tmod (Int.tmod (IntKind.wrap .u32 (n:Int)) 10000) 100*2)=((2*(n%100):Nat):Int):=by rw[g,w1,w2,Zc (by omega)]
 have i2:IntKind.wrap .u32 (IntKind.wrap .u32 (Int.tmod (Int.tmod (IntKind.wrap .u32 (n:Int)) 10000) 100*2)+1)=((2*(n%100)+1:Nat):Int):=by
  rw[i1];exact Zc (n:=2*(n%100)+1) (by omega)
 have i3:IntKind.wrap .u32 (IntKind.wrap .u32 (Int.tdiv (Int.tmod (IntKind.wrap .u32 (n:Int)) 10000) 100)*2)=((2*(n / 100):Nat):Int):=by
  rw[g,w1,w3,Zc (by omega)];have:=Zc (n:=2*(n / 100)) (by omega);rw[<- this];congr 1;omega
 have i4:IntKind.wrap .u32 (IntKind.wrap .u32 (IntKind.wrap .u32 (Int.tdiv (Int.tmod (IntKind.wrap .u32 (n:Int)) 10000) 100)*2)+1)=((2*(n / 100)+1:Nat):Int):=by
  rw[i3];exact Zc (n:=2*(n / 100)+1) (by omega)
 have i5:IntKind.wrap .u32 (Int.tdiv (IntKind.wrap .u32 (n:Int)) 10000)=0:=by rw[g,w4];rfl
 have A:0<=wrap .i64 (((4:Nat):Int)-1)/\wrap .i64 (((4:Nat):Int)-1)<((4:Nat):Int):=by decide
 have B:0<=wrap .i64 (((4:Nat):Int)-2)/\wrap .i64 (((4:Nat):Int)-2)<((4:Nat):Int):=by decide
 have C:0<=wrap .i64 (((4:Nat):Int)-3)/\wrap .i64 (((4:Nat):Int)-3)<((4:Nat):Int):=by decide
 have D:0<=wrap .i64 (((4:Nat):Int)-4)/\wrap .i64 (((4:Nat):Int)-4)<((4:Nat):Int):=by decide
 have j:Addr.add (Addr.add ⟨r,1,none⟩ (Int.toNat (wrap .i64 (((4:Nat):Int)-1))*1)) 0=⟨r,4,none⟩:=by rw[Ql,Ql];rfl
 have m:Addr.add (Addr.add ⟨r,1,none⟩ (Int.toNat (wrap .i64 (((4:Nat):Int)-2))*1)) 0=⟨r,3,none⟩:=by rw[Ql,Ql];rfl
 have o:Addr.add (Addr.add ⟨r,1,none⟩ (Int.toNat (wrap .i64 (((4:Nat):Int)-3))*1)) 0=⟨r,2,none⟩:=by rw[Ql,Ql];rfl
 have p:Addr.add (Addr.add ⟨r,1,none⟩ (Int.toNat (wrap .i64 (((4:Nat):Int)-4))*1)) 0=⟨r,1,none⟩:=by rw[Ql,Ql];rfl
 refine Jd (fun a h'=>a=[.int .i64 0,.int .u32 0]/\Wr 291 24 r h h' [(1,bV (hiD (n / 100))),(2,bV (loD (n / 100))),(3,bV (hiD (n%100))),(4,bV (loD (n%100)))]) ?_ ?_
 ·refine t_if (fun _=>?_) (fun e=>absurd (by decide) e)
  repeat (refine gT (by decide) ?_)
  refine Jd (fun a h'=>a=[]/\Wr 291 24 r h h' [(3,bV (hiD (n%100))),(4,bV (loD (n%100)))]) ?_ ?_
  ·repeat' (first|with_reducible apply Zt|refine Kg (l:=Jv) (2*(n%100)) undS i1 u ?_|refine Kg (l:=Jv) (2*(n%100)+1) undS i2 w ?_|(refine Dz (k:=4) (by assumption) j (by decide) (by decide) rfl ?_;intro f i)|(refine Dz (k:=3) (by assumption) m (by decide) (by simp) rfl ?_;intro f i)|exact Qi ⟨rfl,by assumption⟩|refine gZ ?_)
  rintro a q ⟨rfl,d⟩;refine gZ ?_
  repeat' (first|with_reducible apply Zt|refine Kg (l:=Jv) (2*(n / 100)) undS i3 x ?_|refine Kg (l:=Jv) (2*(n / 100)+1) undS i4 y ?_|(refine Dz (k:=2) (by assumption) o (by decide) (by simp) rfl ?_;intro f i)|(refine Dz (k:=1) (by assumption) p (by decide) (by simp) rfl ?_;intro f i)|exact Qi ⟨by rw[i5];rfl,by assumption⟩|refine gZ ?_)
 rintro a q ⟨rfl,d⟩;refine gZ ?_;refine t_if (fun e=>absurd e (by decide)) (fun _=>?_);refine t_if (fun e=>absurd e (by decide)) (fun _=>?_);exact Qg ⟨rfl,d⟩
set_option maxHeartbeats 0 in
theorem k3784'(y:100<=n)(z:n<1000)(hb:h.get r=some (true,.cells cs 291 (0,0)))(o:cs.size=24) :
  FW X0 Tryz.prog 200 #[.slice (some ⟨r,1,none⟩) 3 23,.int .u64 (n:Int)] h fun v h'=>v=.tuple #[]/\Wr 291 24 r h h' [(1,bV (UInt8.ofNat (48+n / 100))),(2,bV (hiD (n%100))),(3,bV (loD (n%100)))]:=by
 refine w3784 _ _ _ _ Qn ?_;unfold n3784;have u:Wr 291 24 r h h []:=⟨⟨fun _ _=>rfl,rfl,rfl,rfl⟩,cs,hb,o,by simp⟩
 refine Q1 (fun p b h'=>b=[.int .u64 (n:Int),.int .i64 ((3:Nat):Int)]/\h=h') (n:=0) ⟨rfl,rfl⟩ ?_;rintro Y p b _ A ⟨rfl,rfl⟩;refine gZ ?_;refine t_if (fun e=>absurd e (by decide)) (fun _=>?_);refine gH ?_;refine gZ ?_;have a:n%100<100:=by omega
 have q:Jv[2*(n%100)]?=some (hiD (n%100)):=(Wu _ a).1;have s:Jv[2*(n%100)+1]?=some (loD (n%100)):=(Wu _ a).2;have t:IntKind.wrap .u32 (n:Int)=(n:Int):=Zc (by omega);have w2:Int.tmod (n:Int) 100*2=((2*(n%100):Nat):Int):=by rw[Int.tmod_eq_emod_of_nonneg (by omega)];omega
 have w3:Int.tdiv (n:Int) 100=((n / 100:Nat):Int):=by rw[Int.tdiv_eq_ediv_of_nonneg (by omega)];omega
 have i1:IntKind.wrap .u32 (Int.tmod (n:Int) 100*2)=((2*(n%100):Nat):Int):=by rw[w2,Zc (by omega)]
 have i2:IntKind.wrap .u32 (IntKind.wrap .u32 (Int.tmod (n:Int) 100*2)+1)=((2*(n%100)+1:Nat):Int):=by
  rw[i1];exact Zc (n:=2*(n%100)+1) (by omega)
 have i3:IntKind.wrap .u8 (IntKind.wrap .u32 (48+IntKind.wrap .u32 (Int.tdiv (n:Int) 100)))=((UInt8.ofNat (48+n / 100)).toNat:Int):=by
  have j:=Zc (n:=48+n / 100) (by omega);have m:=Uh (n:=48+n / 100) (by omega);rw[w3,Zc (n:=n / 100) (by omega),show (48+((n / 100:Nat):Int))=((48+n / 100:Nat):Int) by omega,j,m,UInt8.toNat_ofNat'];omega
 have w:0<=wrap .i64 (((3:Nat):Int)-1)/\wrap .i64 (((3:Nat):Int)-1)<((3:Nat):Int):=by decide
 have x:0<=wrap .i64 (((3:Nat):Int)-2)/\wrap .i64 (((3:Nat):Int)-2)<((3:Nat):Int):=by decide
 have f:Addr.add (Addr.add ⟨r,1,none⟩ (Int.toNat (wrap .i64 (((3:Nat):Int)-1))*1)) 0=⟨r,3,none⟩:=by rw[Ql,Ql];rfl
 have g:Addr.add (Addr.add ⟨r,1,none⟩ (Int.toNat (wrap .i64 (((3:Nat):Int)-2))*1)) 0=⟨r,2,none⟩:=by rw[Ql,Ql];rfl
 have i:Addr.add (Addr.add ⟨r,1,none⟩ 0) 0=⟨r,1,none⟩:=by rw[Ql,Ql]
 refine Jd (fun b h'=>b=[.int .i64 ((3:Nat):Int),.int .u32 (n:Int)]/\h=h') ?_ ?_
 ·refine t_if (fun e=>absurd e (by decide)) (fun _=>?_);exact Qi ⟨by rw[t],rfl⟩
 rintro b _ ⟨rfl,rfl⟩;refine gZ ?_;refine t_if (fun _=>?_) (fun e=>absurd (by decide) e)
 repeat (refine gT (by decide) ?_)
 rw[i3]
 repeat' (first|with_reducible apply Zt|refine Kg (l:=Jv) (2*(n%100)) undS i1 q ?_|refine Kg (l:=Jv) (2*(n%100)+1) undS i2 s ?_|(refine Dz (k:=3) (by assumption) f (by decide) (by decide) rfl ?_;intro c d)|(refine Dz (k:=2) (by assumption) g (by decide) (by simp) rfl ?_;intro c d)|(refine Dz (k:=1) (by assumption) i (by decide) (by simp) rfl ?_;intro c d)|refine t_if (fun _=>?_) (fun e=>absurd (by decide) e)|exact Qg ⟨rfl,by assumption⟩|refine gZ ?_)
theorem c3784(f:100<=n)(g:n<10000)(hb:h.get r=some (true,.cells cs 291 (0,0)))(k:cs.size=24) :
  FW X0 Tryz.prog 200 #[.slice (some ⟨r,1,none⟩) (decDigits n).length 23,.int .u64 (n:Int)] h fun v h'=>v=.tuple #[]/\But r h h'/\∀ (j:Nat) w,((decDigits n).map u8V)[j]?=some w->h'.get.cell? (Addr.add ⟨r,1,none⟩ j)=some w:=by
 by_cases i:n<1000
 ·rw[show (decDigits n).length=3 by rw[Yf f i];rfl,Yf f i];refine FW.mono (k3784' f i hb k) ?_;rintro v h' ⟨rfl,b,d,e,l,c⟩;refine⟨rfl,b,fun j w a=>?_⟩;rw[Ql];refine Jx e ?_
  match j,a with
  | 0,a=>cases a;exact c (1,_) (by simp)
  | 1,a=>cases a;exact c (2,_) (by simp)
  | 2,a=>cases a;exact c (3,_) (by simp)
  | j+3,a=>simp at a
 ·rw[show (decDigits n).length=4 by rw[Ye (by omega) g];rfl,Ye (by omega) g];refine FW.mono (k3784 (by omega) g hb k) ?_;rintro v h' ⟨rfl,b,d,e,l,c⟩;refine⟨rfl,b,fun j w a=>?_⟩;rw[Ql];refine Jx e ?_
  match j,a with
  | 0,a=>cases a;exact c (1,_) (by simp)
  | 1,a=>cases a;exact c (2,_) (by simp)
  | 2,a=>cases a;exact c (3,_) (by simp)
  | 3,a=>cases a;exact c (4,_) (by simp)
  | j+4,a=>simp at a
theorem c3775(o:PowT 5 h.get)(n:Nat)(f:n<10000):Gr Tryz.prog 173 #[.int .i64 (n:Int),.int .i64 10] h fun r _=>r=.string (str (decDigits n)):=by
 refine w3775 Qn ?_;refine yT ?_;refine Jd (fun b h'=>b=[.string (str [])]/\h=h'/\100<=n) ?_ ?_
 ·refine t_if (fun _=>?_) (fun e=>by omega);refine t_if (fun e=>?_) (fun e=>?_)
  ·refine t_pu (c3782 n (by omega)) ?_;refine Qq ?_;refine gI ?_;refine Zd ?_;refine gZ ?_;exact Qg ⟨LH.le_refl _,rfl⟩
  ·exact Qi ⟨rfl,rfl,by omega⟩
 rintro b _ ⟨rfl,rfl,c⟩;refine Zd ?_;refine gZ ?_;refine H8 fun r d a g hr=>?_;rw[wrapU64n (by omega)];refine Jd (fun b h'=>b=[.int .u64 (n:Int)]/\d=h') ?_ ?_
 ·refine t_if (fun e=>by omega) (fun _=>?_);exact Qi ⟨rfl,rfl⟩
 rintro b _ ⟨rfl,rfl⟩;refine gZ ?_;refine t_pu (c3783 (o.le a.1) n c f) ?_;refine gZ ?_;have hlen:(decDigits n).length=3\/(decDigits n).length=4:=by
  by_cases m:n<1000
  ·rw[Yf c m];exact .inl rfl
  ·rw[Ye (by omega) f];exact .inr rfl
 have hw:wrap .i64 (1+((decDigits n).length:Int))=((1+(decDigits n).length:Nat):Int):=by
  rw[Qh (by omega) (by omega)];omega
 rw[hw];have j:1+(decDigits n).length-1=(decDigits n).length:=by omega
 have k:Addr.add ⟨r,0,none⟩ (1*1)=⟨r,1,none⟩:=by rw[Ql]
 refine t_sliceArrM (i:=1) und24 infU (by omega) (by omega) (by omega) ?_;rw[j,k];refine gZ ?_;refine Ji (c3784 c f hr rfl) ?_;rintro _ p ⟨rfl,l,hc⟩;refine gZ ?_;refine t_if (fun e=>by omega) (fun _=>?_);refine t_sliceArrM (i:=1) und24 infU (by omega) (by omega) (by omega) ?_;rw[j,k];refine gZ ?_;refine t_ofBytes undBy undS undU rfl hc ?_;refine Qq ?_;exact Qg ⟨Ov.le_of a (l.ov g),rfl⟩
theorem c3767(c:PowT 5 h.get)(n:Nat)(b:n<10000):Gr Tryz.prog 148 #[.int .i64 (n:Int)] h fun r _=>r=.string (str (decDigits n)):=by
 refine w3767 Qn ?_;refine t_gr (c3775 c n b) ?_;rintro _ d a rfl;refine Qq ?_;exact Qg ⟨a,rfl⟩
theorem c3741(c:PowT 5 h.get)(n:Nat)(b:n<10000):Gr Tryz.prog 86 #[.int .i64 (n:Int)] h fun r _=>r=.string (str (decDigits n)):=by
 refine w3741 Qn ?_;refine t_gr (c3767 c n b) ?_;rintro _ d a rfl;refine Qq ?_;exact Qg ⟨a,rfl⟩
end Go.Y.Txt
end
section
namespace Go.TM.Tp
def Sm(n:Int):Prop:=0<=n/\n<10000
theorem Sm.fits{n:Int}(h:Sm n):Fits n:=⟨h.1,by have:=h.2;omega⟩
end Go.TM.Tp
namespace Go.Y.Txt
open Go.TM.Tp
open Go.Lib (decDigits)
attribute [local irreducible] T.wp CV FWK
variable {h:LH}{n:Nat}{p:Option Addr}
theorem c3717(c:PowT 5 h.get){n:Int}(b:Sm n):Gr Tryz.prog 37 #[.int .i64 n] h fun r _=>r=.string (str (di n)):=by
 obtain⟨v,rfl⟩ : ∃ v:Nat,n=v:=⟨n.toNat,by have:=b.1;omega⟩
 have e:=b.2;refine w3717 Qn ?_;refine t_gr (c3741 c v (by omega)) ?_;rintro _ d a rfl;refine Qq ?_;exact Qg ⟨a,rfl⟩
theorem c3718(k:PowT 5 h.get){x:Span}(i:Sm x.first)(j:Sm x.last):Gr Tryz.prog 38 #[.agg #[.int .i64 x.first,.int .i64 x.last]] h fun r _=>r=.string (str (da x)):=by
 have q:=Zn i.fits;have s:=Zn j.fits;obtain⟨a,b⟩:=x;simp only at i j q s;refine w3718 Qn ?_;refine Qp (fun e=>?_) (fun e=>?_)
 ·have:a=b:=by simpa using e
  subst this;refine t_gr (c3717 k i) ?_;rintro _ n c rfl;refine Qq ?_;refine Qg ⟨c,?_⟩;rw[Ur,if_pos rfl];rfl
 ·have m:¬ a.toNat=b.toNat:=fun t=>by
   have:=i.1;have:=j.1;have:a=b:=by omega
   subst this;simp at e
  have p:da ⟨a,b⟩=di a++45::di b:=by rw[Ur];simp only[];rw[if_neg m];rfl
  rw[p];have d:∀ {x y:Operand} {Q:Leaf->LH->Prop} {h:LH} {K:Value->T},(K (.string (str (di a++[45])))).wp X0 Tryz.prog Q h->(T.sem false (Sem.bind (eqGuard .add 9 x y (.string (str (di a))) (.string (str [45]))) fun _=>binOp .add 9 (.string (str (di a))) (.string (str [45]))) K).wp X0 Tryz.prog Q h:=fun l=>D3 undS (by simp;omega) l;have f:∀ {x y:Operand} {Q:Leaf->LH->Prop} {h:LH} {K:Value->T},(K (.string (str (di a++45::di b)))).wp X0 Tryz.prog Q h->(T.sem false (Sem.bind (eqGuard .add 9 x y (.string (str (di a++[45]))) (.string (str (di b)))) fun _=>binOp .add 9 (.string (str (di a++[45]))) (.string (str (di b)))) K).wp X0 Tryz.prog Q h:=fun l=>D3 undS (by simp;omega) (by simpa using l);refine t_gr (c3717 k i) ?_;rintro _ n c rfl;refine Qq ?_;refine gZ ?_;refine Zt ?_ ?_
  ·refine d (Qq ?_);refine gZ ?_;refine t_gr (c3717 (k.le c.1) j) ?_;rintro _ o g rfl;refine Qq ?_;refine gZ ?_;refine f (Qq ?_);refine gZ ?_;exact Qg ⟨LH.le_trans c g,rfl⟩
  ·refine t_gr (c3717 (k.le c.1) j) ?_;rintro _ o g rfl;refine Qq ?_;refine gZ ?_;refine d (Qq ?_);refine gZ ?_;refine f (Qq ?_);refine gZ ?_;exact Qg ⟨LH.le_trans c g,rfl⟩
theorem li_is(l:List Int):joinS 44 (l.map di)=li l:=by
 unfold li listS;rw[List.map_map];rfl
theorem c3719(H:PowT 5 h.get){c:Nat}{l:List Int}(s:Sl IntE 1 h.get p n l)(K:l.length<=2^19)(z:∀ v∈l,Sm v):Gr Tryz.prog 39 #[.slice p n c] h fun r _=>r=.string (str (li l)):=by
 refine w3719 Qn ?_;have L:=s.1;refine J9 (fun A j h'=>h.le h'/\∃ (q:Option Addr) (m k i:Nat),j=[.slice q m k,.int .i64 i]/\i<=n/\A=n-i/\Growing BsEnc 9 1 h.get h'.get q m k ((l.take i).map di)) (fun j h'=>h.le h'/\∃ (q:Option Addr) (m k:Nat) (i:Int),j=[.slice q m k,.int .i64 i]/\Growing BsEnc 9 1 h.get h'.get q m k (l.map di))
  ⟨LH.le_refl _,none,0,0,0,rfl,Nat.zero_le _,rfl,Growing.nil⟩ ?_ ?_
 ·rintro Y A j D F ⟨b,q,m,k,i,rfl,J,rfl,g⟩;refine yJ (fun C=>?_) (fun C=>?_)
  ·have w:=List.getElem?_eq_getElem (show i<l.length by omega);have f:=List.getElem_mem (show i<l.length by omega);generalize l[i]=x at w f;obtain⟨a,G,o⟩:=(s.le IntE.grow b.1).2.2 i x w;unfold IntE at o;rw[Ug]at o;have u:0<=(i:Int)/\(i:Int)<(n:Int):=by omega
   have t:=z x f;refine gT u (gS2 G (gL0 (by rw[Int.toNat_natCast];exact o) ?_));refine t_gr (c3717 (H.le b.1) t) ?_;rintro _ E d rfl;refine Qq ?_;refine t_pushS (di x) (by rw[List.length_map,List.length_take];omega) (g.le d.1) (LH.le_trans b d) fun I B h' y _ g'=>?_;refine Qi (F (n-(i+1)) _ _ (by omega) ⟨y,I,m+1,B,i+1,?_,by omega,rfl,?_⟩)
   ·rw[Qh (by omega) (by omega)];rfl
   ·rw[Zq w,List.map_append];exact g'
  ·rw[List.take_of_length_le (by omega)]at g;exact gH ⟨b,q,m,k,_,rfl,g⟩
 ·rintro j D ⟨b,q,m,k,i,rfl,g⟩;refine gZ ?_;have e:∀ v∈l,Fits v:=fun v hv=>(z v hv).fits;have hlen:=D7 e;refine t_gr (c3716 (growS g (by rw[List.length_map];omega)) 44 (by rw[List.length_map];omega) (by rw[li_is];omega)) ?_;rintro _ E d rfl;refine Qq ?_;refine Qg ⟨LH.le_trans b d,?_⟩;rw[li_is]
theorem c3714{h0:LH}{r:Nat}{l w:Bs}{k:Nat}{a:List Bs}(b:BldR h0 h r l)(s:BsS h p n k a)(c:a≠[])(hw:w.length<=2^20)(g:a.length<=2^20)(m:(joinS 59 a).length<=2^28)(hlen:l.length<=2^28) :
  FW X0 Tryz.prog 34 #[.string (str w),.slice p n k,.pointer (some ⟨r,0,none⟩)] h fun v h'=>v=.tuple #[]/\BldR h0 h' r (l++lineS w a):=by
 refine w3714 Qn ?_;refine D3 (b:=[58]) undS (by simp;omega) (Qq ?_);refine gZ ?_;refine t_gr (c3716 s 59 g (by omega)) ?_;rintro _ i d rfl;refine Qq ?_;refine D3 undS (by simp;omega) (Qq ?_);refine D3 (b:=[59,10]) undS (by simp;omega) (Qq ?_);have e:w++[58]++joinS 59 a++[59,10]=lineS w a:=by rw[lineS_join c];simp
 rw[e];have hle:(lineS w a).length<=2^29:=by rw[<- e];simp;omega
 refine Ji (c3715 (b.grow d) (by omega)) ?_;rintro _ j ⟨rfl,f⟩;refine gZ ?_;exact Qg ⟨rfl,f⟩
end Go.Y.Txt
end
section
namespace Go.TM.Tp
theorem Sound.sm{u:UseFile}(s:Sound u):(Sm u.items/\Sm u.lands/\Sm u.from_/\Sm u.idle)/\(∀ x∈u.excuses,Sm x.first/\Sm x.last)/\(∀ p∈u.papers,Sm p.days.first/\Sm p.days.last/\Sm p.land/\∀ n∈p.items,Sm n)/\∀ r∈u.requests,Sm r.day/\Sm r.land/\∀ n∈r.items,Sm n:=by
 have n:=s.num;unfold Sm;refine⟨by omega,fun x f=>by have:=s.ex x f;omega,fun p e=>?_,fun r hr=>?_⟩
 ·obtain⟨a,b,_,c⟩:=s.pa p e;exact⟨by omega,by omega,by omega,fun n d=>by have:=c n d;omega⟩
 ·obtain⟨a,b,_,c⟩:=s.re r hr;exact⟨by omega,by omega,fun n d=>by have:=c n d;omega⟩
theorem Gb{c:UInt8}{a:List Bs}(b:∀ f∈a,f.length<=60)(d:a.length<=4):(joinS c a).length<=2^28:=by
 have:=Dk (c:=c) b;have:a.length*(60+1)<=4*61:=Nat.mul_le_mul d (by omega);omega
end Go.TM.Tp
namespace Go.Y.Txt
open Go.TM.Tp
open Go.Lib (decDigits)
attribute [local irreducible] T.wp CV FWK
theorem c3704{h:LH}{f:FileC}{u:UseFile}(hp:Parts h.get)(n:PowT 5 h.get)(hu:FileR h.get f u):Gr Tryz.prog 9 #[fileV f u] h fun r _=>r=printV (printU u):=by
 refine w3704 Qn ?_;refine t_gr (c26 hp hu) ?_;rintro _ hA D rfl;refine yI (fun e=>?_) (fun e=>?_)
 ·have hz:checkF u≠0:=by simpa using e
  rw[print_bad hz];exact Qg ⟨D,rfl⟩
 have j:checkF u=0:=by simpa using e
 rw[print_ok j];have G:=sound j;obtain⟨⟨f1,f2,f3,f4⟩,fx,fp,fr⟩:=G.sm;refine H8 fun r h0 V M hr=>?_;have R:h.get r=none:=by
  cases k:h.get r with
  | none=>rfl
  | some x=>rw[D.1 _ _ k]at M;cases M
 have B0:BldR h h0 r []:=⟨⟨none,none,0,hr,.inl rfl,OwnRow.nil,NewIn.none,fun a N=>by cases N⟩,R,LH.le_trans D V⟩
 refine t_gr (c3717 (n.le B0.le.1) f1) ?_;rintro _ h1 W rfl;refine Qq ?_;have B1:=B0.grow W;refine gZ ?_;refine t_gr (c3717 (n.le B1.le.1) f2) ?_;rintro _ h2 X rfl;refine Qq ?_;have B2:=B1.grow X;refine gZ ?_;refine t_gr (c3717 (n.le B2.le.1) f3) ?_;rintro _ h3 Z rfl;refine Qq ?_;have B3:=B2.grow Z;refine gZ ?_;refine t_gr (c3717 (n.le B3.le.1) f4) ?_;rintro _ h4 a0 rfl;refine Qq ?_;have B4:=B3.grow a0;refine gZ ?_;refine t_str4 _ _ _ _ fun p h5 b0 s5=>?_;have B5:=B4.grow b0;refine gZ ?_;have d1:=Zn f1.fits;have d2:=Zn f2.fits;have d3:=Zn f3.fits;have d4:=Zn f4.fits;refine Q7 (Za Qn (by rfl) (c3714 (w:=wUse) B5 s5 (by simp) (by decide) (by simp) (Gb (all4 (by omega) (by omega) (by omega) (by omega)) (by simp)) (by simp))) ?_;rintro _ F ⟨rfl,b⟩;refine gZ ?_;have e0:[]++lineS wUse [di u.items,di u.lands,di u.from_,di u.idle]=textX u 0:=by simp[textX,text,rU,Hu]
 rw[e0]at b;refine J9 (fun t d h'=>∃ i:Nat,d=[.int .i64 i]/\i<=f.n4/\t=f.n4-i/\BldR h h' r (textX u i)) (fun d h'=>(∃ i:Int,d=[.int .i64 i])/\BldR h h' r (textP u 0)) ⟨0,rfl,Nat.zero_le _,rfl,b⟩ ?_ ?_
 ·rintro Y t d F K ⟨i,rfl,hi,rfl,b⟩;have hn:=hu.excuses.1;have hb:=G.nx;refine yJ (fun o=>?_) (fun o=>?_)
  ·obtain⟨x,a,k,N,x1,x2⟩:=(hu.excuses.le SpanE.grow b.le.1).at (i:=i) (by omega);have L:0<=(i:Int)/\(i:Int)<(f.n4:Int):=by omega
   obtain⟨s,I⟩:=fx x (List.mem_of_getElem? k);have ld:=Us s.fits I.fits;refine gZ ?_;refine t_gr (c3718 (n.le b.le.1) s I) ?_;rintro _ Q c rfl;refine Qq ?_;have A:=b.grow c;refine t_str1 _ fun p h8 g s8=>?_;have B:=A.grow g;refine gZ ?_;have hl:=textX_len j i;refine Q7 (Za Qn (by rfl) (c3714 (w:=wExcuse) B s8 (by simp) (by decide) (by simp) (Gb (all1 (by omega)) (by simp)) (by omega))) ?_;rintro _ h9 ⟨rfl,H⟩;refine gZ ?_;refine Qi (K (f.n4-(i+1)) _ _ (by omega) ⟨i+1,?_,by omega,rfl,?_⟩)
   ·rw[Qh (by omega) (by omega)];rfl
   ·rw[textX_snoc k];exact H
  ·rw[textX_end (by omega)]at b;exact gH ⟨⟨_,rfl⟩,b⟩
 rintro d F ⟨⟨i0,rfl⟩,b⟩;refine gZ ?_;refine J9 (fun t d h'=>∃ i:Nat,d=[.int .i64 i]/\i<=f.n5/\t=f.n5-i/\BldR h h' r (textP u i)) (fun d h'=>(∃ i:Int,d=[.int .i64 i])/\BldR h h' r (textR u 0)) ⟨0,rfl,Nat.zero_le _,rfl,b⟩ ?_ ?_
 ·rintro Y t d F K ⟨i,rfl,hi,rfl,b⟩;have hn:=hu.papers.1;have hb:=G.np;refine yJ (fun o=>?_) (fun o=>?_)
  ·obtain⟨x,a,k,N,x1,x2,x3,q,m,cq,x4,x5⟩:=(hu.papers.le PaperE.grow b.le.1).at (i:=i) (by omega);have L:0<=(i:Int)/\(i:Int)<(f.n5:Int):=by omega
   obtain⟨s,I,J,g4⟩:=fp x (List.mem_of_getElem? k);have q6:=(G.pa x (List.mem_of_getElem? k)).2.2.1;have ld:=Us s.fits I.fits;have S:=Zn J.fits;have U:=D7 fun v hv=>(g4 v hv).fits;refine gZ ?_;refine t_gr (c3718 (n.le b.le.1) s I) ?_;rintro _ Q c rfl;refine Qq ?_;have A:=b.grow c;refine gZ ?_;refine t_gr (c3717 (n.le A.le.1) J) ?_;rintro _ h8 g rfl;refine Qq ?_;have B:=A.grow g;refine gZ ?_;refine t_gr (c3719 (n.le B.le.1) (x5.le IntE.grow (LH.le_trans c g).1) (by omega) g4) ?_;rintro _ h9 C rfl;refine Qq ?_;have H:=B.grow C;refine gZ ?_;refine t_str3 _ _ _ fun p O l E=>?_;have y:=H.grow l;refine gZ ?_;have hl:=textP_len j i;refine Q7 (Za Qn (by rfl) (c3714 (w:=wPaper) y E (by simp) (by decide) (by simp) (Gb (all3 (by omega) (by omega) (by omega)) (by simp)) (by omega))) ?_;rintro _ P ⟨rfl,z⟩;refine gZ ?_;refine Qi (K (f.n5-(i+1)) _ _ (by omega) ⟨i+1,?_,by omega,rfl,?_⟩)
   ·rw[Qh (by omega) (by omega)];rfl
   ·rw[textP_snoc k];exact z
  ·rw[textP_end (by omega)]at b;exact gH ⟨⟨_,rfl⟩,b⟩
 rintro d F ⟨⟨i0,rfl⟩,b⟩;refine gZ ?_;refine J9 (fun t d h'=>∃ i:Nat,d=[.int .i64 i]/\i<=f.n6/\t=f.n6-i/\BldR h h' r (textR u i)) (fun d h'=>(∃ i:Int,d=[.int .i64 i])/\BldR h h' r (textU u)) ⟨0,rfl,Nat.zero_le _,rfl,b⟩ ?_ ?_
 ·rintro Y t d F K ⟨i,rfl,hi,rfl,b⟩;have hn:=hu.requests.1;have hb:=G.nr;refine yJ (fun o=>?_) (fun o=>?_)
  ·obtain⟨x,a,k,N,x1,x2,q,m,cq,x4,x5⟩:=(hu.requests.le RequestE.grow b.le.1).at (i:=i) (by omega);have L:0<=(i:Int)/\(i:Int)<(f.n6:Int):=by omega
   obtain⟨s,J,g4⟩:=fr x (List.mem_of_getElem? k);have q6:=(G.re x (List.mem_of_getElem? k)).2.2.1;have ld:=Zn s.fits;have S:=Zn J.fits;have U:=D7 fun v hv=>(g4 v hv).fits;refine gZ ?_;refine t_gr (c3717 (n.le b.le.1) s) ?_;rintro _ Q c rfl;refine Qq ?_;have A:=b.grow c;refine gZ ?_;refine t_gr (c3717 (n.le A.le.1) J) ?_;rintro _ h8 g rfl;refine Qq ?_;have B:=A.grow g;refine gZ ?_;refine t_gr (c3719 (n.le B.le.1) (x5.le IntE.grow (LH.le_trans c g).1) (by omega) g4) ?_;rintro _ h9 C rfl;refine Qq ?_;have H:=B.grow C;refine gZ ?_;refine t_str3 _ _ _ fun p O l E=>?_;have y:=H.grow l;refine gZ ?_;have hl:=textR_len j i;refine Q7 (Za Qn (by rfl) (c3714 (w:=wRequest) y E (by simp) (by decide) (by simp) (Gb (all3 (by omega) (by omega) (by omega)) (by simp)) (by omega))) ?_;rintro _ P ⟨rfl,z⟩;refine gZ ?_;refine Qi (K (f.n6-(i+1)) _ _ (by omega) ⟨i+1,?_,by omega,rfl,?_⟩)
   ·rw[Qh (by omega) (by omega)];rfl
   ·rw[textR_snoc k];exact z
  ·rw[textR_end (by omega)]at b;exact gH ⟨⟨_,rfl⟩,b⟩
 rintro d F ⟨⟨i0,rfl⟩,b⟩;refine gZ ?_;have ht:=Ui j;obtain⟨p0,q0,cc,o,_⟩:=b.cells;refine t_pu (c3720 o) ?_;refine gZ ?_;refine t_if (fun o=>absurd o (by omega)) (fun _=>?_);refine Ji (c3721 b (by omega)) ?_;rintro _ Q ⟨rfl,c⟩;refine Qq ?_;exact Qg ⟨c,rfl⟩
end Go.Y.Txt
end
section
namespace Go.Y
set_option maxHeartbeats 0
set_option linter.unusedVariables false
variable {X:XP} {h:LH} {A:Value->LH->Prop}
variable {a b c d e f g i j k l m:Int}{n o p q r s t u v w x y z:Nat}{B C D E F G H I J K L M:Option Addr}
theorem w3701:FX X 4 #[.agg #[a,b,c,d,.slice B n o,.slice C p q,.slice D r s]] h A (.cB 7 #[.agg #[a,b,c,d,.slice B n o,.slice C p q,.slice D r s]] fun g=>bif g then .cB 8 #[] fun g=>.rt (.bool g) else .cT 9 #[.agg #[a,b,c,d,.slice B n o,.slice C p q,.slice D r s]] fun f e=>.unStr f fun j=>.unCons e fun f e=>.ui f fun i=>.unNil e (bif i != 0 then .sem false (Sem.bind (eqGuard BinOp.eql 9 (Operand.tmp 17) (Operand.const (.string { data:=#[] })) (.string j) (.string { data:=#[] })) fun p0=>binOp BinOp.eql 9 (.string j) (.string { data:=#[] })) fun f=>.unB f fun g=>bif g then .cB 8 #[] fun g=>.rt (.bool g) else .rt (.bool false) else .sem false (Builtin.len_ #[9] 3 #[.string j]) fun f=>.ui f fun i=>bif i==0 then .rt (.bool false) else .cT 11 #[.string j] fun f e=>.unAgg f fun m=>.pi m fun i Y=>.pi Y fun F e0=>.pi e0 fun N f0=>.pi f0 fun O g0=>.popS g0 fun k Q l i0=>.popS i0 fun t R x j0=>.popS j0 fun u S y k0=>.unNil k0 (.unCons e fun f e=>.ui f fun U=>.unCons e fun f e=>.ui f fun V=>.unNil e (.blk (bif V != 0 then .rn [false] else bif U != 0 then .rn [false] else .cB 13 #[.agg #[i,F,N,O,.slice k Q l,.slice t R x,.slice u S y],.agg #[a,b,c,d,.slice B n o,.slice C p q,.slice D r s]] fun g=>bif !g then .rn [false] else .ag [false]) (fun e=>.popB e fun g e=>.unNil e (.sem false (Builtin.len_ #[9] 3 #[.string j]) fun f=>.ui f fun i=>.sem false (Instr.sliceAt 9 (.string j) none (some (.int .i64 (wrap .i64 (i-1)))) none) fun o0=>.unStr o0 fun j=>.cT 11 #[.string j] fun f e=>.unAgg f fun m=>.pi m fun i l0=>.pi l0 fun W m0=>.pi m0 fun G Z=>.pi Z fun H a0=>.popS a0 fun k I l b0=>.popS b0 fun v J z c0=>.popS c0 fun w K E d0=>.unNil d0 (.unCons e fun f e=>.ui f fun L=>.unCons e fun f e=>.ui f fun M=>.unNil e (bif M==0 then bif L==0 then .cB 13 #[.agg #[i,W,G,H,.slice k I l,.slice v J z,.slice w K E],.agg #[a,b,c,d,.slice B n o,.slice C p q,.slice D r s]] fun g=>bif g then .cB 8 #[] fun g=>.rt (.bool g) else .rt (.bool false) else .rt (.bool false) else .rt (.bool false))))) (fun e=>.popB e fun g e=>.unNil e (.rt (.bool g))) fun q0 r0=>.fail)))):=fk [1,5] [] [⟨11,[(2,.bool)],[1,5],[],[],[]⟩] Tryz.f4
end Go.Y
end
section
namespace Go.TM.Tp
theorem textU_ne(u:UseFile):textU u≠[]:=by
 unfold textU;have h:=Da u;cases e:rowsU u with
 | nil=>exact absurd e h
 | cons b bs=>exact text_ne
end Go.TM.Tp
namespace Go.Y.Txt
open Go.TM.Tp
attribute [local irreducible] T.wp CV FWK
theorem c3701{h:LH}{a:Addr}(l:h.chans=[])(m:h.pend=[])(n:Parts h.get)(B:PowT 5 h.get)(v:ErrL a h.get){f:FileC}{u:UseFile}(hu:FileR h.get f u):FW XT Tryz.prog 4 #[fileV f u] h (Fin h):=by
 refine w3701 Yo ?_;refine Ji (Hn (c15 hu)) ?_;rintro _ _ ⟨rfl,b,rfl,hb⟩;refine yI (fun _=>?_) (fun z=>?_)
 ·exact Uj l m n (LH.le_refl _) fun h' o=>Qg ⟨rfl,o⟩
 refine t_gr (c3704 n B hu) ?_;rintro _ D i rfl;rcases Decidable.em (checkF u≠0) with c|c
 ·rw[print_bad c,show printV ([],checkF u)=.tuple #[.string (str []),.int .i64 (checkF u)] from rfl];refine gZ ?_;refine Qq ?_;refine gZ ?_;refine Qp (fun _=>?_) (fun e=>absurd c (by simpa using e));refine Gj (a:=[]) (b:=[]) undS ?_;refine gZ ?_;refine Qp (fun _=>?_) (fun e=>by simp at e);exact Uj l m n i fun h' o=>Qg ⟨rfl,o⟩
 have c:=Decidable.not_not.1 c;rw[print_ok c,show printV (textU u,0)=.tuple #[.string (str (textU u)),.int .i64 0] from rfl];have F:=Ui c;have p:=textU_ne u;have w:=List.length_pos_iff.2 p;have j:=fits_all c;refine gZ ?_;refine Qq ?_;refine yF ?_;refine Ja undS ?_;refine gZ ?_;refine Qp (fun e=>absurd e (by simp;exact p)) (fun _=>?_);refine t_gr (c3706 (n.le i.1) (v.le i.1) (textU u)) ?_;intro r y s hr;rw[parse_text j c (by omega)]at hr;obtain⟨g,rfl,A⟩:=hr;have d:=LH.le_trans i s;unfold fileV;refine gZ ?_;refine Jd (fun x h'=>x=[.bool false]/\y=h') ?_ ?_
 ·refine yF ?_;refine yF ?_;refine t_pu (c3708 A (hu.le d.1)) ?_;refine yF ?_;exact Qi ⟨rfl,rfl⟩
 rintro x _ ⟨rfl,rfl⟩;refine gZ ?_;refine Ja undS ?_;refine gZ ?_;have hw:wrap .i64 (((textU u).length:Int)-1)=(((textU u).length-1:Nat):Int):=by rw[Qh (by omega) (by omega)];omega
 rw[hw];refine Wg undS (by omega) ?_;rw[<- List.dropLast_eq_take];refine Qq ?_;refine t_gr (c3706 (n.le d.1) (v.le d.1) (textU u).dropLast) ?_;intro r E t hr;rw[parse_text' j c (by omega)]at hr;obtain⟨C,rfl,q⟩:=hr;have k:=LH.le_trans d t;unfold fileV;refine yT ?_;refine yT ?_;refine t_pu (c3708 q (hu.le k.1)) ?_;refine yT ?_;exact Uj l m n k fun h' o=>Qg ⟨rfl,o⟩
end Go.Y.Txt
end
section
namespace Go.Proofs.YtpkjbclajflhbaaGreatDoor
open Go.Y Go.Y.Tre
open Go.Y.Tre Go.ChangeShapes Go.WideShapes Go.RowKit
def doorW(os:Os):World :=
 { World.doorLaid Tryz.prog 200 os with heap:=(World.doorLaid Tryz.prog 200 os).heap.modify 8 fun o=>match o with
  | .cells _ t fz=>.cells (Go.Pinned.utf8FirstZ.map fun z:Nat=>Value.int .u8 (z:Int)).toArray t fz
  | o=>o }
theorem door_met(os:Os)(args:Array Value):laidMetH Tryz.prog Rows.useBackRow.laid ((doorW os).forCall (fun _ _=>0) ⟨#[],args,[]⟩).memory :=
 laidMetH_of_parts3 (fuel:=8) (laidMet_of_run' 8 (by kernel_rfl) (by kernel_rfl)) (by kernel_rfl) (by kernel_rfl)
theorem door_shaped(os:Os)(args:Array Value):((doorW os).forCall (fun _ _=>0) ⟨#[],args,[]⟩).Shaped Tryz.prog :=
 World.shaped_of_RefB (by kernel_rfl) (by kernel_rfl)
theorem useBack_lifted(os:Os)(started:os.Started)(H:Type)(enc:TypeId×Value->H) :
  ReturnsInLeavingWide {} Tryz.checked os 4 .any (fun w args=>(Rows.useBackSpec.pre enc Tryz.prog Tryz.f4 [] false w args/\laidMetH Tryz.prog Rows.useBackRow.laid w)/\sizedMet enc Tryz.prog Tryz.f4 (OpenSpec.ofChange Rows.useBackSpec) false w args)
   (Rows.useBackSpec.post enc Tryz.prog Tryz.f4 false true false false):=by
 refine row_leaving (C:=Tryz.checked) (tb:=4) own started Tryz.func4 (by kernel_rfl) rfl lo ?_ (by kernel_rfl) Tryz.underlying4 ?_
  (ChangeSpec.witness_shaped (enc:=enc) (C:=Tryz.checked) (os:=os) (X:=fun w _=>laidMetH Tryz.prog Rows.useBackRow.laid w) false (doorW os) #[noUse] 8 rfl (door_shaped os _) (by kernel_rfl) (by kernel_rfl) (by kernel_rfl) (door_met os _)) ?_
 ·exact fun t n=>of_decide_eq_true (List.all_eq_true.1 (show (Tryz.f4.params.toList.all fun t=>decide (Tryz.prog.readableRec t=true/\t<Tryz.prog.types.size))=true by kernel_rfl) t n)
 ·intro ds m
  match ds,(show ds.length=1 from m) with
  | [d0],_=>rfl
 ·intro W base args ds ps b c g e;have a:∀ (j:Nat) t v,Tryz.f4.params[j]?=some t->args[j]?=some v->Value.okWide Tryz.prog W .any base t v:=b;have l:∀ (j:Nat) t d,Tryz.f4.params.toList[j]?=some t->ds[j]?=some d->Light Tryz.prog t d:=g;have i:DataW.TrodAll enc Tryz.prog W 0 (fun _=>true) true Tryz.f4.params.toList args.toList ds ps:=c;rw[Tryz.params4]at a l i;obtain⟨v0,d0,o,rfl,rfl,rfl,h0⟩:=trodAll1 i;obtain⟨f0,p,rfl,f⟩:=file_arg UT (a 0 26 v0 rfl rfl) (l 0 26 d0 rfl rfl) h0;exact FW.mono (Txt.c3701 (h:=⟨getW W,[],[],[]⟩) rfl rfl (parts_of_laid e (by repeat first|exact List.Mem.head _|apply List.Mem.tail)) (pow_of_laid e (by repeat first|exact List.Mem.head _|apply List.Mem.tail)) (err_of_laid e (by repeat first|exact List.Mem.head _|apply List.Mem.tail)).choose_spec f) fun r h' k=>⟨k.1,k.2.2.1⟩
set_option maxHeartbeats 0 in
theorem useBack_closed:joinedFacts Tryz.prog 4 Tryz.f4 Rows.useBackSpec Rows.useBackRow=true:=by
 unfold joinedFacts;simp only[Bool.and_eq_true]
 and_intros
 all_goals (as_aux_lemma=>kernel_rfl)
theorem useBack_named:Tryz.prog.funcNamed Rows.useBackRow.func=some 4:=by kernel_rfl
theorem useBack_row:Rows.UseBackSaid :=
 OpenClaim.holds_of_wide_leaving 4 Tryz.f4 rfl rfl rfl rfl rfl rfl rfl ⟨rfl,rfl,rfl,rfl,rfl⟩ rfl rfl rfl rfl rfl useBack_named Tryz.func4 useBack_closed
  (of_decide_eq_true (by kernel_rfl)) (by unfold Func.isWrapper;first|(rw[if_pos (by decide +kernel)];kernel_rfl)|(rw[if_neg (by decide +kernel)];exact⟨rfl,rfl⟩))
  (fun os started H enc _=>useBack_lifted os started H enc)
theorem useBack_holds:Rows.UseBackCardSaid :=
 card_goes [.data,.data,.data,.data,.sentinel,.sentinel,.sentinel,.funcs,.pinned] true Rows.useBackCard.stood.harness Rows.useBackCard.stood.looks useBack_row (by kernel_rfl) useBack_row_tie rfl ⟨rfl,rfl⟩ (by kernel_rfl) rfl
  (fun f fn b a=>by
   obtain rfl:f=4:=Option.some.inj (useBack_named.symm.trans b) |>.symm;obtain rfl:fn=Tryz.f4:=(Option.some.inj (Tryz.func4.symm.trans a)).symm;exact⟨by kernel_rfl,fun j t c=>by
    have hm:=Array.mem_of_getElem? c;have:=of_decide_eq_true (List.all_eq_true.1 (show (Tryz.f4.params.toList.all fun t=>decide (Tryz.prog.wantsStandIn t=false))=true by kernel_rfl) t (Array.mem_toList_iff.2 hm));exact this⟩)
  (by kernel_rfl)
end Go.Proofs.YtpkjbclajflhbaaGreatDoor
end
#print axioms Go.Proofs.YtpkjbclajflhbaaGreatDoor.useBack_holds

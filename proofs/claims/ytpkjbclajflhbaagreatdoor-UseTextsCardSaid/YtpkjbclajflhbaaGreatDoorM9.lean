/- use: Print and Parse agree with the specification: UseTexts -/
import Derived.Test.YtpkjbclajflhbaaGreatDoorM8
set_option linter.all false
noncomputable section
open Go Go.Conc Go.TM Go.Proofs
set_option maxRecDepth 100000
open Go.IntKind (wrap)
section
namespace Go.TM.Tp
theorem t_sliceArrM{P:Program}{X:XP}{Q:Leaf->LH->Prop}{h:LH}{K:Value->T}{t el:TypeId}{n i j s b:Nat}{z:Option Value}{a:Addr}(hu:P.underlying t=some (.array n el))(e:(P.info? el).map (fun i=>(i.size,i.bytes,i.zero))=some (s,b,z))(f:i<=j)(k:j<=n)(g:i<n)
 (l:(K (.slice (some (a.add (i*s))) (j-i) (n-i))).wp X P Q h):(T.sem false (Instr.sliceAt t (.pointer (some a)) (some (.int .i64 (i:Int))) (some (.int .i64 (j:Int))) none) K).wp X P Q h:=by
 obtain⟨inf,c,d,_,_⟩:=Zk e;refine Q9 (A:=fun v h'=>h'=h.get/\(K v).wp X P Q h) ?_ (by rintro v h' ⟨rfl,hw⟩;exact hw);unfold Instr.sliceAt;simp only[lwp_bind,Qc hu,Instr.sureAddr];unfold Instr.sliceBounds Instr.sliceBound;simp only[lwp_bind,Qg,asIntOf];rw[if_pos (show 0<=(j:Int)/\(j:Int)<=(n:Int) by omega)];simp only[Qg,lwp_bind,Int.toNat_natCast];rw[if_pos (show 0<=(i:Int)/\(i:Int)<=(j:Int) by omega)];simp only[Qg,lwp_bind,Int.toNat_natCast,Qy c,d];refine⟨trivial,?_⟩;rw[if_neg (by omega)];exact l
end Go.TM.Tp
namespace Go.Y.Txt
open Go.TM.Tp
open Go.Lib (decDigits)
attribute [local irreducible] T.wp CV FWK
variable {h:LH}{r n:Nat}{cs:Array Value}
theorem und24:Tryz.prog.underlying 291=some (.array 24 5):=by kernel_rfl
abbrev bV(b:UInt8):Value:=.int .u8 (b.toNat:Int)
set_option maxHeartbeats 0 in
theorem k3784(E:1000<=n)(F:n<10000)(hb:h.get r=some (true,.cells cs 291 (0,0)))(s:cs.size=24) :
  FW X0 Tryz.prog 200 #[.slice (some ⟨r,1,none⟩) 4 23,.int .u64 (n:Int)] h fun v h'=>v=.tuple #[]/\Wr 291 24 r h h' [(1,bV (hiD (n / 100))),(2,bV (loD (n / 100))),(3,bV (hiD (n%100))),(4,bV (loD (n%100)))]:=by
 refine w3784 _ _ _ _ Qk ?_;unfold n3784;have z:Wr 291 24 r h h []:=⟨⟨fun _ _=>rfl,rfl,rfl,rfl⟩,cs,hb,s,by simp⟩
 refine Qz (fun t a h'=>a=[.int .u64 (n:Int),.int .i64 ((4:Nat):Int)]/\h=h') (n:=0) ⟨rfl,rfl⟩ ?_;rintro Y t a _ G ⟨rfl,rfl⟩;refine gZ ?_;refine t_if (fun e=>absurd e (by decide)) (fun _=>?_);refine gH ?_;refine gZ ?_;have c:n%100<100:=by omega
 have b:n / 100<100:=by omega
 have u:J4[2*(n%100)]?=some (hiD (n%100)):=(Gc _ c).1;have w:J4[2*(n%100)+1]?=some (loD (n%100)):=(Gc _ c).2;have x:J4[2*(n / 100)]?=some (hiD (n / 100)):=(Gc _ b).1;have y:J4[2*(n / 100)+1]?=some (loD (n / 100)):=(Gc _ b).2;have g:IntKind.wrap .u32 (n:Int)=(n:Int):=Zn (by omega);have w1:Int.tmod (n:Int) 10000=(n:Int):=by rw[Int.tmod_eq_emod_of_nonneg (by omega)];omega
 have w2:Int.tmod (n:Int) 100*2=((2*(n%100):Nat):Int):=by rw[Int.tmod_eq_emod_of_nonneg (by omega)];omega
 have w3:Int.tdiv (n:Int) 100=((n / 100:Nat):Int):=by rw[Int.tdiv_eq_ediv_of_nonneg (by omega)];omega
 have w4:Int.tdiv (n:Int) 10000=((0:Nat):Int):=by rw[Int.tdiv_eq_ediv_of_nonneg (by omega)];omega
 have i1:IntKind.wrap .u32 (Int.tmod (Int.tmod (IntKind.wrap .u32 (n:Int)) 10000) 100*2)=((2*(n%100):Nat):Int):=by rw[g,w1,w2,Zn (by omega)]
 have i2:IntKind.wrap .u32 (IntKind.wrap .u32 (Int.tmod (Int.tmod (IntKind.wrap .u32 (n:Int)) 10000) 100*2)+1)=((2*(n%100)+1:Nat):Int):=by
  rw[i1];exact Zn (n:=2*(n%100)+1) (by omega)
 have i3:IntKind.wrap .u32 (IntKind.wrap .u32 (Int.tdiv (Int.tmod (IntKind.wrap .u32 (n:Int)) 10000) 100)*2)=((2*(n / 100):Nat):Int):=by
  rw[g,w1,w3,Zn (by omega)];have:=Zn (n:=2*(n / 100)) (by omega);rw[<- this];congr 1;omega
 have i4:IntKind.wrap .u32 (IntKind.wrap .u32 (IntKind.wrap .u32 (Int.tdiv (Int.tmod (IntKind.wrap .u32 (n:Int)) 10000) 100)*2)+1)=((2*(n / 100)+1:Nat):Int):=by
  rw[i3];exact Zn (n:=2*(n / 100)+1) (by omega)
 have i5:IntKind.wrap .u32 (Int.tdiv (IntKind.wrap .u32 (n:Int)) 10000)=0:=by rw[g,w4];rfl
 have A:0<=wrap .i64 (((4:Nat):Int)-1)/\wrap .i64 (((4:Nat):Int)-1)<((4:Nat):Int):=by decide
 have B:0<=wrap .i64 (((4:Nat):Int)-2)/\wrap .i64 (((4:Nat):Int)-2)<((4:Nat):Int):=by decide
 have C:0<=wrap .i64 (((4:Nat):Int)-3)/\wrap .i64 (((4:Nat):Int)-3)<((4:Nat):Int):=by decide
 have D:0<=wrap .i64 (((4:Nat):Int)-4)/\wrap .i64 (((4:Nat):Int)-4)<((4:Nat):Int):=by decide
 have j:Addr.add (Addr.add ⟨r,1,none⟩ (Int.toNat (wrap .i64 (((4:Nat):Int)-1))*1)) 0=⟨r,4,none⟩:=by rw[Qo,Qo];rfl
 have m:Addr.add (Addr.add ⟨r,1,none⟩ (Int.toNat (wrap .i64 (((4:Nat):Int)-2))*1)) 0=⟨r,3,none⟩:=by rw[Qo,Qo];rfl
 have o:Addr.add (Addr.add ⟨r,1,none⟩ (Int.toNat (wrap .i64 (((4:Nat):Int)-3))*1)) 0=⟨r,2,none⟩:=by rw[Qo,Qo];rfl
 have p:Addr.add (Addr.add ⟨r,1,none⟩ (Int.toNat (wrap .i64 (((4:Nat):Int)-4))*1)) 0=⟨r,1,none⟩:=by rw[Qo,Qo];rfl
 refine Q1 (fun a h'=>a=[.int .i64 0,.int .u32 0]/\Wr 291 24 r h h' [(1,bV (hiD (n / 100))),(2,bV (loD (n / 100))),(3,bV (hiD (n%100))),(4,bV (loD (n%100)))]) ?_ ?_
 ·refine t_if (fun _=>?_) (fun e=>absurd (by decide) e)
  repeat (refine gT (by decide) ?_)
  refine Q1 (fun a h'=>a=[]/\Wr 291 24 r h h' [(3,bV (hiD (n%100))),(4,bV (loD (n%100)))]) ?_ ?_
  ·repeat' (first|with_reducible apply Jw|refine Kq (l:=J4) (2*(n%100)) undS i1 u ?_|refine Kq (l:=J4) (2*(n%100)+1) undS i2 w ?_|(refine Ur (k:=4) (by assumption) j (by decide) (by decide) rfl ?_;intro f i)|(refine Ur (k:=3) (by assumption) m (by decide) (by simp) rfl ?_;intro f i)|exact Qi ⟨rfl,by assumption⟩|refine gZ ?_)
  rintro a q ⟨rfl,d⟩;refine gZ ?_
  repeat' (first|with_reducible apply Jw|refine Kq (l:=J4) (2*(n / 100)) undS i3 x ?_|refine Kq (l:=J4) (2*(n / 100)+1) undS i4 y ?_|(refine Ur (k:=2) (by assumption) o (by decide) (by simp) rfl ?_;intro f i)|(refine Ur (k:=1) (by assumption) p (by decide) (by simp) rfl ?_;intro f i)|exact Qi ⟨by rw[i5];rfl,by assumption⟩|refine gZ ?_)
 rintro a q ⟨rfl,d⟩;refine gZ ?_;refine t_if (fun e=>absurd e (by decide)) (fun _=>?_);refine t_if (fun e=>absurd e (by decide)) (fun _=>?_);exact Qa ⟨rfl,d⟩
set_option maxHeartbeats 0 in
theorem k3784'(y:100<=n)(z:n<1000)(hb:h.get r=some (true,.cells cs 291 (0,0)))(o:cs.size=24) :
  FW X0 Tryz.prog 200 #[.slice (some ⟨r,1,none⟩) 3 23,.int .u64 (n:Int)] h fun v h'=>v=.tuple #[]/\Wr 291 24 r h h' [(1,bV (UInt8.ofNat (48+n / 100))),(2,bV (hiD (n%100))),(3,bV (loD (n%100)))]:=by
 refine w3784 _ _ _ _ Qk ?_;unfold n3784;have u:Wr 291 24 r h h []:=⟨⟨fun _ _=>rfl,rfl,rfl,rfl⟩,cs,hb,o,by simp⟩
 refine Qz (fun p b h'=>b=[.int .u64 (n:Int),.int .i64 ((3:Nat):Int)]/\h=h') (n:=0) ⟨rfl,rfl⟩ ?_;rintro Y p b _ A ⟨rfl,rfl⟩;refine gZ ?_;refine t_if (fun e=>absurd e (by decide)) (fun _=>?_);refine gH ?_;refine gZ ?_;have a:n%100<100:=by omega
 have q:J4[2*(n%100)]?=some (hiD (n%100)):=(Gc _ a).1;have s:J4[2*(n%100)+1]?=some (loD (n%100)):=(Gc _ a).2;have t:IntKind.wrap .u32 (n:Int)=(n:Int):=Zn (by omega);have w2:Int.tmod (n:Int) 100*2=((2*(n%100):Nat):Int):=by rw[Int.tmod_eq_emod_of_nonneg (by omega)];omega
 have w3:Int.tdiv (n:Int) 100=((n / 100:Nat):Int):=by rw[Int.tdiv_eq_ediv_of_nonneg (by omega)];omega
 have i1:IntKind.wrap .u32 (Int.tmod (n:Int) 100*2)=((2*(n%100):Nat):Int):=by rw[w2,Zn (by omega)]
 have i2:IntKind.wrap .u32 (IntKind.wrap .u32 (Int.tmod (n:Int) 100*2)+1)=((2*(n%100)+1:Nat):Int):=by
  rw[i1];exact Zn (n:=2*(n%100)+1) (by omega)
 have i3:IntKind.wrap .u8 (IntKind.wrap .u32 (48+IntKind.wrap .u32 (Int.tdiv (n:Int) 100)))=((UInt8.ofNat (48+n / 100)).toNat:Int):=by
  have j:=Zn (n:=48+n / 100) (by omega);have m:=U5 (n:=48+n / 100) (by omega);rw[w3,Zn (n:=n / 100) (by omega),show (48+((n / 100:Nat):Int))=((48+n / 100:Nat):Int) by omega,j,m,UInt8.toNat_ofNat'];omega
 have w:0<=wrap .i64 (((3:Nat):Int)-1)/\wrap .i64 (((3:Nat):Int)-1)<((3:Nat):Int):=by decide
 have x:0<=wrap .i64 (((3:Nat):Int)-2)/\wrap .i64 (((3:Nat):Int)-2)<((3:Nat):Int):=by decide
 have f:Addr.add (Addr.add ⟨r,1,none⟩ (Int.toNat (wrap .i64 (((3:Nat):Int)-1))*1)) 0=⟨r,3,none⟩:=by rw[Qo,Qo];rfl
 have g:Addr.add (Addr.add ⟨r,1,none⟩ (Int.toNat (wrap .i64 (((3:Nat):Int)-2))*1)) 0=⟨r,2,none⟩:=by rw[Qo,Qo];rfl
 have i:Addr.add (Addr.add ⟨r,1,none⟩ 0) 0=⟨r,1,none⟩:=by rw[Qo,Qo]
 refine Q1 (fun b h'=>b=[.int .i64 ((3:Nat):Int),.int .u32 (n:Int)]/\h=h') ?_ ?_
 ·refine t_if (fun e=>absurd e (by decide)) (fun _=>?_);exact Qi ⟨by rw[t],rfl⟩
 rintro b _ ⟨rfl,rfl⟩;refine gZ ?_;refine t_if (fun _=>?_) (fun e=>absurd (by decide) e)
 repeat (refine gT (by decide) ?_)
 rw[i3]
 repeat' (first|with_reducible apply Jw|refine Kq (l:=J4) (2*(n%100)) undS i1 q ?_|refine Kq (l:=J4) (2*(n%100)+1) undS i2 s ?_|(refine Ur (k:=3) (by assumption) f (by decide) (by decide) rfl ?_;intro c d)|(refine Ur (k:=2) (by assumption) g (by decide) (by simp) rfl ?_;intro c d)|(refine Ur (k:=1) (by assumption) i (by decide) (by simp) rfl ?_;intro c d)|refine t_if (fun _=>?_) (fun e=>absurd (by decide) e)|exact Qa ⟨rfl,by assumption⟩|refine gZ ?_)
theorem c3784(f:100<=n)(g:n<10000)(hb:h.get r=some (true,.cells cs 291 (0,0)))(k:cs.size=24) :
  FW X0 Tryz.prog 200 #[.slice (some ⟨r,1,none⟩) (decDigits n).length 23,.int .u64 (n:Int)] h fun v h'=>v=.tuple #[]/\But r h h'/\∀ (j:Nat) w,((decDigits n).map u8V)[j]?=some w->h'.get.cell? (Addr.add ⟨r,1,none⟩ j)=some w:=by
 by_cases i:n<1000
 ·rw[show (decDigits n).length=3 by rw[Y0 f i];rfl,Y0 f i];refine FW.mono (k3784' f i hb k) ?_;rintro v h' ⟨rfl,b,d,e,l,c⟩;refine⟨rfl,b,fun j w a=>?_⟩;rw[Qo];refine J6 e ?_
  match j,a with
  | 0,a=>cases a;exact c (1,_) (by simp)
  | 1,a=>cases a;exact c (2,_) (by simp)
  | 2,a=>cases a;exact c (3,_) (by simp)
  | j+3,a=>simp at a
 ·rw[show (decDigits n).length=4 by rw[Yz (by omega) g];rfl,Yz (by omega) g];refine FW.mono (k3784 (by omega) g hb k) ?_;rintro v h' ⟨rfl,b,d,e,l,c⟩;refine⟨rfl,b,fun j w a=>?_⟩;rw[Qo];refine J6 e ?_
  match j,a with
  | 0,a=>cases a;exact c (1,_) (by simp)
  | 1,a=>cases a;exact c (2,_) (by simp)
  | 2,a=>cases a;exact c (3,_) (by simp)
  | 3,a=>cases a;exact c (4,_) (by simp)
  | j+4,a=>simp at a
theorem c3775(o:PowT 5 h.get)(n:Nat)(f:n<10000):Gr Tryz.prog 173 #[.int .i64 (n:Int),.int .i64 10] h fun r _=>r=.string (str (decDigits n)):=by
 refine w3775 Qk ?_;refine yT ?_;refine Q1 (fun b h'=>b=[.string (str [])]/\h=h'/\100<=n) ?_ ?_
 ·refine t_if (fun _=>?_) (fun e=>by omega);refine t_if (fun e=>?_) (fun e=>?_)
  ·refine t_pu (c3782 n (by omega)) ?_;refine Qj ?_;refine gI ?_;refine Jd ?_;refine gZ ?_;exact Qa ⟨LH.le_refl _,rfl⟩
  ·exact Qi ⟨rfl,rfl,by omega⟩
 rintro b _ ⟨rfl,rfl,c⟩;refine Jd ?_;refine gZ ?_;refine D1 fun r d a g hr=>?_;rw[wrapU64n (by omega)];refine Q1 (fun b h'=>b=[.int .u64 (n:Int)]/\d=h') ?_ ?_
 ·refine t_if (fun e=>by omega) (fun _=>?_);exact Qi ⟨rfl,rfl⟩
 rintro b _ ⟨rfl,rfl⟩;refine gZ ?_;refine t_pu (c3783 (o.le a.1) n c f) ?_;refine gZ ?_;have hlen:(decDigits n).length=3\/(decDigits n).length=4:=by
  by_cases m:n<1000
  ·rw[Y0 c m];exact .inl rfl
  ·rw[Yz (by omega) f];exact .inr rfl
 have hw:wrap .i64 (1+((decDigits n).length:Int))=((1+(decDigits n).length:Nat):Int):=by
  rw[Qh (by omega) (by omega)];omega
 rw[hw];have j:1+(decDigits n).length-1=(decDigits n).length:=by omega
 have k:Addr.add ⟨r,0,none⟩ (1*1)=⟨r,1,none⟩:=by rw[Qo]
 refine t_sliceArrM (i:=1) und24 infU (by omega) (by omega) (by omega) ?_;rw[j,k];refine gZ ?_;refine Jn (c3784 c f hr rfl) ?_;rintro _ p ⟨rfl,l,hc⟩;refine gZ ?_;refine t_if (fun e=>by omega) (fun _=>?_);refine t_sliceArrM (i:=1) und24 infU (by omega) (by omega) (by omega) ?_;rw[j,k];refine gZ ?_;refine Ga undBy undS undU rfl hc ?_;refine Qj ?_;exact Qa ⟨Ov.le_of a (l.ov g),rfl⟩
theorem c3767(c:PowT 5 h.get)(n:Nat)(b:n<10000):Gr Tryz.prog 148 #[.int .i64 (n:Int)] h fun r _=>r=.string (str (decDigits n)):=by
 refine w3767 Qk ?_;refine t_gr (c3775 c n b) ?_;rintro _ d a rfl;refine Qj ?_;exact Qa ⟨a,rfl⟩
theorem c3741(c:PowT 5 h.get)(n:Nat)(b:n<10000):Gr Tryz.prog 86 #[.int .i64 (n:Int)] h fun r _=>r=.string (str (decDigits n)):=by
 refine w3741 Qk ?_;refine t_gr (c3767 c n b) ?_;rintro _ d a rfl;refine Qj ?_;exact Qa ⟨a,rfl⟩
end Go.Y.Txt
end
section
namespace Go.TM.Tp
def Sm(n:Int):Prop:=0<=n/\n<10000
theorem Sm.fits{n:Int}(h:Sm n):Fits n:=⟨h.1,by have:=h.2;omega⟩
end Go.TM.Tp
namespace Go.Y.Txt
open Go.TM.Tp
open Go.Lib (decDigits)
attribute [local irreducible] T.wp CV FWK
variable {h:LH}{n:Nat}{p:Option Addr}
theorem c3717(c:PowT 5 h.get){n:Int}(b:Sm n):Gr Tryz.prog 37 #[.int .i64 n] h fun r _=>r=.string (str (di n)):=by
 obtain⟨v,rfl⟩ : ∃ v:Nat,n=v:=⟨n.toNat,by have:=b.1;omega⟩
 have e:=b.2;refine w3717 Qk ?_;refine t_gr (c3741 c v (by omega)) ?_;rintro _ d a rfl;refine Qj ?_;exact Qa ⟨a,rfl⟩
theorem c3718(k:PowT 5 h.get){x:Span}(i:Sm x.first)(j:Sm x.last):Gr Tryz.prog 38 #[.agg #[.int .i64 x.first,.int .i64 x.last]] h fun r _=>r=.string (str (da x)):=by
 have q:=Jz i.fits;have s:=Jz j.fits;obtain⟨a,b⟩:=x;simp only at i j q s;refine w3718 Qk ?_;refine Ql (fun e=>?_) (fun e=>?_)
 ·have:a=b:=by simpa using e
  subst this;refine t_gr (c3717 k i) ?_;rintro _ n c rfl;refine Qj ?_;refine Qa ⟨c,?_⟩;rw[Uo,if_pos rfl];rfl
 ·have m:¬ a.toNat=b.toNat:=fun t=>by
   have:=i.1;have:=j.1;have:a=b:=by omega
   subst this;simp at e
  have p:da ⟨a,b⟩=di a++45::di b:=by rw[Uo];simp only[];rw[if_neg m];rfl
  rw[p];have d:∀ {x y:Operand} {Q:Leaf->LH->Prop} {h:LH} {K:Value->T},(K (.string (str (di a++[45])))).wp X0 Tryz.prog Q h->(T.sem false (Sem.bind (eqGuard .add 9 x y (.string (str (di a))) (.string (str [45]))) fun _=>binOp .add 9 (.string (str (di a))) (.string (str [45]))) K).wp X0 Tryz.prog Q h:=fun l=>Zi undS (by simp;omega) l;have f:∀ {x y:Operand} {Q:Leaf->LH->Prop} {h:LH} {K:Value->T},(K (.string (str (di a++45::di b)))).wp X0 Tryz.prog Q h->(T.sem false (Sem.bind (eqGuard .add 9 x y (.string (str (di a++[45]))) (.string (str (di b)))) fun _=>binOp .add 9 (.string (str (di a++[45]))) (.string (str (di b)))) K).wp X0 Tryz.prog Q h:=fun l=>Zi undS (by simp;omega) (by simpa using l);refine t_gr (c3717 k i) ?_;rintro _ n c rfl;refine Qj ?_;refine gZ ?_;refine Jw ?_ ?_
  ·refine d (Qj ?_);refine gZ ?_;refine t_gr (c3717 (k.le c.1) j) ?_;rintro _ o g rfl;refine Qj ?_;refine gZ ?_;refine f (Qj ?_);refine gZ ?_;exact Qa ⟨LH.le_trans c g,rfl⟩
  ·refine t_gr (c3717 (k.le c.1) j) ?_;rintro _ o g rfl;refine Qj ?_;refine gZ ?_;refine d (Qj ?_);refine gZ ?_;refine f (Qj ?_);refine gZ ?_;exact Qa ⟨LH.le_trans c g,rfl⟩
theorem li_is(l:List Int):joinS 44 (l.map di)=li l:=by
 unfold li listS;rw[List.map_map];rfl
theorem c3719(H:PowT 5 h.get){c:Nat}{l:List Int}(s:Sl IntE 1 h.get p n l)(K:l.length<=2^19)(z:∀ v∈l,Sm v):Gr Tryz.prog 39 #[.slice p n c] h fun r _=>r=.string (str (li l)):=by
 refine w3719 Qk ?_;have L:=s.1;refine Ja (fun A j h'=>h.le h'/\∃ (q:Option Addr) (m k i:Nat),j=[.slice q m k,.int .i64 i]/\i<=n/\A=n-i/\Growing BsEnc 9 1 h.get h'.get q m k ((l.take i).map di)) (fun j h'=>h.le h'/\∃ (q:Option Addr) (m k:Nat) (i:Int),j=[.slice q m k,.int .i64 i]/\Growing BsEnc 9 1 h.get h'.get q m k (l.map di))
  ⟨LH.le_refl _,none,0,0,0,rfl,Nat.zero_le _,rfl,Growing.nil⟩ ?_ ?_
 ·rintro Y A j D F ⟨b,q,m,k,i,rfl,J,rfl,g⟩;refine yJ (fun C=>?_) (fun C=>?_)
  ·have w:=List.getElem?_eq_getElem (show i<l.length by omega);have f:=List.getElem_mem (show i<l.length by omega);generalize l[i]=x at w f;obtain⟨a,G,o⟩:=(s.le IntE.grow b.1).2.2 i x w;unfold IntE at o;rw[U2]at o;have u:0<=(i:Int)/\(i:Int)<(n:Int):=by omega
   have t:=z x f;refine gT u (gS2 G (gL0 (by rw[Int.toNat_natCast];exact o) ?_));refine t_gr (c3717 (H.le b.1) t) ?_;rintro _ E d rfl;refine Qj ?_;refine Um (di x) (by rw[List.length_map,List.length_take];omega) (g.le d.1) (LH.le_trans b d) fun I B h' y _ g'=>?_;refine Qi (F (n-(i+1)) _ _ (by omega) ⟨y,I,m+1,B,i+1,?_,by omega,rfl,?_⟩)
   ·rw[Qh (by omega) (by omega)];rfl
   ·rw[Jr w,List.map_append];exact g'
  ·rw[List.take_of_length_le (by omega)]at g;exact gH ⟨b,q,m,k,_,rfl,g⟩
 ·rintro j D ⟨b,q,m,k,i,rfl,g⟩;refine gZ ?_;have e:∀ v∈l,Fits v:=fun v hv=>(z v hv).fits;have hlen:=H6 e;refine t_gr (c3716 (growS g (by rw[List.length_map];omega)) 44 (by rw[List.length_map];omega) (by rw[li_is];omega)) ?_;rintro _ E d rfl;refine Qj ?_;refine Qa ⟨LH.le_trans b d,?_⟩;rw[li_is]
theorem c3714{h0:LH}{r:Nat}{l w:Bs}{k:Nat}{fs:List Bs}(b:BldR h0 h r l)(s:BsS h p n k fs)(a:fs≠[])(hw:w.length<=2^20)(f:fs.length<=2^20)(j:(joinS 59 fs).length<=2^28)(hlen:l.length<=2^28) :
  FW X0 Tryz.prog 34 #[.string (str w),.slice p n k,.pointer (some ⟨r,0,none⟩)] h fun v h'=>v=.tuple #[]/\BldR h0 h' r (l++lineS w fs):=by
 refine w3714 Qk ?_;refine Zi (b:=[58]) undS (by simp;omega) (Qj ?_);refine gZ ?_;refine t_gr (c3716 s 59 f (by omega)) ?_;rintro _ g c rfl;refine Qj ?_;refine Zi undS (by simp;omega) (Qj ?_);refine Zi (b:=[59,10]) undS (by simp;omega) (Qj ?_);have e:w++[58]++joinS 59 fs++[59,10]=lineS w fs:=by rw[lineS_join a];simp
 rw[e];have hle:(lineS w fs).length<=2^29:=by rw[<- e];simp;omega
 refine Jn (c3715 (b.grow c) (by omega)) ?_;rintro _ i ⟨rfl,d⟩;refine gZ ?_;exact Qa ⟨rfl,d⟩
end Go.Y.Txt
end
section
namespace Go.TM.Tp
theorem Sound.sm{u:UseFile}(s:Sound u):(Sm u.items/\Sm u.lands/\Sm u.from_/\Sm u.idle)/\(∀ x∈u.excuses,Sm x.first/\Sm x.last)/\(∀ p∈u.papers,Sm p.days.first/\Sm p.days.last/\Sm p.land/\∀ n∈p.items,Sm n)/\∀ r∈u.requests,Sm r.day/\Sm r.land/\∀ n∈r.items,Sm n:=by
 have n:=s.num;unfold Sm;refine⟨by omega,fun x f=>by have:=s.ex x f;omega,fun p e=>?_,fun r hr=>?_⟩
 ·obtain⟨a,b,_,c⟩:=s.pa p e;exact⟨by omega,by omega,by omega,fun n d=>by have:=c n d;omega⟩
 ·obtain⟨a,b,_,c⟩:=s.re r hr;exact⟨by omega,by omega,fun n d=>by have:=c n d;omega⟩
theorem Gt{c:UInt8}{fs:List Bs}(a:∀ f∈fs,f.length<=60)(b:fs.length<=4):(joinS c fs).length<=2^28:=by
 have:=Hp (c:=c) a;have:fs.length*(60+1)<=4*61:=Nat.mul_le_mul b (by omega);omega
end Go.TM.Tp
namespace Go.Y.Txt
open Go.TM.Tp
open Go.Lib (decDigits)
attribute [local irreducible] T.wp CV FWK
theorem c3704{h:LH}{f:FileC}{u:UseFile}(hp:Parts h.get)(n:PowT 5 h.get)(hu:FileR h.get f u):Gr Tryz.prog 9 #[fileV f u] h fun r _=>r=printV (printU u):=by
 refine w3704 Qk ?_;refine t_gr (c26 hp hu) ?_;rintro _ hA D rfl;refine yI (fun e=>?_) (fun e=>?_)
 ·have hz:checkF u≠0:=by simpa using e
  rw[print_bad hz];exact Qa ⟨D,rfl⟩
 have j:checkF u=0:=by simpa using e
 rw[print_ok j];have G:=sound j;obtain⟨⟨f1,f2,f3,f4⟩,fx,fp,fr⟩:=G.sm;refine D1 fun r h0 V M hr=>?_;have R:h.get r=none:=by
  cases k:h.get r with
  | none=>rfl
  | some x=>rw[D.1 _ _ k]at M;cases M
 have B0:BldR h h0 r []:=⟨⟨none,none,0,hr,.inl rfl,OwnRow.nil,NewIn.none,fun a N=>by cases N⟩,R,LH.le_trans D V⟩
 refine t_gr (c3717 (n.le B0.le.1) f1) ?_;rintro _ h1 W rfl;refine Qj ?_;have B1:=B0.grow W;refine gZ ?_;refine t_gr (c3717 (n.le B1.le.1) f2) ?_;rintro _ h2 X rfl;refine Qj ?_;have B2:=B1.grow X;refine gZ ?_;refine t_gr (c3717 (n.le B2.le.1) f3) ?_;rintro _ h3 Z rfl;refine Qj ?_;have B3:=B2.grow Z;refine gZ ?_;refine t_gr (c3717 (n.le B3.le.1) f4) ?_;rintro _ h4 a0 rfl;refine Qj ?_;have B4:=B3.grow a0;refine gZ ?_;refine U8 _ _ _ _ fun p h5 b0 s5=>?_;have B5:=B4.grow b0;refine gZ ?_;have d1:=Jz f1.fits;have d2:=Jz f2.fits;have d3:=Jz f3.fits;have d4:=Jz f4.fits;refine Jb (Zl Qk (by rfl) (c3714 (w:=wUse) B5 s5 (by simp) (by decide) (by simp) (Gt (all4 (by omega) (by omega) (by omega) (by omega)) (by simp)) (by simp))) ?_;rintro _ F ⟨rfl,b⟩;refine gZ ?_;have e0:[]++lineS wUse [di u.items,di u.lands,di u.from_,di u.idle]=textX u 0:=by simp[textX,text,rU,G2]
 rw[e0]at b;refine Ja (fun t d h'=>∃ i:Nat,d=[.int .i64 i]/\i<=f.n4/\t=f.n4-i/\BldR h h' r (textX u i)) (fun d h'=>(∃ i:Int,d=[.int .i64 i])/\BldR h h' r (textP u 0)) ⟨0,rfl,Nat.zero_le _,rfl,b⟩ ?_ ?_
 ·rintro Y t d F K ⟨i,rfl,hi,rfl,b⟩;have hn:=hu.excuses.1;have hb:=G.nx;refine yJ (fun o=>?_) (fun o=>?_)
  ·obtain⟨x,a,k,N,x1,x2⟩:=(hu.excuses.le SpanE.grow b.le.1).at (i:=i) (by omega);have L:0<=(i:Int)/\(i:Int)<(f.n4:Int):=by omega
   obtain⟨s,I⟩:=fx x (List.mem_of_getElem? k);have ld:=Ue s.fits I.fits;refine gZ ?_;refine t_gr (c3718 (n.le b.le.1) s I) ?_;rintro _ Q c rfl;refine Qj ?_;have A:=b.grow c;refine t_str1 _ fun p h8 g s8=>?_;have B:=A.grow g;refine gZ ?_;have hl:=Dx j i;refine Jb (Zl Qk (by rfl) (c3714 (w:=wExcuse) B s8 (by simp) (by decide) (by simp) (Gt (all1 (by omega)) (by simp)) (by omega))) ?_;rintro _ h9 ⟨rfl,H⟩;refine gZ ?_;refine Qi (K (f.n4-(i+1)) _ _ (by omega) ⟨i+1,?_,by omega,rfl,?_⟩)
   ·rw[Qh (by omega) (by omega)];rfl
   ·rw[Hy k];exact H
  ·rw[textX_end (by omega)]at b;exact gH ⟨⟨_,rfl⟩,b⟩
 rintro d F ⟨⟨i0,rfl⟩,b⟩;refine gZ ?_;refine Ja (fun t d h'=>∃ i:Nat,d=[.int .i64 i]/\i<=f.n5/\t=f.n5-i/\BldR h h' r (textP u i)) (fun d h'=>(∃ i:Int,d=[.int .i64 i])/\BldR h h' r (textR u 0)) ⟨0,rfl,Nat.zero_le _,rfl,b⟩ ?_ ?_
 ·rintro Y t d F K ⟨i,rfl,hi,rfl,b⟩;have hn:=hu.papers.1;have hb:=G.np;refine yJ (fun o=>?_) (fun o=>?_)
  ·obtain⟨x,a,k,N,x1,x2,x3,q,m,cq,x4,x5⟩:=(hu.papers.le PaperE.grow b.le.1).at (i:=i) (by omega);have L:0<=(i:Int)/\(i:Int)<(f.n5:Int):=by omega
   obtain⟨s,I,J,g4⟩:=fp x (List.mem_of_getElem? k);have q6:=(G.pa x (List.mem_of_getElem? k)).2.2.1;have ld:=Ue s.fits I.fits;have S:=Jz J.fits;have U:=H6 fun v hv=>(g4 v hv).fits;refine gZ ?_;refine t_gr (c3718 (n.le b.le.1) s I) ?_;rintro _ Q c rfl;refine Qj ?_;have A:=b.grow c;refine gZ ?_;refine t_gr (c3717 (n.le A.le.1) J) ?_;rintro _ h8 g rfl;refine Qj ?_;have B:=A.grow g;refine gZ ?_;refine t_gr (c3719 (n.le B.le.1) (x5.le IntE.grow (LH.le_trans c g).1) (by omega) g4) ?_;rintro _ h9 C rfl;refine Qj ?_;have H:=B.grow C;refine gZ ?_;refine U9 _ _ _ fun p O l E=>?_;have y:=H.grow l;refine gZ ?_;have hl:=Dz j i;refine Jb (Zl Qk (by rfl) (c3714 (w:=wPaper) y E (by simp) (by decide) (by simp) (Gt (all3 (by omega) (by omega) (by omega)) (by simp)) (by omega))) ?_;rintro _ P ⟨rfl,z⟩;refine gZ ?_;refine Qi (K (f.n5-(i+1)) _ _ (by omega) ⟨i+1,?_,by omega,rfl,?_⟩)
   ·rw[Qh (by omega) (by omega)];rfl
   ·rw[H0 k];exact z
  ·rw[textP_end (by omega)]at b;exact gH ⟨⟨_,rfl⟩,b⟩
 rintro d F ⟨⟨i0,rfl⟩,b⟩;refine gZ ?_;refine Ja (fun t d h'=>∃ i:Nat,d=[.int .i64 i]/\i<=f.n6/\t=f.n6-i/\BldR h h' r (textR u i)) (fun d h'=>(∃ i:Int,d=[.int .i64 i])/\BldR h h' r (textU u)) ⟨0,rfl,Nat.zero_le _,rfl,b⟩ ?_ ?_
 ·rintro Y t d F K ⟨i,rfl,hi,rfl,b⟩;have hn:=hu.requests.1;have hb:=G.nr;refine yJ (fun o=>?_) (fun o=>?_)
  ·obtain⟨x,a,k,N,x1,x2,q,m,cq,x4,x5⟩:=(hu.requests.le RequestE.grow b.le.1).at (i:=i) (by omega);have L:0<=(i:Int)/\(i:Int)<(f.n6:Int):=by omega
   obtain⟨s,J,g4⟩:=fr x (List.mem_of_getElem? k);have q6:=(G.re x (List.mem_of_getElem? k)).2.2.1;have ld:=Jz s.fits;have S:=Jz J.fits;have U:=H6 fun v hv=>(g4 v hv).fits;refine gZ ?_;refine t_gr (c3717 (n.le b.le.1) s) ?_;rintro _ Q c rfl;refine Qj ?_;have A:=b.grow c;refine gZ ?_;refine t_gr (c3717 (n.le A.le.1) J) ?_;rintro _ h8 g rfl;refine Qj ?_;have B:=A.grow g;refine gZ ?_;refine t_gr (c3719 (n.le B.le.1) (x5.le IntE.grow (LH.le_trans c g).1) (by omega) g4) ?_;rintro _ h9 C rfl;refine Qj ?_;have H:=B.grow C;refine gZ ?_;refine U9 _ _ _ fun p O l E=>?_;have y:=H.grow l;refine gZ ?_;have hl:=Hg j i;refine Jb (Zl Qk (by rfl) (c3714 (w:=wRequest) y E (by simp) (by decide) (by simp) (Gt (all3 (by omega) (by omega) (by omega)) (by simp)) (by omega))) ?_;rintro _ P ⟨rfl,z⟩;refine gZ ?_;refine Qi (K (f.n6-(i+1)) _ _ (by omega) ⟨i+1,?_,by omega,rfl,?_⟩)
   ·rw[Qh (by omega) (by omega)];rfl
   ·rw[Hz k];exact z
  ·rw[Dy (by omega)]at b;exact gH ⟨⟨_,rfl⟩,b⟩
 rintro d F ⟨⟨i0,rfl⟩,b⟩;refine gZ ?_;have ht:=U7 j;obtain⟨p0,q0,cc,o,_⟩:=b.cells;refine t_pu (c3720 o) ?_;refine gZ ?_;refine t_if (fun o=>absurd o (by omega)) (fun _=>?_);refine Jn (c3721 b (by omega)) ?_;rintro _ Q ⟨rfl,c⟩;refine Qj ?_;exact Qa ⟨c,rfl⟩
end Go.Y.Txt
end
section
namespace Go.Y
set_option maxHeartbeats 0
set_option linter.unusedVariables false
variable {X:XP} {h:LH} {A:Value->LH->Prop}
variable {a b c d e f g i j k l m:Int}{n o p q r s t u v w x y z:Nat}{B C D E F G H I J K L M:Option Addr}
theorem w3700{j:ByteArray}:FX X 3 #[.string j,.agg #[a,b,c,d,.slice B n o,.slice C p q,.slice D r s]] h A (.blk (.cB 7 #[.agg #[a,b,c,d,.slice B n o,.slice C p q,.slice D r s]] fun g=>bif g then .cB 8 #[] fun g=>.rn [g] else .sem false (Builtin.len_ #[9] 3 #[.string j]) fun f=>.ui f fun i=>bif decide (i>2000) then .cB 8 #[] fun g=>.rn [g] else .ag [false]) (fun e=>.popB e fun g e=>.unNil e (.cT 9 #[.agg #[a,b,c,d,.slice B n o,.slice C p q,.slice D r s]] fun f e=>.unStr f fun l=>.unCons e fun f e=>.ui f fun i=>.unNil e (.cT 10 #[.agg #[a,b,c,d,.slice B n o,.slice C p q,.slice D r s]] fun f e=>.unStr f fun m=>.unCons e fun f e=>.ui f fun K=>.unNil e (.blk (.sem false (Sem.bind (eqGuard BinOp.neq 9 (Operand.tmp 31) (Operand.tmp 32) (.string l) (.string m)) fun y0=>binOp BinOp.neq 9 (.string l) (.string m)) fun f=>.unB f fun z=>bif z then .rn [false] else bif i != K then .rn [false] else .ag [g]) (fun e=>.popB e fun g e=>.unNil e (.cT 11 #[.string j] fun f e=>.unAgg f fun k=>.pi k fun i f0=>.pi f0 fun W m0=>.pi m0 fun Y o0=>.pi o0 fun Z p0=>.popS p0 fun t a0 E q0=>.popS q0 fun u b0 F r0=>.popS r0 fun v c0 G s0=>.unNil s0 (.unCons e fun f e=>.ui f fun d0=>.unCons e fun f e=>.ui f fun e0=>.unNil e (.cT 12 #[.string j] fun f e=>.unAgg f fun k=>.pi k fun L t0=>.pi t0 fun M u0=>.pi u0 fun N g0=>.pi g0 fun O i0=>.popS i0 fun w Q H j0=>.popS j0 fun x R I k0=>.popS k0 fun y S J l0=>.unNil l0 (.unCons e fun f e=>.ui f fun U=>.unCons e fun f e=>.ui f fun V=>.unNil e (.cB 13 #[.agg #[i,W,Y,Z,.slice t a0 E,.slice u b0 F,.slice v c0 G],.agg #[L,M,N,O,.slice w Q H,.slice x R I,.slice y S J]] fun g=>bif g then bif d0==U then bif e0==V then .cB 8 #[] fun g=>.rt (.bool g) else .rt (.bool false) else .rt (.bool false) else .rt (.bool false))))))) (fun e=>.popB e fun g e=>.unNil e (.rt (.bool g))) fun v0 x0=>.fail)))) (fun e=>.popB e fun g e=>.unNil e (.rt (.bool g))) fun v0 x0=>.fail):=fk [3,9,11] [] [⟨7,[(4,.bool)],[3],[],[],[]⟩,⟨3,[(4,.bool)],[3],[],[],[]⟩] Tryz.f3
end Go.Y
end
section
namespace Go.TM.Tp
end Go.TM.Tp
namespace Go.Y.Txt
open Go.TM.Tp
attribute [local irreducible] T.wp CV FWK
theorem c3700{h:LH}{a:Addr}(d:h.chans=[])(i:h.pend=[])(k:Parts h.get)(C:PowT 5 h.get)(y:ErrL a h.get)(t:Bs){f:FileC}{u:UseFile}(hu:FileR h.get f u):FW XT Tryz.prog 3 #[.string (str t),fileV f u] h (Fin h):=by
 refine w3700 XT_ok ?_;refine Q1 (fun o h'=>o=[.bool false]/\h=h') ?_ ?_
 ·refine Jn (Dd (c15 hu)) ?_;rintro _ h ⟨rfl,b,rfl,hb⟩;refine yI (fun _=>?_) (fun A=>?_)
  ·refine Ya d i k (LH.le_refl _) fun h' j=>?_;refine gI ?_;refine gZ ?_;exact Qa ⟨rfl,j⟩
  refine Q5 undS ?_;refine yJ (fun _=>?_) (fun _=>?_)
  ·refine Ya d i k (LH.le_refl _) fun h' j=>?_;refine gI ?_;refine gZ ?_;exact Qa ⟨rfl,j⟩
  ·exact Qi ⟨rfl,rfl⟩
 rintro o _ ⟨rfl,rfl⟩;refine gZ ?_;refine t_gr (c3704 k C hu) ?_;rintro _ E m rfl;obtain⟨s,w,x⟩ : ∃ s w,printV (printU u)=.tuple #[.string (str s),.int .i64 w]:=⟨_,_,rfl⟩
 rw[x];refine gZ ?_;refine Qj ?_;refine gZ ?_;refine t_gr (c3705 (hu.le m.1)) ?_;rintro _ z q rfl;rw[x];refine gZ ?_;refine Qj ?_;refine gZ ?_;have c:=LH.le_trans m q;refine Q1 (fun o h'=>o=[.bool false]/\z=h') ?_ ?_
 ·refine Yw undS ?_;refine gZ ?_;refine Ql (fun e=>by simp at e) (fun _=>?_);refine Ql (fun e=>by simp at e) (fun _=>?_);exact Qi ⟨rfl,rfl⟩
 rintro o _ ⟨rfl,rfl⟩;refine gZ ?_;refine t_gr (c3706 (k.le c.1) (y.le c.1) t) ?_;intro r F v hr;obtain⟨g,rfl,B⟩:=hr;have l:=LH.le_trans c v;unfold fileV;refine gZ ?_;refine t_gr (c3707 t) ?_;intro r G n hr;obtain⟨D,rfl,p⟩:=hr;unfold fileV;refine gZ ?_;refine t_pu (c3708 (B.le n.1) p) ?_;refine yT ?_;refine Ql (fun _=>?_) (fun e=>by simp at e);refine Ql (fun _=>?_) (fun e=>by simp at e);exact Ya d i k (LH.le_trans l n) fun h' j=>Qa ⟨rfl,j⟩
end Go.Y.Txt
end
section
namespace Go.Proofs.YtpkjbclajflhbaaGreatDoor
open Go.Y Go.Y.Tre
open Go.Y.Tre Go.ChangeShapes Go.WideShapes Go.RowKit
def doorW(os:Os):World :=
 { World.doorLaid Tryz.prog 200 os with heap:=(World.doorLaid Tryz.prog 200 os).heap.modify 8 fun o=>match o with
  | .cells _ t fz=>.cells (Go.Pinned.utf8FirstZ.map fun z:Nat=>Value.int .u8 (z:Int)).toArray t fz
  | o=>o }
theorem door_met(os:Os)(args:Array Value):laidMetH Tryz.prog Rows.useTextsRow.laid ((doorW os).forCall (fun _ _=>0) ⟨#[],args,[]⟩).memory :=
 laidMetH_of_parts3 (fuel:=8) (laidMet_of_run' 8 (by kernel_rfl) (by kernel_rfl)) (by kernel_rfl) (by kernel_rfl)
theorem door_shaped(os:Os)(args:Array Value):((doorW os).forCall (fun _ _=>0) ⟨#[],args,[]⟩).Shaped Tryz.prog :=
 World.shaped_of_RefB (by kernel_rfl) (by kernel_rfl)
theorem useTexts_lifted(os:Os)(started:os.Started)(H:Type)(enc:TypeId×Value->H) :
  ReturnsInLeavingWide {} Tryz.checked os 3 .any (fun w args=>(Rows.useTextsSpec.pre enc Tryz.prog Tryz.f3 [] false w args/\laidMetH Tryz.prog Rows.useTextsRow.laid w)/\sizedMet enc Tryz.prog Tryz.f3 (OpenSpec.ofChange Rows.useTextsSpec) false w args)
   (Rows.useTextsSpec.post enc Tryz.prog Tryz.f3 false true false false):=by
 refine row_leaving (C:=Tryz.checked) (tb:=4) own started Tryz.func3 (by kernel_rfl) rfl lo ?_ (by kernel_rfl) Tryz.underlying4 ?_
  (ChangeSpec.witness_shaped (enc:=enc) (C:=Tryz.checked) (os:=os) (X:=fun w _=>laidMetH Tryz.prog Rows.useTextsRow.laid w) false (doorW os) #[.string ⟨#[]⟩,noUse] 8 rfl (door_shaped os _) (by kernel_rfl) (by kernel_rfl) (by kernel_rfl) (door_met os _)) ?_
 ·exact fun t o=>of_decide_eq_true (List.all_eq_true.1 (show (Tryz.f3.params.toList.all fun t=>decide (Tryz.prog.readableRec t=true/\t<Tryz.prog.types.size))=true by kernel_rfl) t o)
 ·intro ds n
  match ds,(show ds.length=2 from n) with
  | [d0,d1],_=>rfl
 ·intro W base args ds ps b c g e;have a:∀ (j:Nat) t v,Tryz.f3.params[j]?=some t->args[j]?=some v->Value.okWide Tryz.prog W .any base t v:=b;have l:∀ (j:Nat) t d,Tryz.f3.params.toList[j]?=some t->ds[j]?=some d->Light Tryz.prog t d:=g;have i:DataW.TrodAll enc Tryz.prog W 0 (fun _=>true) true Tryz.f3.params.toList args.toList ds ps:=c;rw[Tryz.params3]at a l i;obtain⟨v0,v1,d0,d1,p,q,rfl,rfl,rfl,h0,m⟩:=trodAll2 i;obtain⟨t0,rfl⟩:=str_arg (a 0 9 v0 rfl rfl);obtain⟨f1,s,rfl,f⟩:=file_arg UT (a 1 26 v1 rfl rfl) (l 1 26 d1 rfl rfl) m;exact FW.mono (Txt.c3700 (h:=⟨getW W,[],[],[]⟩) rfl rfl (parts_of_laid e (by repeat first|exact List.Mem.head _|apply List.Mem.tail)) (pow_of_laid e (by repeat first|exact List.Mem.head _|apply List.Mem.tail)) (err_of_laid e (by repeat first|exact List.Mem.head _|apply List.Mem.tail)).choose_spec t0 f) fun r h' k=>⟨k.1,k.2.2.1⟩
set_option maxHeartbeats 0 in
theorem useTexts_closed:joinedFacts Tryz.prog 3 Tryz.f3 Rows.useTextsSpec Rows.useTextsRow=true:=by
 unfold joinedFacts;simp only[Bool.and_eq_true]
 and_intros
 all_goals (as_aux_lemma=>kernel_rfl)
theorem useTexts_named:Tryz.prog.funcNamed Rows.useTextsRow.func=some 3:=by kernel_rfl
theorem useTexts_row:Rows.UseTextsSaid :=
 OpenClaim.holds_of_wide_leaving 3 Tryz.f3 rfl rfl rfl rfl rfl rfl rfl ⟨rfl,rfl,rfl,rfl,rfl⟩ rfl rfl rfl rfl rfl useTexts_named Tryz.func3 useTexts_closed
  (of_decide_eq_true (by kernel_rfl)) (by unfold Func.isWrapper;first|(rw[if_pos (by decide +kernel)];kernel_rfl)|(rw[if_neg (by decide +kernel)];exact⟨rfl,rfl⟩))
  (fun os started H enc _=>useTexts_lifted os started H enc)
theorem useTexts_holds:Rows.UseTextsCardSaid :=
 card_goes [.data,.data,.data,.data,.sentinel,.sentinel,.sentinel,.funcs,.pinned] true Rows.useTextsCard.stood.harness Rows.useTextsCard.stood.looks useTexts_row (by kernel_rfl) useTexts_row_tie rfl ⟨rfl,rfl⟩ (by kernel_rfl) rfl
  (fun f fn b a=>by
   obtain rfl:f=3:=Option.some.inj (useTexts_named.symm.trans b) |>.symm;obtain rfl:fn=Tryz.f3:=(Option.some.inj (Tryz.func3.symm.trans a)).symm;exact⟨by kernel_rfl,fun j t c=>by
    have hm:=Array.mem_of_getElem? c;have:=of_decide_eq_true (List.all_eq_true.1 (show (Tryz.f3.params.toList.all fun t=>decide (Tryz.prog.wantsStandIn t=false))=true by kernel_rfl) t (Array.mem_toList_iff.2 hm));exact this⟩)
  (by kernel_rfl)
end Go.Proofs.YtpkjbclajflhbaaGreatDoor
end
#print axioms Go.Proofs.YtpkjbclajflhbaaGreatDoor.useTexts_holds

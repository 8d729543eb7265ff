/- treaty: program and reference print and parse alike: TreatyTexts -/
import Derived.Test.YtpkjbclajflhbaaGreatDoorM7
set_option linter.all false
noncomputable section
open Go Go.Conc Go.TM Go.Proofs
open Go.IntKind (wrap)
section
namespace Go.TM.Tp
open Go.TM.Tr
theorem find_at:∀ (l:List Bs) (s:Bs) (i:Nat),findAt s i l=match findB s l with|some k=>((i+k:Nat):Int)|none=>-1
 | [],_,_=>rfl
 | x::l,s,i=>by
  unfold findAt findB;split
  ·simp
  ·rw[find_at l s (i+1)];cases findB s l with
   | none=>rfl
   | some k=>simp only[Option.map_some];congr 1;omega
theorem lineG_nil(first:Bool)(w:Bs):lineG first w []=none:=by
 unfold lineG;split
 ·rfl
 ·split
  ·rfl
  ·cases findB w wordsT<;>rfl
theorem line_refT(first:Bool)(l:Bs):((fieldsR l).bind fun x=>lineG first x.1 x.2)=lineT first l:=by
 show _=(fieldsL l).bind (fun x=>lineG first x.1 x.2);unfold fieldsR fieldsL;cases cut 58 l with
 | nil=>rfl
 | cons w q =>
  cases q with
  | nil=>rfl
  | cons p ps =>
   simp only[];generalize joinS 58 (p::ps)=r;by_cases hw:w=[]
   ·rw[if_pos hw,if_pos hw]
   ·rw[if_neg hw,if_neg hw];by_cases h:(cut 59 r).getLast?=some []
    ·rw[if_pos h];rcases cut_last h with rfl|⟨x,rfl,c⟩
     ·show lineG first w []=_
      rw[lineG_nil];rfl
     ·rw[if_pos (by simp),<- c,List.dropLast_concat]
    ·rw[if_neg h];by_cases h2:r.getLast?=some 59
     ·exfalso;rcases List.eq_nil_or_concat r with a|⟨x,b,rfl⟩
      ·rw[a]at h2;cases h2
      ·rw[List.concat_eq_append,List.getLast?_concat]at h2;cases h2;rw[List.concat_eq_append,Yt]at h;simp at h
     ·rw[if_neg h2]
end Go.TM.Tp
namespace Go.Y.Txt
open Go.TM.Tp Go.TM.Tr
attribute [local irreducible] T.wp CV FWK
set_option maxRecDepth 100000
variable {r:Value}{h:LH}{p:Option Addr}{n c i:Nat}{x:TF}
theorem NumsA.both{o:Option (List Nat)}(a:NumsA o r h):∃ p n c b,r=.tuple #[.slice p n c,.bool b]/\((b=true/\∃ m,o=some m/\InS h p n c (ints m))\/(b=false/\o=none)):=by
 cases o with
 | none=>exact⟨none,0,0,false,a,.inr ⟨rfl,rfl⟩⟩
 | some m =>
  obtain⟨p,n,c,rfl,s⟩:=a;exact⟨p,n,c,true,rfl,.inl ⟨rfl,m,rfl,s⟩⟩
def EventA(o:Option Ev)(r:Value)(h:LH):Prop:=match o with
 | some e=>∃ q m c,r=.tuple #[.agg #[.int .i64 e.kind,.int .i64 e.day,.int .i64 e.land,.slice q m c,.int .i64 e.since],.bool true]/\InS h q m c e.items
 | none=>r=.tuple #[.agg #[.int .i64 0,.int .i64 0,.int .i64 0,.slice none 0 0,.int .i64 0],.bool false]
theorem c3773b(l:Bs)(e:l.length<=2^19):Gr Tryz.prog 158 #[.string (str l)] h fun r h'=>∃ p n c b gs,r=.tuple #[.slice p n c,.bool b]/\BsS h' p n c gs/\(gs.length<=2^20/\∀ x∈gs,x.length<=2^20)/\((b=true/\listL l=numsL gs)\/(b=false/\listL l=none)):=by
 have d:=Zp 44 l;refine(c3773 l e).mono ?_;rintro r h1 _ hr;rcases hr with⟨rfl,rfl⟩|⟨a,⟨hm,rfl⟩|⟨hm,p,n,k,rfl,s⟩⟩
 ·exact⟨none,0,0,true,[],rfl,BsS.nil,⟨by simp,by simp⟩,.inl ⟨rfl,rfl⟩⟩
 ·refine⟨none,0,0,false,[],rfl,BsS.nil,⟨by simp,by simp⟩,.inr ⟨rfl,?_⟩⟩;unfold listL;rw[if_neg a];exact De (x:=[]) rfl hm
 ·exact⟨p,n,k,true,_,rfl,s,⟨by omega,fun x f=>by have:=Kk f;omega⟩,.inl ⟨rfl,by unfold listL;rw[if_neg a]⟩⟩
theorem c3764{kk:Nat}(Y:kk<7){fs:List Bs}(s:BsS h p n c fs)(m:fs.length<=2^19)(hb:∀ x∈fs,x.length<=2^19):Gr Tryz.prog 130 #[.int .i64 (kk:Int),.slice p n c] h fun r h'=>EventA (eventL kk fs) r h':=by
 refine w3764 Qr ?_;have hn:=s.2.1;have j0:=s.1;refine Ja (fun vs h'=>h=h'/\vs=[.int .i64 ((fieldsN kk+1:Nat):Int)]) ?_ ?_
 ·refine Qt (fun e=>?_) (fun e=>?_)
  ·refine Qj ⟨rfl,?_⟩;have t:kk=6:=by
    have:(kk:Int)=6:=by simpa using e
    omega
   subst t;rfl
  ·refine Qj ⟨rfl,?_⟩
   match kk,Y,e with
   | 0,_,_|1,_,_|2,_,_|3,_,_|4,_,_|5,_,_=>rfl
   | 6,_,e=>exact absurd e (by decide)
 rintro vs _ ⟨rfl,rfl⟩;refine yI (fun e=>?_) (fun e=>?_)
 ·rw[eventL_len]
  ·exact Qh ⟨LH.le_refl _,rfl⟩
  ·intro hc;rw[<- hc,<- hn]at e;simp at e
 have O:n=fieldsN kk+1:=by
  have:(n:Int)=((fieldsN kk+1:Nat):Int):=by simpa using e
  omega
 have g0:2<=fieldsN kk/\fieldsN kk<=3:=by
  have:=Uu kk Y;unfold fieldsN;revert this;cases landB kk<;>cases sinceB kk<;>simp
 have eM:wrap .i64 (((fieldsN kk+1:Nat):Int)-1)=(fieldsN kk:Int):=by rw[Qm (by omega) (by omega)];omega
 rw[eM];refine J7 undSs infS (i:=fieldsN kk) (by omega) ?_;refine gZ ?_;have K:fs.dropLast=fs.take (fieldsN kk):=by rw[List.dropLast_eq_take,<- hn,O];rfl
 have sP:BsS h p (fieldsN kk) c fs.dropLast:=by rw[K];exact BsS.take s (by omega)
 refine t_gr (c3756 sP (by rw[List.length_dropLast];omega) (fun x hx=>by have:=hb x (List.dropLast_subset _ hx);omega)) ?_;intro r h1 C hr;obtain⟨q1,d1,o,b1,rfl,w⟩:=NumsA.both hr;have W:=List.getElem?_eq_getElem (show fieldsN kk<fs.length by omega);have B:=List.getElem_mem (show fieldsN kk<fs.length by omega);generalize fs[fieldsN kk]=F at W B;have g:fs.getLast?=some F:=by rw[List.getLast?_eq_getElem?,show fs.length-1=fieldsN kk by omega];exact W
 have H:=hb F B;obtain⟨pz,rfl,J⟩:=BsS.at (BsS.le C s) W;have bz:0<=(fieldsN kk:Int)/\(fieldsN kk:Int)<(n:Int):=by omega
 have u:h1.get.cell? (pz.add ((fieldsN kk:Int).toNat*1))=some (.string (str F)):=J;refine gZ ?_;refine Qv u ?_;refine t_gr (c3773b F (by omega)) ?_;rintro r h2 D ⟨q2,d2,q,b2,gs,rfl,sg,⟨a0,e0⟩,k⟩;refine gZ ?_;refine t_gr (c3756 sg a0 e0) ?_;intro r h3 E hr;obtain⟨G,d3,j,b3,rfl,A⟩:=NumsA.both hr;refine gZ ?_;have d:=LH.le_trans C (LH.le_trans D E);refine Ja (fun vs h'=>h3=h'/\vs=[.bool false,.int .i64 0,.int .i64 0,.int .i64 0,.slice none 0 0,.int .i64 0]/\b1=true/\b2=true/\b3=true) ?_ ?_
 ·refine Qt (fun o=>?_) (fun o=>?_)
  ·rcases w with⟨rfl,_⟩|⟨_,h0⟩
   ·cases o
   ·refine gZ ?_;rw[eventL_none1 h0];exact Qh ⟨d,rfl⟩
  ·refine Qt (fun q=>?_) (fun q=>?_)
   ·rcases k with⟨rfl,_⟩|⟨_,h0⟩
    ·cases q
    ·refine gZ ?_;rw[Hk g h0];exact Qh ⟨d,rfl⟩
   ·refine Qt (fun j=>?_) (fun j=>?_)
    ·rcases A with⟨rfl,_⟩|⟨_,h0⟩
     ·cases j
     ·rcases k with⟨_,h2⟩|⟨rfl,_⟩
      ·refine gZ ?_;rw[Hk g (h2.trans h0)];exact Qh ⟨d,rfl⟩
      ·cases q
    ·exact Qj ⟨rfl,rfl,by simpa using o,by simpa using q,by simpa using j⟩
 rintro vs _ ⟨rfl,rfl,rfl,rfl,rfl⟩;obtain⟨f,v,sI⟩ : ∃ f,numsL fs.dropLast=some f/\InS h1 q1 d1 o (ints f):=by
  rcases w with⟨_,x⟩|⟨e,_⟩
  ·exact x
  ·cases e
 have N:listL F=numsL gs:=by
  rcases k with⟨_,x⟩|⟨e,_⟩
  ·exact x
  ·cases e
 obtain⟨ms,P,Z⟩ : ∃ ms,numsL gs=some ms/\InS h3 G d3 j (ints ms):=by
  rcases A with⟨_,x⟩|⟨e,_⟩
  ·exact x
  ·cases e
 have hlen:f.length=fieldsN kk:=by have:=Z6 v;rw[List.length_dropLast]at this;omega
 have hd:d1=fieldsN kk:=by have:=sI.2.1;unfold ints at this;rw[List.length_map]at this;omega
 have l:=sI.le (LH.le_trans D E);rw[eventL_of g v (N.trans P)];have up:∀ {i y:Nat},f[i]?=some y->(ints f)[i]?=some (y:Int):=fun h=>by unfold ints;rw[List.getElem?_map,h];rfl
 have S:=List.getElem?_eq_getElem (show 0<f.length by omega);have U:=List.getElem?_eq_getElem (show 1<f.length by omega);obtain⟨qa,rfl,i0⟩:=l.at (up S);obtain⟨_,Q,i1⟩:=l.at (up U);cases Q;rw[Nat.mul_one]at i0 i1;have w0:(0:Int)<=0/\(0:Int)<(d1:Int):=by omega
 have w1:(0:Int)<=1/\(1:Int)<(d1:Int):=by omega
 refine yI (fun I=>?_) (fun I=>?_)
 ·have k4:kk=4:=by
   have:(kk:Int)=4:=by simpa using I
   omega
  subst k4;refine gZ ?_;obtain⟨a,b,rfl⟩ : ∃ a b,f=[a,b]:=by
   match f,hlen with
   | [a,b],_=>exact⟨a,b,rfl⟩
  exact Qh ⟨d,G,d3,j,rfl,Z⟩
 ·refine Qt (fun t=>?_) (fun t=>?_)
  ·have k6:kk=6:=by
    have:(kk:Int)=6:=by simpa using t
    omega
   subst k6;have M:f.length=3:=hlen;have V:=List.getElem?_eq_getElem (show 2<f.length by omega);obtain⟨_,R,i2⟩:=l.at (up V);cases R;rw[Nat.mul_one]at i2;have w2:(0:Int)<=2/\(2:Int)<(d1:Int):=by
    have:fieldsN 6=3:=rfl;omega
   refine gZ ?_;obtain⟨a,b,z,rfl⟩ : ∃ a b z,f=[a,b,z]:=by
    match f,M with
    | [a,b,z],_=>exact⟨a,b,z,rfl⟩
   exact Qh ⟨d,G,d3,j,rfl,Z⟩
  ·refine gZ ?_;have X:kk≠4/\kk≠6:=⟨(fun L=>by subst L;cases I),(fun L=>by subst L;cases t)⟩
   have ev:∃ a b,f=[a,b]/\numsOf kk f ms=some ⟨kk,a,b,ints ms,0⟩:=by
    match kk,Y,X,hlen with
    | 0,_,_,m|1,_,_,m|2,_,_,m|3,_,_,m|5,_,_,m =>
     match f,m with
     | [a,b],_=>exact⟨a,b,rfl,rfl⟩
    | 4,_,h,_=>exact absurd rfl h.1
    | 6,_,h,_=>exact absurd rfl h.2
   obtain⟨a,b,rfl,ee⟩:=ev;rw[ee];exact Qh ⟨d,G,d3,j,rfl,Z⟩
theorem EventA.both{o:Option Ev}(a:EventA o r h):∃ (e:Ev) (q:Option Addr) (m c:Nat) (b:Bool),r=.tuple #[.agg #[.int .i64 e.kind,.int .i64 e.day,.int .i64 e.land,.slice q m c,.int .i64 e.since],.bool b]/\InS h q m c e.items/\((b=true/\o=some e)\/(b=false/\o=none)):=by
 cases o with
 | none=>exact⟨⟨0,0,0,[],0⟩,none,0,0,false,a,InS.nil,.inr ⟨rfl,rfl⟩⟩
 | some e =>
  obtain⟨q,m,c,rfl,s⟩:=a;exact⟨e,q,m,c,true,rfl,s,.inl ⟨rfl,rfl⟩⟩
theorem growT{hB h':LH}{l:List Ev}(g:Growing (EventEnc hB.get) 120 5 hB.get h'.get p n c l)(a:hB.le h')(b:l.length<=2^20):n<=c/\Sl EventE 5 h'.get p n l:=by
 obtain⟨ws,o,_⟩:=g.row;have:=g.count EventEnc.len (by omega);exact⟨o.le_cap,g.sl EventEnc.len (by omega) (EventEnc.e (Jj a.1)) (by omega)⟩
def LineTA(x:TF)(o:Option LT)(r:Value)(h:LH):Prop:=match o with
 | some y=>∃ f,r=.tuple #[treatyV f (y.put x),.bool true]/\TreatyR h.get f (y.put x)
 | none=>∃ f y,r=.tuple #[treatyV f y,.bool false]
theorem c3738{f:TC}(hu:TreatyR h.get f x)(few:x.events.length<=2^18)(l:Bs)(hl:l.length<=2^18)(first:Bool):Gr Tryz.prog 71 #[treatyV f x,.string (str l),.bool first] h fun r h'=>LineTA x (Tp.lineT first l) r h':=by
 refine w3738 Qr ?_;refine t_gr (c3731 l (by omega)) ?_;intro r h1 t hr;rw[<- line_refT];cases M:fieldsR l with
 | none =>
  rw[M]at hr;have hr:r=.tuple #[.string (str []),.slice none 0 0,.bool false]:=hr;subst hr;refine gZ ?_;refine Qs ?_;refine gZ ?_;refine Ja (fun vs h'=>False) ?_ (fun _ _ hf=>hf.elim);refine yT ?_;refine gZ ?_;exact Qh ⟨t,f,x,rfl⟩
 | some wf =>
 rw[M]at hr;obtain⟨p,n,c,rfl,s⟩:=hr;obtain⟨w,fs⟩:=wf;obtain⟨s0,Z⟩:=fieldsR_small M;have hn:=s.2.1;show T.wp _ _ _ _ _;simp only[Option.bind_some];refine gZ ?_;refine Qs ?_;refine gZ ?_;refine Ja (fun vs h'=>h1=h'/\vs=[.bool false,.int .i64 0,.int .i64 0,.int .i64 0,.int .i64 0,.int .i64 0,.int .i64 0,.slice none 0 0]/\decide (w=wTreaty)=first) ?_ ?_
 ·refine yF ?_;refine Ga (b:=wTreaty) undS ?_;refine yI (fun e=>?_) (fun e=>?_)
  ·refine gZ ?_;have hg:lineG first w fs=none:=by
    unfold lineG;rw[if_pos];intro N;rw[N]at e;simp at e
   rw[hg];exact Qh ⟨t,f,x,rfl⟩
  ·refine Qj ⟨rfl,rfl,?_⟩;cases hd:decide (w=wTreaty)<;>cases first<;>first|rfl|(rw[hd]at e;cases e)
 rintro vs _ ⟨rfl,rfl,j0⟩;refine gZ ?_;cases first with
 | true =>
  refine yT ?_;have H:lineG true w fs=match numsL fs with|some [a,b,c,d,e,f]=>some (.head a b c d e f)|_=>none:=by
   unfold lineG;rw[j0];rfl
  refine t_gr (c3756 s (show fs.length<=2^20 by omega) (fun y hy=>by have:=Z y hy;omega)) ?_;intro r h2 o hr;obtain⟨q,d,e,b,rfl,D⟩:=NumsA.both hr;have u:=LH.le_trans t o;refine gZ ?_;have bad:(∀ C,numsL fs=some C->C.length≠6)->lineG true w fs=none:=fun hb=>by
   rw[H];cases z:numsL fs with
   | none=>rfl
   | some C =>
    match C,hb C z with
    | [],_ | [_],_ | [_,_],_ | [_,_,_],_ | [_,_,_,_],_ | [_,_,_,_,_],_|_::_::_::_::_::_::_::_,_=>rfl
    | [_,_,_,_,_,_],h=>exact absurd rfl h
  refine Ja (fun vs h'=>h2=h'/\vs=[.bool false,.int .i64 0,.int .i64 0,.int .i64 0,.int .i64 0,.int .i64 0,.int .i64 0,.slice none 0 0]/\b=true/\d=6) ?_ ?_
  ·refine Qt (fun eb=>?_) (fun eb=>?_)
   ·rcases D with⟨rfl,_⟩|⟨_,h0⟩
    ·cases eb
    ·refine gZ ?_;rw[bad (fun C z=>by rw[h0]at z;cases z)];exact Qh ⟨u,f,x,rfl⟩
   ·rcases D with⟨_,C,z,I⟩|⟨rfl,_⟩
    ·have hd:d=C.length:=by have:=I.2.1;unfold ints at this;rw[List.length_map]at this;omega
     refine Qt (fun e6=>?_) (fun e6=>?_)
     ·refine gZ ?_;rw[bad (fun y0 J=>by rw[z]at J;cases J;intro h6;rw[hd,h6]at e6;simp at e6)];exact Qh ⟨u,f,x,rfl⟩
     ·exact Qj ⟨rfl,rfl,by simpa using eb,by
       have:(d:Int)=6:=by simpa using e6
       omega⟩
    ·cases eb
  rintro vs _ ⟨rfl,rfl,rfl,rfl⟩;obtain⟨C,z,I⟩ : ∃ C,numsL fs=some C/\InS h2 q 6 e (ints C):=by
   rcases D with⟨_,y⟩|⟨e,_⟩
   ·exact y
   ·cases e
  obtain⟨R,S,U,V,W,X,rfl⟩ : ∃ R S U V W X,C=[R,S,U,V,W,X]:=by
   have:C.length=6:=by have:=I.2.1;unfold ints at this;rw[List.length_map]at this;omega
   match C,this with
   | [R,S,U,V,W,X],_=>exact⟨R,S,U,V,W,X,rfl⟩
  rw[H,z];obtain⟨qa,rfl,i0⟩:=I.at (i:=0) (x:=(R:Int)) rfl;obtain⟨_,m0,i1⟩:=I.at (i:=1) (x:=(S:Int)) rfl;obtain⟨_,n0,i2⟩:=I.at (i:=2) (x:=(U:Int)) rfl;obtain⟨_,o0,i3⟩:=I.at (i:=3) (x:=(V:Int)) rfl;obtain⟨_,p0,i4⟩:=I.at (i:=4) (x:=(W:Int)) rfl;obtain⟨_,q0,i5⟩:=I.at (i:=5) (x:=(X:Int)) rfl;cases m0;cases n0;cases o0;cases p0;cases q0;rw[Nat.mul_one]at i0 i1 i2 i3 i4 i5;have b0:(0:Int)<=0/\(0:Int)<((6:Nat):Int):=by omega
  have b1:(0:Int)<=1/\(1:Int)<((6:Nat):Int):=by omega
  have b2:(0:Int)<=2/\(2:Int)<((6:Nat):Int):=by omega
  have b3:(0:Int)<=3/\(3:Int)<((6:Nat):Int):=by omega
  have b4:(0:Int)<=4/\(4:Int)<((6:Nat):Int):=by omega
  have b5:(0:Int)<=5/\(5:Int)<((6:Nat):Int):=by omega
  refine gZ ?_;exact Qh ⟨u,⟨none,0,0⟩,rfl,Nat.le_refl _,rfl,(by show (0:Nat)<4611686018427387904;decide),fun i x hx=>by cases hx⟩
 | false =>
  refine yF ?_;have H:lineG false w fs=(findB w wordsT).bind fun k=>(eventL k fs).map .event:=by
   unfold lineG;rw[j0];rfl
  refine t_gr c3735 ?_;rintro _ h2 o ⟨aw,rfl,_,sw⟩;refine gZ ?_;refine t_pu (c3141 sw w) ?_;rw[find_at];have u:=LH.le_trans t o;cases L:findB w wordsT with
  | none =>
   rw[L]at H;rw[H];refine gZ ?_;refine t_if (fun _=>?_) (fun e=>absurd (show (-1:Int)<0 by decide) e);exact Qh ⟨u,f,x,rfl⟩
  | some kk =>
  have k7:kk<7:=Yr L;rw[L]at H;have H:lineG false w fs=(eventL kk fs).map .event:=H;rw[H];simp only[Nat.zero_add];refine gZ ?_;refine t_if (fun e=>absurd e (by omega)) (fun _=>?_);refine t_gr (c3764 k7 (BsS.le o s) (show fs.length<=2^19 by omega) (fun y hy=>by have:=Z y hy;omega)) ?_;intro r hB B hr;obtain⟨ev,q,m,Q,b,rfl,sE,hb⟩:=EventA.both hr;have k0:=LH.le_trans u B;refine gZ ?_;have G:=hu.le k0.1;have u0:=G.2.1;have enc:EventEnc hB.get ev [.int .i64 ev.kind,.int .i64 ev.day,.int .i64 ev.land,.slice q m Q,.int .i64 ev.since]:=⟨q,m,Q,rfl,sE.1,sE.2⟩
  have F:∀ v∈[Value.int .i64 ev.kind,.int .i64 ev.day,.int .i64 ev.land,.slice q m Q,.int .i64 ev.since],isOne v=true:=by
   intro v hv;simp only[List.mem_cons,List.not_mem_nil,or_false]at hv;rcases hv with rfl|rfl|rfl|rfl|rfl<;>rfl
  have fin:∀ {K:Option Addr} {n' c':Nat} {h':LH},hB.le h'->Growing (EventEnc hB.get) 120 5 hB.get h'.get K n' c' (x.events++[ev])->h.le h'/\LineTA x ((eventL kk fs).map .event) (.tuple #[.agg #[.int .i64 x.items,.int .i64 x.lands,.int .i64 x.start,.int .i64 x.depend,.int .i64 x.refuse,.int .i64 x.turn,.slice K n' c'],.bool b]) h':=fun {K n' c' h'} le g=>by
   refine⟨LH.le_trans k0 le,?_⟩;rcases hb with⟨rfl,he⟩|⟨rfl,he⟩
   ·rw[he];exact⟨⟨K,n',c'⟩,rfl,growT g le (by show (x.events++[ev]).length<=2^20;rw[List.length_append];simp only[List.length_singleton];omega)⟩
   ·rw[he];exact⟨⟨K,n',c'⟩,x,rfl⟩
  refine Zr ?_ ?_
  ·refine t_build0G (h₀:=hB) (Enc:=EventEnc hB.get) Tre.undEvs Tre.infEv (LH.le_refl _) fun r0 l0 P t g1=>?_;refine gZ ?_;refine Zr ?_ ?_
   ·refine t_copy (h₀:=hB) rfl rfl Tre.undEvs Tre.undEvs Tre.infEv rfl (by omega) (by omega) g1 t (EventB.of (Jj t.1) G.2) Uy fun p2 c2 e0 o _ g2=>?_;refine gZ ?_;refine Yj Tre.undEvs Tre.infEv (by decide) (by decide) (cells:=#[.int .i64 ev.kind,.int .i64 ev.day,.int .i64 ev.land,.slice q m Q,.int .i64 ev.since]) (by kernel_rfl) fun r g0 B x0 Y=>?_;refine gZ ?_;refine U1 (h:=hB) Tre.undEvs Tre.infEv rfl (by omega) (by omega) (g2.le B.1) (LH.le_trans o B) enc rfl F Y (fun j w hj=>by simpa using hj) fun K c' h' E g'=>?_;refine gZ ?_;exact Qh (fin E g')
   ·refine Yj Tre.undEvs Tre.infEv (by decide) (by decide) (cells:=#[.int .i64 ev.kind,.int .i64 ev.day,.int .i64 ev.land,.slice q m Q,.int .i64 ev.since]) (by kernel_rfl) fun r e0 o D e2=>?_;refine gZ ?_;have A:=LH.le_trans t o;refine t_copy (h₀:=hB) rfl rfl Tre.undEvs Tre.undEvs Tre.infEv rfl (by omega) (by omega) (g1.le o.1) A (EventB.of (Jj A.1) G.2) Uy fun p3 c3 g0 B kp g3=>?_;refine gZ ?_;have O:r≠r0:=by
     rintro rfl;obtain⟨vs,⟨_,N⟩,_⟩:=g1.row;rcases N with⟨N,_⟩|⟨r',cs,N,h5,_⟩
     ·cases N
     ·cases N;rw[D]at h5;cases h5
    have Y:=kp r _ (fun a ha e=>by cases ha;exact O e.symm) e2;refine U1 (h:=hB) Tre.undEvs Tre.infEv rfl (by omega) (by omega) g3 B enc rfl F Y (fun j w hj=>by simpa using hj) fun K c' h' E g'=>?_;refine gZ ?_;exact Qh (fin E g')
  ·refine Yj Tre.undEvs Tre.infEv (by decide) (by decide) (cells:=#[.int .i64 ev.kind,.int .i64 ev.day,.int .i64 ev.land,.slice q m Q,.int .i64 ev.since]) (by kernel_rfl) fun r l0 t w0 e1=>?_;refine gZ ?_;refine t_build0G (h₀:=hB) (Enc:=EventEnc hB.get) Tre.undEvs Tre.infEv t fun r0 e0 P o g2=>?_;refine gZ ?_;have A:=LH.le_trans t o;refine t_copy (h₀:=hB) rfl rfl Tre.undEvs Tre.undEvs Tre.infEv rfl (by omega) (by omega) g2 A (EventB.of (Jj A.1) G.2) Uy fun p3 c3 g0 B kp g3=>?_;refine gZ ?_;have O:r≠r0:=by rintro rfl;rw[e1]at P;cases P
   have Y:=kp r _ (fun a ha e=>by cases ha;exact O e.symm) (o.1 _ _ e1);refine U1 (h:=hB) Tre.undEvs Tre.infEv rfl (by omega) (by omega) g3 B enc rfl F Y (fun j w hj=>by simpa using hj) fun K c' h' E g'=>?_;refine gZ ?_;exact Qh (fin E g')
theorem put_few{y:LT}(h:x.events.length<=i):(y.put x).events.length<=i+1:=by
 cases y with
 | head a b c d e f=>exact Nat.zero_le _
 | event e =>
  show (x.events++[e]).length<=i+1;rw[List.length_append];simp only[List.length_singleton];omega
theorem goT_some{b:Bs}{bs:List Bs}{z:LT}(h:Tp.lineT (i==0) b=some z):goT i x (b::bs)=goT (i+1) (z.put x) bs:=by
 show (match Tp.lineT (i==0) b with|none=>(x,some (i+1))|some y=>goT (i+1) (y.put x) bs)=_;rw[h]
theorem goT_none{b:Bs}{bs:List Bs}(h:Tp.lineT (i==0) b=none):goT i x (b::bs)=(x,some (i+1)):=by
 show (match Tp.lineT (i==0) b with|none=>(x,some (i+1))|some y=>goT (i+1) (y.put x) bs)=_;rw[h]
theorem c3712(t:Bs):Gr Tryz.prog 19 #[.string (str t)] h fun r h'=>ParseTA (parseT t) r h':=by
 refine w3712 Qr ?_;refine Q8 undS ?_;refine yJ (fun e=>?_) (fun e=>?_)
 ·have:parseT t=(noTreaty,0,2):=by unfold parseT;rw[if_pos (by omega)]
  rw[this];exact Qh ⟨LH.le_refl _,ParseTA.zero (n:=0)⟩
 have E:¬ 60000<t.length:=by omega
 refine t_gr (c3730 t (by omega)) ?_;rintro _ h1 M ⟨p,n,k,rfl,s⟩;have O:=s.2.1;have C:=lines_few t;have F:=fun x (I:x∈linesL t)=>lines_small I;have j:=fun {u n}=>@parseT_wrong t E u n;have g:=fun {u}=>@Hb t E u;generalize linesL t=L at s O C F j g;refine gZ ?_;refine Jl (fun P vs h'=>h.le h'/\h1.le h'/\∃ (i:Nat) (f:TC) (x:TF),vs=[.int .i64 0,.int .i64 0,.int .i64 i,.int .i64 0,.int .i64 0,.int .i64 0,.int .i64 0,.int .i64 0,.int .i64 0,.slice none 0 0,.int .i64 x.items,.int .i64 x.lands,.int .i64 x.start,.int .i64 x.depend,.int .i64 x.refuse,.int .i64 x.turn,.slice f.p f.n f.c]/\i<=n/\P=n-i/\TreatyR h'.get f x/\x.events.length<=i/\goT i x (L.drop i)=goT 0 noTreaty L)
  (fun vs h'=>h.le h'/\∃ (a:Int) (f:TC) (x:TF),vs=[.int .i64 0,.int .i64 0,.int .i64 a,.int .i64 0,.int .i64 0,.int .i64 0,.int .i64 0,.int .i64 0,.int .i64 0,.slice none 0 0,.int .i64 x.items,.int .i64 x.lands,.int .i64 x.start,.int .i64 x.depend,.int .i64 x.refuse,.int .i64 x.turn,.slice f.p f.n f.c]/\TreatyR h'.get f x/\goT 0 noTreaty L=(x,none))
  ⟨M,LH.le_refl _,0,⟨none,0,0⟩,noTreaty,rfl,Nat.zero_le _,rfl,zero_R,Nat.le_refl _,rfl⟩ ?_ ?_
 ·rintro Y P vs h2 U ⟨l,q,i,f,x,rfl,Z,rfl,hu,few,hgo⟩;refine yJ (fun Q=>?_) (fun Q=>?_)
  ·have I:=List.getElem?_eq_getElem (show i<L.length by omega);have N:=List.drop_eq_getElem_cons (show i<L.length by omega);have G:=List.getElem_mem (show i<L.length by omega);generalize L[i]=b at I N G;have X:=F b G;rw[N]at hgo;obtain⟨a,rfl,R⟩:=(BsS.le q s).at I;have W:0<=(i:Int)/\(i:Int)<(n:Int):=by omega
   have w1:wrap .i64 ((i:Int)+1)=((i+1:Nat):Int):=by rw[Qm (by omega) (by omega)];rfl
   have B:h2.get.cell? (a.add ((i:Int).toNat*1))=some (.string (str b)):=R;have S:((i:Int)==0)=(i==0):=by
    by_cases h:i=0
    ·subst h;rfl
    ·have h3:(i==0)=false:=by simpa using h
     rw[h3];simp;omega
   refine Ja (fun vs h'=>∃ (d:TC) (y:TF) (ok:Bool),vs=[.bool ok,.int .i64 y.items,.int .i64 y.lands,.int .i64 y.start,.int .i64 y.depend,.int .i64 y.refuse,.int .i64 y.turn,.slice d.p d.n d.c]/\h2.le h'/\((ok=true/\∃ z,Tp.lineT (i==0) b=some z/\y=z.put x/\TreatyR h'.get d y)\/(ok=false/\Tp.lineT (i==0) b=none))) ?_ ?_
   ·have both:∀ {r:Value} {h':LH},LineTA x (Tp.lineT (i==0) b) r h'->∃ (d:TC) (y:TF) (ok:Bool),r=.tuple #[treatyV d y,.bool ok]/\((ok=true/\∃ z,Tp.lineT (i==0) b=some z/\y=z.put x/\TreatyR h'.get d y)\/(ok=false/\Tp.lineT (i==0) b=none)):=by
     intro r h' H;cases A:Tp.lineT (i==0) b with
     | none =>
      rw[A]at H;obtain⟨d,y,rfl⟩:=H;exact⟨d,y,false,rfl,.inr ⟨rfl,rfl⟩⟩
     | some z =>
      rw[A]at H;obtain⟨d,rfl,J⟩:=H;exact⟨d,_,true,rfl,.inl ⟨rfl,z,rfl,rfl,J⟩⟩
    refine gZ ?_;refine Qv B ?_;rw[S];refine Zr ?_ ?_
    ·refine t_gr (c3738 hu (by omega) b (by omega) (i==0)) ?_;rintro r h3 w hr;obtain⟨d,y,ok,rfl,m⟩:=both hr;unfold treatyV;refine gZ ?_;exact Qj ⟨d,y,ok,rfl,w,m⟩
    ·refine gZ ?_;refine Qv B ?_;refine gZ ?_;refine t_gr (c3738 hu (by omega) b (by omega) (i==0)) ?_;rintro r h3 w hr;obtain⟨d,y,ok,rfl,m⟩:=both hr;unfold treatyV;refine gZ ?_;exact Qj ⟨d,y,ok,rfl,w,m⟩
   rintro vs h3 ⟨d,y,ok,rfl,v,m⟩;have o:=LH.le_trans l v;refine gZ ?_;rcases m with⟨rfl,z,A,rfl,J⟩|⟨rfl,A⟩
   ·refine yF ?_;rw[w1];refine Qj (U (n-(i+1)) _ _ (by omega) ⟨o,LH.le_trans q v,i+1,d,z.put x,rfl,by omega,rfl,J,put_few few,?_⟩);exact(goT_some A).symm.trans hgo
   ·refine yT ?_;refine gZ ?_;have V:goT 0 noTreaty L=(x,some (i+1)):=hgo.symm.trans (goT_none A);rw[j V,w1];exact Qh ⟨o,ParseTA.zero⟩
  ·have K:i=L.length:=by omega
   rw[K,List.drop_length]at hgo;exact gH ⟨l,_,f,x,rfl,hu,hgo.symm⟩
 rintro vs h2 ⟨l,a,f,x,rfl,hu,hgo⟩;refine gZ ?_;rw[g hgo];refine Qt (fun e=>?_) (fun e=>?_)
 ·have D:n=0:=by
   have:(n:Int)=0:=by simpa using e
   omega
  rw[if_pos (List.length_eq_zero_iff.1 (by omega))];exact Qh ⟨l,ParseTA.zero (n:=0)⟩
 ·have D:L≠[]:=by rintro rfl;have:n=0:=O;subst this;cases e
  rw[if_neg D];refine t_pu (Tre.c2022 hu) ?_;refine yI (fun e=>?_) (fun e=>?_)
  ·rw[if_pos (by simpa using e)];exact Qh ⟨l,ParseTA.zero (n:=0)⟩
  ·rw[if_neg (by simpa using e)];exact Qh ⟨l,f,rfl,hu⟩
end Go.Y.Txt
end
section
namespace Go.Y.Txt
open Go.TM.Tp Go.TM.Tr
attribute [local irreducible] T.wp CV FWK
set_option maxRecDepth 100000
theorem c3702{h:LH}(b:h.chans=[])(c:h.pend=[])(i:Tre.Kinds h.get)(hw:KWords h.get)(z:PowT 5 h.get)(t:Bs){f:TC}{x:TF}(hu:TreatyR h.get f x):FW XT Tryz.prog 5 #[.string (str t),treatyV f x] h FinT:=by
 refine w3702 Gh ?_;refine Ja (fun vs h'=>vs=[.bool false]/\h=h') ?_ ?_
 ·refine t_pu (Tre.c2016 hu) ?_;refine yI (fun _=>?_) (fun y=>?_)
  ·refine Ye b c i (LH.le_refl _) fun h' d=>?_;refine gI ?_;refine gZ ?_;exact Qh ⟨rfl,d⟩
  refine Q8 undS ?_;refine yJ (fun _=>?_) (fun _=>?_)
  ·refine Ye b c i (LH.le_refl _) fun h' d=>?_;refine gI ?_;refine gZ ?_;exact Qh ⟨rfl,d⟩
  ·exact Qj ⟨rfl,rfl⟩
 rintro vs _ ⟨rfl,rfl⟩;refine gZ ?_;refine t_gr (c3709 i hw z hu) ?_;rintro _ h1 l rfl;obtain⟨s,q,v⟩ : ∃ s q,printV (printT x)=.tuple #[.string (str s),.int .i64 q]:=⟨_,_,rfl⟩
 rw[v];refine gZ ?_;refine Qs ?_;refine gZ ?_;refine t_gr (c3710 (⟨hu.1,hu.2.le EventE.grow l.1⟩ : TreatyR h1.get f x)) ?_;rintro _ h2 o rfl;rw[v];refine gZ ?_;refine Qs ?_;refine gZ ?_;have a:=LH.le_trans l o;refine Ja (fun vs h'=>vs=[.bool false]/\h2=h') ?_ ?_
 ·refine t_neB undS ?_;refine gZ ?_;refine Qt (fun e=>by simp at e) (fun _=>?_);refine Qt (fun e=>by simp at e) (fun _=>?_);exact Qj ⟨rfl,rfl⟩
 rintro vs _ ⟨rfl,rfl⟩;refine gZ ?_;refine Jp (c3711 (i.le a.1) (hw.le a.1) t) ?_;rintro r h3 ⟨p,hr⟩;obtain⟨g,rfl,u⟩:=hr;have j:=LH.le_trans a p;unfold treatyV;refine gZ ?_;refine t_gr (c3712 t) ?_;rintro r w m hr;obtain⟨A,rfl,n⟩:=hr;have k:=LH.le_trans j m;unfold treatyV;refine gZ ?_;refine t_pu (c3713 (⟨u.1,u.2.le EventE.grow m.1⟩ : TreatyR w.get g _) n) ?_;refine yT ?_;refine Qt (fun _=>?_) (fun e=>by simp at e);refine Qt (fun _=>?_) (fun e=>by simp at e);exact Ye b c i k fun h' d=>Qh ⟨rfl,d⟩
end Go.Y.Txt
end
section
namespace Go.Proofs.YtpkjbclajflhbaaGreatDoor
open Go.Y Go.Y.Tre
open Go.Y.Tre Go.ChangeShapes Go.WideShapes Go.RowKit
set_option maxRecDepth 100000
def doorW(os:Os):World :=
 { World.doorLaid Tryz.prog 200 os with heap:=(World.doorLaid Tryz.prog 200 os).heap.modify 8 fun o=>match o with
  | .cells _ t fz=>.cells (Go.Pinned.utf8FirstZ.map fun z:Nat=>Value.int .u8 (z:Int)).toArray t fz
  | o=>o }
theorem door_met(os:Os)(args:Array Value):laidMetH Tryz.prog Rows.treatyTextsRow.laid ((doorW os).forCall (fun _ _=>0) ⟨#[],args,[]⟩).memory :=
 laidMetH_of_parts3 (fuel:=8) (laidMet_of_run' 8 (by kernel_rfl) (by kernel_rfl)) (by kernel_rfl) (by kernel_rfl)
theorem door_shaped(os:Os)(args:Array Value):((doorW os).forCall (fun _ _=>0) ⟨#[],args,[]⟩).Shaped Tryz.prog :=
 World.shaped_of_RefB (by kernel_rfl) (by kernel_rfl)
theorem treatyTexts_lifted(os:Os)(started:os.Started)(H:Type)(enc:TypeId×Value->H) :
  ReturnsInLeavingWide {} Tryz.checked os 5 .any (fun w args=>(Rows.treatyTextsSpec.pre enc Tryz.prog Tryz.f5 [] false w args/\laidMetH Tryz.prog Rows.treatyTextsRow.laid w)/\sizedMet enc Tryz.prog Tryz.f5 (OpenSpec.ofChange Rows.treatyTextsSpec) false w args)
   (Rows.treatyTextsSpec.post enc Tryz.prog Tryz.f5 false true false false):=by
 refine row_leaving (C:=Tryz.checked) (tb:=4) own started Tryz.func5 (by kernel_rfl) rfl lo ?_ (by kernel_rfl) Tryz.underlying4 ?_
  (ChangeSpec.witness_shaped (enc:=enc) (C:=Tryz.checked) (os:=os) (X:=fun w _=>laidMetH Tryz.prog Rows.treatyTextsRow.laid w) false (doorW os) #[.string ⟨#[]⟩,noTreaty] 8 rfl (door_shaped os _) (by kernel_rfl) (by kernel_rfl) (by kernel_rfl) (door_met os _)) ?_
 ·exact fun t n=>of_decide_eq_true (List.all_eq_true.1 (show (Tryz.f5.params.toList.all fun t=>decide (Tryz.prog.readableRec t=true/\t<Tryz.prog.types.size))=true by kernel_rfl) t n)
 ·intro ds m
  match ds,(show ds.length=2 from m) with
  | [d0,d1],_=>rfl
 ·intro W base args ds ps b c g e;have a:∀ (j:Nat) t v,Tryz.f5.params[j]?=some t->args[j]?=some v->Value.okWide Tryz.prog W .any base t v:=b;have l:∀ (j:Nat) t d,Tryz.f5.params.toList[j]?=some t->ds[j]?=some d->Light Tryz.prog t d:=g;have i:DataW.TrodAll enc Tryz.prog W 0 (fun _=>true) true Tryz.f5.params.toList args.toList ds ps:=c;rw[Tryz.params5]at a l i;obtain⟨v0,v1,d0,d1,o,p,rfl,rfl,rfl,h0,h1⟩:=trodAll2 i;obtain⟨t0,rfl⟩:=str_arg (a 0 9 v0 rfl rfl);obtain⟨f1,q,rfl,f⟩:=treaty_arg TT (a 1 38 v1 rfl rfl) (l 1 38 d1 rfl rfl) h1;exact FW.mono (Txt.c3702 (h:=⟨getW W,[],[],[]⟩) rfl rfl (kinds_of_laid e (by repeat first|exact List.Mem.head _|apply List.Mem.tail) (by repeat first|exact List.Mem.head _|apply List.Mem.tail)) (words_of_laid e (by repeat first|exact List.Mem.head _|apply List.Mem.tail)) (pow_of_laid e (by repeat first|exact List.Mem.head _|apply List.Mem.tail)) t0 f) fun r h' k=>⟨k.1,k.2.2.1⟩
set_option maxHeartbeats 0 in
theorem treatyTexts_closed:joinedFacts Tryz.prog 5 Tryz.f5 Rows.treatyTextsSpec Rows.treatyTextsRow=true:=by
 unfold joinedFacts;simp only[Bool.and_eq_true]
 and_intros
 all_goals (as_aux_lemma=>kernel_rfl)
theorem treatyTexts_named:Tryz.prog.funcNamed Rows.treatyTextsRow.func=some 5:=by kernel_rfl
theorem treatyTexts_row:Rows.TreatyTextsSaid :=
 OpenClaim.holds_of_wide_leaving 5 Tryz.f5 rfl rfl rfl rfl rfl rfl rfl ⟨rfl,rfl,rfl,rfl,rfl⟩ rfl rfl rfl rfl rfl treatyTexts_named Tryz.func5 treatyTexts_closed
  (of_decide_eq_true (by kernel_rfl)) (by unfold Func.isWrapper;first|(rw[if_pos (by decide +kernel)];kernel_rfl)|(rw[if_neg (by decide +kernel)];exact⟨rfl,rfl⟩))
  (fun os started H enc _=>treatyTexts_lifted os started H enc)
theorem treatyTexts_holds:Rows.TreatyTextsCardSaid :=
 card_goes [.data,.data,.data,.data,.sentinel,.sentinel,.data,.funcsDeep,.pinned] true Rows.treatyTextsCard.stood.harness Rows.treatyTextsCard.stood.looks treatyTexts_row (by kernel_rfl) treatyTexts_row_tie rfl ⟨rfl,rfl⟩ (by kernel_rfl) rfl
  (fun f fn b a=>by
   obtain rfl:f=5:=Option.some.inj (treatyTexts_named.symm.trans b) |>.symm;obtain rfl:fn=Tryz.f5:=(Option.some.inj (Tryz.func5.symm.trans a)).symm;exact⟨by kernel_rfl,fun j t c=>by
    have hm:=Array.mem_of_getElem? c;have:=of_decide_eq_true (List.all_eq_true.1 (show (Tryz.f5.params.toList.all fun t=>decide (Tryz.prog.wantsStandIn t=false))=true by kernel_rfl) t (Array.mem_toList_iff.2 hm));exact this⟩)
  (by kernel_rfl)
end Go.Proofs.YtpkjbclajflhbaaGreatDoor
end
#print axioms Go.Proofs.YtpkjbclajflhbaaGreatDoor.treatyTexts_holds

/- For every file, dates, land, paper and request, any two applications and any item the law UseBars returns true: one more paper never lifts a bar, one more request never adds one. The tied card; no further condition. -/
import Derived.Test.YtjlalnifmgppdaaGreatDoorM6
set_option linter.all false
noncomputable section
open Go Go.Conc Go.TM Go.Proofs
set_option maxRecDepth 100000
open Go.IntKind (wrap)
section
namespace Go.TM
variable {P:Program} {E:Halt->Cells->Prop} {h:Cells}
theorem lwp_equalIn2{Q:Bool->Cells->Prop}{t:TypeId}{k:Nat}{a b c d:Int}(ht:twoInts P t=true)(hq:Q (decide (a=c/\b=d)) h):Sem.lwp P (Op.equalIn (k+1+1) t (.agg #[a,b]) (.agg #[c,d])) Q E h:=by
 obtain⟨f,g,hu,n1,n2,i1,i2,o1,o2,hs⟩:=twoInts_spec ht;rw[Op.equalIn];rw[lwp_bind,lwp_underlying hu];simp only[lwp_bind,lwp_program,hs,Bool.false_eq_true,if_false,List.forIn_toArray,List.forIn_cons,List.forIn_nil,n1,n2,ne_eq,not_false_eq_true,if_true];refine lwp_partI i1 (v:=.int .i64 a) (by rw[o1];rfl) ?_;refine lwp_partI i1 (v:=.int .i64 c) (by rw[o1];rfl) ?_;refine lwp_equalI i1 ?_;by_cases e1:a=c
 ·subst e1;simp only[beq_self_eq_true,Bool.not_true,Bool.false_eq_true,if_false,lwp_pure,lwp_bind];refine lwp_partI i2 (v:=.int .i64 b) (by rw[o2];rfl) ?_;refine lwp_partI i2 (v:=.int .i64 d) (by rw[o2];rfl) ?_;refine lwp_equalI i2 ?_;by_cases e2:b=d
  ·subst e2;simpa[lwp_pure] using hq
  ·have e3:(b==d)=false:=by simpa using e2
   simpa[lwp_pure,e2,e3] using hq
 ·have e3:(a==c)=false:=by simpa using e1
  simpa[lwp_pure,e1,e3] using hq
def twoAndTwo(P:Program)(t:TypeId):Bool:=match P.underlying t with
 | some (.struct fs)=>(match fs.toList with
  | [a, b, w] => a.name != "_" && b.name != "_" && w.name != "_" && isI64 P a.type && isI64 P b.type && twoInts P w.type && Nat.beq a.offset 0 && Nat.beq b.offset 1 && Nat.beq w.offset 2 && (match P.info? w.type with | some i => Nat.beq i.size 2 | none => false)
  | _=>false)&&!P.stoodInHeld t
 | _=>false
theorem twoInts_agg{t:TypeId}(ht:twoInts P t=true):isAggT P t=true:=by
 obtain⟨f,g,hu,_⟩:=twoInts_spec ht;unfold isAggT;rw[hu]
theorem lwp_part2{Q:Value->Cells->Prop}{t:TypeId}{cs:Array Value}{o:Nat}{i:TypeInfo}(ht:twoInts P t=true)(hi:P.info? t=some i)(hs:i.size=2)(hq:Q (.agg (cs.extract o (o+2))) h):Sem.lwp P (part t cs o) Q E h:=by
 unfold part;rw[lwp_bind,lwp_isAgg_true (twoInts_agg ht)];simp only[if_true,lwp_bind,lwp_sizeOf hi,hs,lwp_pure];exact hq
theorem lwp_equal4{Q:Bool->Cells->Prop}{t:TypeId}{a b c d a' b' c' d':Int}(ht:twoAndTwo P t=true)(hq:Q (decide (a=a'/\b=b'/\c=c'/\d=d')) h):Sem.lwp P (Op.equal t (.agg #[a,b,c,d]) (.agg #[a',b',c',d'])) Q E h:=by
 unfold twoAndTwo at ht;split at ht
 next fs hu =>
  simp only[Bool.and_eq_true,Bool.not_eq_true']at ht;obtain⟨h1,hs⟩:=ht;split at h1
  next x y w hfs =>
   simp only[Bool.and_eq_true,bne_iff_ne]at h1;obtain⟨⟨⟨⟨⟨⟨⟨⟨⟨n1,n2⟩,n3⟩,i1⟩,i2⟩,i3⟩,o1⟩,o2⟩,o3⟩,sz⟩:=h1;have hfs':fs=#[x,y,w]:=by rw[<- hfs]
   subst hfs';have o1:=nbeq_true o1;have o2:=nbeq_true o2;have o3:=nbeq_true o3;cases hi:P.info? w.type with
   | none=>rw[hi]at sz;cases sz
   | some inf =>
    rw[hi]at sz;have sz:=nbeq_true sz;unfold Op.equal;have hmd:Op.maxDepth=9997+1+1+1:=rfl;rw[hmd,Op.equalIn];rw[lwp_bind,lwp_underlying hu];simp only[lwp_bind,lwp_program,hs,Bool.false_eq_true,if_false,List.forIn_toArray,List.forIn_cons,List.forIn_nil,n1,n2,n3,ne_eq,not_false_eq_true,if_true];refine lwp_partI i1 (v:=.int .i64 a) (by rw[o1];rfl) ?_;refine lwp_partI i1 (v:=.int .i64 a') (by rw[o1];rfl) ?_;refine lwp_equalI i1 ?_;by_cases e1:a=a'
    ·subst e1;simp only[beq_self_eq_true,Bool.not_true,Bool.false_eq_true,if_false,lwp_pure,lwp_bind];refine lwp_partI i2 (v:=.int .i64 b) (by rw[o2];rfl) ?_;refine lwp_partI i2 (v:=.int .i64 b') (by rw[o2];rfl) ?_;refine lwp_equalI i2 ?_;by_cases e2:b=b'
     ·subst e2;simp only[beq_self_eq_true,Bool.not_true,Bool.false_eq_true,if_false,lwp_pure,lwp_bind];refine lwp_part2 i3 hi sz ?_;refine lwp_part2 i3 hi sz ?_;rw[o3];refine lwp_equalIn2 (a:=c) (b:=d) (c:=c') (d:=d') i3 ?_;by_cases e3:c=c'/\d=d'
      ·simpa[lwp_pure,e3] using hq
      ·simpa[lwp_pure,e3] using hq
     ·have e3:(b==b')=false:=by simpa using e2
      simpa[lwp_pure,e2,e3] using hq
    ·have e3:(a==a')=false:=by simpa using e1
     simpa[lwp_pure,e1,e3] using hq
  next=>cases h1
 next=>cases ht
variable {X:XP} {Q:Leaf->LH->Prop}
theorem t_ne4{h:LH}{K:Value->T}{t:TypeId}{x y:Operand}{a b c d a' b' c' d':Int}(ht:twoAndTwo P t=true)(hg:P.eqGuardType P.depth t=false)(hk:(K (.bool (!decide (a=a'/\b=b'/\c=c'/\d=d')))).wp X P Q h) :
  (T.sem false (Sem.bind (eqGuard .neq t x y (.agg #[a,b,c,d]) (.agg #[a',b',c',d'])) fun _=>binOp .neq t (.agg #[a,b,c,d]) (.agg #[a',b',c',d'])) K).wp X P Q h:=by
 refine t_sem (A:=fun w h'=>w=.bool (!decide (a=a'/\b=b'/\c=c'/\d=d'))/\h'=h.get) (Sem.lwp_bind _ _ ?_) (by rintro w h' ⟨rfl,rfl⟩;exact hk);unfold eqGuard;simp only[Bool.not_true,Bool.false_eq_true,if_false,lwp_bind,lwp_program,hg,Bool.not_false,if_true,lwp_pure];unfold binOp;rw[lwp_bind];exact lwp_equal4 ht ⟨rfl,rfl⟩
end Go.TM
end
namespace Go.Y
section
attribute [local irreducible] T.wp CV FWK
theorem two79:twoAndTwo Tryz.prog 80=true:=by kernel_rfl
theorem g79:Tryz.prog.eqGuardType Tryz.prog.depth 80=false:=by kernel_rfl
theorem c30{h:LH}{p q:Option Addr}{n c m d:Nat}{a b:List Lack}(ha:Sl LackE 4 h.get p n a)(hb:Sl LackE 4 h.get q m b):Pu Tryz.prog 27 #[.slice p n c,.slice q m d] h (.bool (decide (a=b))):=by
 refine w30 _ _ _ _ _ _ X0_ok ?_;unfold n30;have hn:=ha.1;have hm:=hb.1;have hbn:=ha.2.1;have hbm:=hb.2.1;refine t_cond (fun e=>?_) (fun e=>?_)
 ·have:a≠b:=by rintro rfl;simp at e;omega
  exact t_ret ⟨by simp[this],rfl⟩
 have hnm:n=m:=by simp at e;omega
 refine t_loop (fun mm vs h'=>h=h'/\∃ i:Nat,vs=[.bool false,.int .i64 i]/\i<=n/\mm=n-i/\a.take i=b.take i) ⟨rfl,0,rfl,Nat.zero_le _,rfl,rfl⟩ ?_;rintro Y mm vs _ hY ⟨rfl,i,rfl,hi,rfl,hc⟩;refine yJ (fun e=>?_) (fun e=>?_)
 ·obtain⟨x,a1,hx,ha1,e1,e2,e3,e4⟩:=ha.at (i:=i) (by omega);obtain⟨y,a2,hy,ha2,f1,f2,f3,f4⟩:=hb.at (i:=i) (by omega);refine gZ ?_;refine t_ne4 two79 g79 ?_;refine yI (fun b1=>?_) (fun b1=>?_)
  ·refine gZ ?_;have:a≠b:=by rintro rfl;rw[hx]at hy;cases hy;simp at b1
   exact t_ret ⟨by simp[this],rfl⟩
  ·have b2:x=y:=by
    obtain⟨x1,x2,x3,x4⟩:=x;obtain⟨y1,y2,y3,y4⟩:=y;simp at b1;obtain⟨rfl,rfl,rfl,rfl⟩:=b1;rfl
   refine t_again (hY (n-(i+1)) _ _ (by omega) ⟨rfl,i+1,?_,by omega,rfl,?_⟩)
   ·rw[wrap_id (by omega) (by omega)];rfl
   ·rw[List.take_add_one,List.take_add_one,hc,hx,hy,b2]
 ·refine gZ ?_;rw[List.take_of_length_le (by omega),List.take_of_length_le (by omega)]at hc;exact t_ret ⟨by simp[hc],rfl⟩
theorem c15{h:LH}{f:FileC}{u:UseFile}(hu:FileR h.get f u):FW X0 Tryz.prog 12 #[fileV f u] h fun r h'=>h=h'/\∃ b:Bool,r=.bool b/\(b=false->u.excuses.length<=20/\u.papers.length<=20/\u.requests.length<=20):=by
 refine w15 _ _ _ _ _ _ _ _ _ _ _ _ _ X0_ok ?_;unfold n15;have x0:=hu.excuses.1;have p0:=hu.papers.1;have r0:=hu.requests.1;have pb:=hu.papers.2.1;have rb:=hu.requests.2.1;refine t_blk (fun vs h'=>vs=[.bool false]/\h=h'/\u.excuses.length<=20/\u.papers.length<=20/\u.requests.length<=20) ?_ ?_
 ·refine t_if (fun e1=>?_) (fun e1=>?_)
  ·refine gZ ?_;exact t_ret ⟨rfl,true,rfl,fun e=>by cases e⟩
  refine t_if (fun e2=>?_) (fun e2=>?_)
  ·refine gZ ?_;exact t_ret ⟨rfl,true,rfl,fun e=>by cases e⟩
  refine t_if (fun e3=>?_) (fun e3=>?_)
  ·refine gZ ?_;exact t_ret ⟨rfl,true,rfl,fun e=>by cases e⟩
  exact t_again ⟨rfl,rfl,by omega,by omega,by omega⟩
 rintro vs _ ⟨rfl,rfl,h1,h2,h3⟩;refine gZ ?_;refine t_loop (fun mm vs h'=>h=h'/\∃ i:Nat,vs=[.bool false,.int .i64 i]/\i<=f.n5/\mm=f.n5-i) ⟨rfl,0,rfl,Nat.zero_le _,rfl⟩ ?_;rintro Y mm vs _ hY ⟨rfl,i,rfl,hi,rfl⟩;refine yJ (fun e=>?_) (fun e=>?_)
 ·obtain⟨x,a1,hx,ha1,e1,e2,e3,q,m,c,e4,e5⟩:=hu.papers.at (i:=i) (by omega);refine yJ (fun e6=>?_) (fun e6=>?_)
  ·refine gZ ?_;exact t_ret ⟨rfl,true,rfl,fun e=>by cases e⟩
  ·refine t_again (hY (f.n5-(i+1)) _ _ (by omega) ⟨rfl,i+1,?_,by omega,rfl⟩);rw[wrap_id (by omega) (by omega)];rfl
 ·refine gZ ?_;refine t_loop (fun mm vs h'=>h=h'/\∃ i:Nat,vs=[.bool false,.int .i64 i]/\i<=f.n6/\mm=f.n6-i) ⟨rfl,0,rfl,Nat.zero_le _,rfl⟩ ?_;rintro Y2 mm vs _ hY2 ⟨rfl,i,rfl,hi,rfl⟩;refine yJ (fun e=>?_) (fun e=>?_)
  ·obtain⟨x,a1,hx,ha1,e1,e2,q,m,c,e4,e5⟩:=hu.requests.at (i:=i) (by omega);refine yJ (fun e6=>?_) (fun e6=>?_)
   ·refine gZ ?_;exact t_ret ⟨rfl,true,rfl,fun e=>by cases e⟩
   ·refine t_again (hY2 (f.n6-(i+1)) _ _ (by omega) ⟨rfl,i+1,?_,by omega,rfl⟩);rw[wrap_id (by omega) (by omega)];rfl
  ·refine gZ ?_;exact t_ret ⟨rfl,false,rfl,fun _=>⟨h1,h2,h3⟩⟩
end
section
theorem lack_grow:Grow LackE:=fun _ _ _ _ hl h=>⟨hl _ _ h.1,hl _ _ h.2.1,hl _ _ h.2.2.1,hl _ _ h.2.2.2⟩
theorem ev1:window exU 20=⟨16,20⟩:=by decide +kernel
theorem ev2:window exU 25=⟨18,25⟩:=by decide +kernel
theorem ev3:safe exU 0 1 16=1:=by decide +kernel
theorem ev4:safe exU 0 1 18=0:=by decide +kernel
theorem ev5:safe exU 0 1 19=2:=by decide +kernel
theorem ev6:weak exU 0 1=17:=by decide +kernel
theorem ev7:weak exU 1 2=15:=by decide +kernel
theorem ev8:leftAll exU 0 25=[1,2,0]:=by decide +kernel
theorem ev9:lacks exU 0 20=[⟨1,0,⟨16,20⟩⟩,⟨2,0,⟨16,20⟩⟩]:=by decide +kernel
theorem ev10:enoughB exU 0 25 [0,2] (leftAll exU 0 25)=false:=by decide +kernel
theorem ev11:∀ i,i<16->okF exU 0 25 i=true->(∀ j,j<16->okF exU 0 25 j=true->fewerF (subsetL 4 i) (subsetL 4 j)<=0)->subsetL 4 i=[1]:=by decide +kernel
theorem ev12:okF exU 0 25 2=true:=by decide +kernel
theorem exWindow20:windowR exU 20=.tuple #[.agg #[.int .i64 16,.int .i64 20],.int .i64 0]:=by rw[windowR,if_neg (by decide +kernel),ev1]
theorem exWindow25:windowR exU 25=.tuple #[.agg #[.int .i64 18,.int .i64 25],.int .i64 0]:=by rw[windowR,if_neg (by decide +kernel),ev2]
theorem exSafe16:safeR exU 0 1 16=.tuple #[.int .i64 1,.int .i64 0]:=by rw[safeR,if_neg (by decide +kernel),ev3]
theorem exSafe18:safeR exU 0 1 18=.tuple #[.int .i64 0,.int .i64 0]:=by rw[safeR,if_neg (by decide +kernel),ev4]
theorem exSafe19:safeR exU 0 1 19=.tuple #[.int .i64 2,.int .i64 0]:=by rw[safeR,if_neg (by decide +kernel),ev5]
theorem exWeak1:weakR exU 0 1=.tuple #[.int .i64 17,.int .i64 0]:=by rw[weakR,if_neg (by decide +kernel),ev6]
theorem exWeak2:weakR exU 1 2=.tuple #[.int .i64 15,.int .i64 0]:=by rw[weakR,if_neg (by decide +kernel),ev7]
theorem exEnough:enoughR exU 0 25 [0,2]=.tuple #[.bool false,.int .i64 0]:=by rw[enoughR,if_neg (by decide +kernel),ev10]
theorem exOpen25:openF exU [landQ exU 0,dayQ 25]=0:=by decide +kernel
theorem exOpen20:openF exU [landQ exU 0,dayQ 20]=0:=by decide +kernel
attribute [local irreducible] T.wp CV FWK
theorem c16{h:LH}(hch:h.chans=[])(hpe:h.pend=[])(hp:Parts h.get):FW XT Tryz.prog 6 #[] h fun r h'=>r=.bool true/\Rd h.get h'.get/\h'.chans=[]/\h'.pend=[]/\h'.todo=h.todo:=by
 refine w16 XT_ok ?_;unfold n16;refine t_gr c52 ?_;rintro _ h1 le1 ⟨f,rfl,hu⟩;have hp:=hp.le le1.1;refine gZ ?_;refine t_gr (c17 hp hu 20) ?_;rintro _ h2 le2 rfl;rw[exWindow20];refine gZ ?_;have hp:=hp.le le2.1;have hu:=hu.le le2.1;refine t_gr (c17 hp hu 25) ?_;rintro _ h3 le3 rfl;rw[exWindow25];refine gZ ?_;have hp:=hp.le le3.1;have hu:=hu.le le3.1;refine t_gr (c19 hp hu 0 1 16) ?_;rintro _ h4 le4 rfl;rw[exSafe16];refine gZ ?_;have hp:=hp.le le4.1;have hu:=hu.le le4.1;refine t_gr (c19 hp hu 0 1 18) ?_;rintro _ h5 le5 rfl;rw[exSafe18];refine gZ ?_;have hp:=hp.le le5.1;have hu:=hu.le le5.1;refine t_gr (c19 hp hu 0 1 19) ?_;rintro _ h6 le6 rfl;rw[exSafe19];refine gZ ?_;have hp:=hp.le le6.1;have hu:=hu.le le6.1;refine t_gr (c21 hp hu 0 1) ?_;rintro _ h7 le7 rfl;rw[exWeak1];refine gZ ?_;have hp:=hp.le le7.1;have hu:=hu.le le7.1;refine t_gr (c21 hp hu 1 2) ?_;rintro _ h8 le8 rfl;rw[exWeak2];refine gZ ?_;have hp:=hp.le le8.1;have hu:=hu.le le8.1;refine t_gr (c23 hp hu 0 25) ?_;rintro _ h9 le9 (⟨hne,_⟩|⟨_,lp,ln,lc,rfl,hl⟩)
 ·exact absurd exOpen25 hne
 rw[ev8]at hl;refine gZ ?_;have hp:=hp.le le9.1;have hu:=hu.le le9.1;refine t_gr (c28 hp hu 0 20) ?_;rintro _ h10 le10 (⟨hne,_⟩|⟨_,kp,kn,kc,rfl,hk⟩)
 ·exact absurd exOpen20 hne
 rw[ev9]at hk;refine gZ ?_;have hp:=hp.le le10.1;have hu:=hu.le le10.1;have hl:=hl.le IntE.grow le10.1;have le:=LH.le_trans (LH.le_trans (LH.le_trans (LH.le_trans (LH.le_trans (LH.le_trans (LH.le_trans (LH.le_trans (LH.le_trans le1 le2) le3) le4) le5) le6) le7) le8) le9) le10;refine t_call (c33 (by rw[le.2.1,hch]) (by rw[le.2.2.1,hpe]) hp hu 0 25) ?_;rintro _ h11 ⟨rd11,ch11,pe11,td11,⟨hne,_⟩|⟨_,pp,pn,pc,rfl,hb,_⟩⟩
 ·exact absurd exOpen25 hne
 have hpk:Sl IntE 1 h11.get pp pn [1]:=by
  rcases hb with⟨_,_,hno⟩|⟨i,a,rfl,hi,hok,hs,hmin⟩
  ·have:=hno 2 (by decide) (by simp);rw[ev12]at this;cases this
  ·have e:=ev11 i hi hok fun j hj hj2=>hmin j hj (by simp) hj2;rw[<- e];exact hs
 refine gZ ?_;have hp:=hp.rd rd11;have hu:=hu.rd rd11;have hl:=hl.rd IntE.grow rd11;have hk:=hk.rd lack_grow rd11;refine t_buildG und50 inf3 (by decide) (by decide) (cells:=#[.int .i64 0,.int .i64 2]) (by kernel_rfl) fun r12 h12 le12 _ e12=>?_;refine gZ ?_;have hp:=hp.le le12.1;have hu:=hu.le le12.1;refine t_gr (c31 hp hu 0 25 (pl:=[0,2]) (sl_ints (l:=[0,2]) rfl e12 (by show (2:Nat)<_;omega))) ?_;rintro _ h13 le13 rfl;rw[exEnough];refine gZ ?_;have le1113:=LH.le_trans le12 le13;have hl:=hl.le IntE.grow le1113.1;have hk:=hk.le lack_grow le1113.1;have hpk:=hpk.le IntE.grow le1113.1;refine t_blk (fun vs h'=>vs=[.bool false]/\h13=h') ?_ ?_
 ·iterate 11 refine t_cond (fun e=>absurd e (by decide)) (fun _=>?_)
  exact t_again ⟨rfl,rfl⟩
 rintro vs _ ⟨rfl,rfl⟩;refine gZ ?_;refine t_blk (fun vs h'=>vs=[.bool false]/\h13.le h') ?_ ?_
 ·refine t_pu (c42 _ _) ?_;refine gZ ?_;refine t_ne2 two30 g30 ?_;refine gZ ?_;refine t_cond (fun e=>absurd e (by decide)) (fun _=>?_);refine t_pu (c42 _ _) ?_;refine gZ ?_;refine t_ne2 two30 g30 ?_;refine gZ ?_;refine t_cond (fun e=>absurd e (by decide)) (fun _=>?_);refine gZ ?_;refine t_cond (fun e=>absurd e (by decide)) (fun _=>?_);refine gZ ?_;refine t_cond (fun e=>absurd e (by decide)) (fun _=>?_);refine gZ ?_;refine t_cond (fun e=>absurd e (by decide)) (fun _=>?_);refine gZ ?_;refine t_cond (fun e=>absurd e (by decide)) (fun _=>?_);refine gZ ?_;refine t_cond (fun e=>absurd e (by decide)) (fun _=>?_);refine gZ ?_;refine t_cond (fun e=>absurd e (by decide)) (fun _=>?_);refine gZ ?_;refine t_buildG und50 inf3 (by decide) (by decide) (cells:=#[.int .i64 1]) (by kernel_rfl) fun r14 h14 le14 _ e14=>?_;refine gZ ?_;refine t_pu (c35 (hpk.le IntE.grow le14.1) (sl_ints (l:=[1]) rfl e14 (by show (1:Nat)<_;omega))) ?_;refine gZ ?_;refine t_cond (fun e=>absurd e (by decide)) (fun _=>?_);exact t_again ⟨rfl,le14⟩
 rintro vs h15 ⟨rfl,le15⟩;have hl:=hl.le IntE.grow le15.1;have hk:=hk.le lack_grow le15.1;refine gZ ?_;refine t_buildG und40 inf34 (by decide) (by decide) (cells:=#[.int .i64 1,.int .i64 2,.int .i64 0]) (by kernel_rfl) fun r16 h16 le16 _ e16=>?_;refine gZ ?_;refine t_pu (c25 (hl.le IntE.grow le16.1) (sl_ints (l:=[1,2,0]) rfl e16 (by show (3:Nat)<_;omega))) ?_;refine gZ ?_;refine t_cond (fun _=>?_) (fun e=>absurd e (by decide));refine gZ ?_;refine t_pu (c42 _ _) ?_;refine gZ ?_;refine t_pu (c42 _ _) ?_;refine gZ ?_;refine t_buildG und45 inf79 (by decide) (by decide) (cells:=#[.int .i64 1,.int .i64 0,.int .i64 16,.int .i64 20,.int .i64 2,.int .i64 0,.int .i64 16,.int .i64 20]) (by kernel_rfl) fun r17 h17 le17 _ e17=>?_;refine gZ ?_;have le1617:=LH.le_trans le16 le17;refine t_pu (c30 (hk.le lack_grow le1617.1) (b:=[⟨1,0,⟨16,20⟩⟩,⟨2,0,⟨16,20⟩⟩]) ?_) ?_
 ·refine⟨rfl,by show (2:Nat)<_;omega,?_⟩;have cr:∀ {i j:Nat} {v:Value},(#[.int .i64 1,.int .i64 0,.int .i64 16,.int .i64 20,.int .i64 2,.int .i64 0,.int .i64 16,.int .i64 20]:Array Value)[i+j]?=some v->h17.get.cell? (Addr.add (Addr.add ⟨r17,0,none⟩ i) j)=some v:=by
   intro i j v hv;rw[add_plain,add_plain,Nat.zero_add];exact cell_row e17 hv
  intro i x hx
  match i,hx with
  | 0,hx=>cases hx;exact⟨_,rfl,cr rfl,cr rfl,cr rfl,cr rfl⟩
  | 1,hx=>cases hx;exact⟨_,rfl,cr rfl,cr rfl,cr rfl,cr rfl⟩
  | i+2,hx=>simp at hx
 refine gZ ?_;have leZ:=LH.le_trans (LH.le_trans le1113 le15) le1617;refine t_ret ⟨by simp,(Rd.of_le le.1).trans (rd11.trans (Rd.of_le leZ.1)),by rw[leZ.2.1,ch11],by rw[leZ.2.2.1,pe11],by rw[leZ.2.2.2,td11,le.2.2.2]⟩
end
section
attribute [local irreducible] T.wp CV FWK
theorem LeftR.form{h':Cells}{u:UseFile}{land day:Int}{r:Value}(hr:LeftR h' u land day r):∃ p n c,r=.tuple #[.slice p n c,.int .i64 (openF u [landQ u land,dayQ day])]/\Sl IntE 1 h' p n (if openF u [landQ u land,dayQ day]=0 then leftAll u land day else []):=by
 rcases hr with⟨h1,rfl⟩|⟨h1,p,n,c,rfl,s⟩
 ·exact⟨none,0,0,rfl,by rw[if_neg h1];exact Sl.nil⟩
 ·exact⟨p,n,c,by rw[h1],by rw[if_pos h1];exact s⟩
def Fin(h:LH):Value->LH->Prop:=fun r h'=>r=.bool true/\h'.chans=[]/\h'.pend=[]/\h'.todo=h.todo
theorem fin_shown{h h':LH}(hch:h.chans=[])(hpe:h.pend=[])(hp:Parts h.get)(hle:h.le h'):FW XT Tryz.prog 6 #[] h' (Fin h):=by
 refine FW.mono (c16 (by rw[hle.2.1,hch]) (by rw[hle.2.2.1,hpe]) (hp.le hle.1)) ?_;rintro v h'' ⟨h1,_,h2,h3,h4⟩;exact⟨h1,h2,h3,by rw[h4,hle.2.2.2]⟩
end
end Go.Y
section
namespace Go.TM
def cum(c:Int->Bool):Nat->Int
 | 0=>0
 | n+1=>cum c n+(if c ((n+1:Nat):Int) then 1 else 0)
theorem firstDay_spec(c:Int->Bool)(idle:Int):∀ (d:Nat) (n:Int),n<idle->∃ w:Nat,firstDay c idle d n=w/\w<=d/\n+cum c d-cum c w<idle/\(1<=w->n+cum c d-cum c (w-1)>=idle):=by
 intro d
 induction d with
 | zero=>intro n hn;exact⟨0,rfl,Nat.le_refl _,by omega,fun h=>by omega⟩
 | succ d ih =>
  intro n hn;have hc:(if c ((d+1:Nat):Int) then n+1 else n)+cum c d=n+cum c (d+1):=by
   rw[cum];split<;>omega
  rw[firstDay];by_cases e:(if c ((d+1:Nat):Int) then n+1 else n)>=idle
  ·rw[if_pos e];refine⟨d+1,rfl,Nat.le_refl _,by omega,fun _=>?_⟩;rw[Nat.add_sub_cancel];omega
  ·rw[if_neg e];obtain⟨w,h1,h2,h3,h4⟩:=ih _ (by omega:(if c ((d+1:Nat):Int) then n+1 else n)<idle);exact⟨w,h1,by omega,by omega,fun h=>by have:=h4 h;omega⟩
def cnt(u:UseFile)(a d:Int):Int:=cum (counts u) d.toNat-cum (counts u) a.toNat
theorem window_bound{u:UseFile}(hi:1<=u.idle){day:Int}(hd:0<=day):0<=(window u day).first/\(window u day).first<=day/\(window u day).last=day/\cnt u (window u day).first day<u.idle/\(1<=(window u day).first->cnt u ((window u day).first-1) day>=u.idle):=by
 obtain⟨w,h1,h2,h3,h4⟩:=firstDay_spec (counts u) u.idle day.toNat 0 (by omega);unfold window cnt;simp only[h1];refine⟨by omega,by omega,trivial,?_,fun h=>?_⟩
 ·rw[show ((w:Nat):Int).toNat=w by omega];omega
 ·have:=h4 (by omega);rw[show (((w:Nat):Int)-1).toNat=w-1 by omega];omega
end Go.TM
end
namespace Go.Y
section
attribute [local irreducible] T.wp CV FWK
theorem c36{h:LH}{f:FileC}{u:UseFile}(hu:FileR h.get f u):FW X0 Tryz.prog 4 #[fileV f u] h fun r h'=>h=h'/\∃ b:Bool,r=.bool b/\(b=true->checkF u=0):=by
 refine w36 _ _ _ _ _ _ _ _ _ _ _ _ _ X0_ok ?_;unfold n36;refine t_call (c15 hu) ?_;rintro _ _ ⟨rfl,b,rfl,hb⟩;refine yI (fun _=>?_) (fun _=>?_)
 ·refine t_pu (c27 hu) ?_;refine gZ ?_;exact t_ret ⟨rfl,_,rfl,fun e=>by simpa using e⟩
 ·exact t_ret ⟨rfl,_,rfl,fun e=>by cases e⟩
theorem wrap_u8{n:Int}(h:0<=n/\n<=255):IntKind.i64.wrap n=n:=wrap_id (by omega) (by omega)
theorem tmod_nn{a b:Int}(ha:0<=a):Int.tmod a b=a%b:=by rw[Int.tmod_eq_emod_of_nonneg ha]
end
section
attribute [local irreducible] T.wp CV FWK
theorem openF_all{u:UseFile}(hck:checkF u=0):∀ {l:List Int},(∀ x∈l,x=0)->openF u l=0:=by
 intro l hl;rw[openF,if_neg (by simp[hck])];have key:∀ (l:List Int) (i:Nat),(∀ x∈l,x=0)->firstF (fun _ x=>x) i l=0:=by
  intro l
  induction l with
  | nil=>intro i _;rfl
  | cons y l ih =>
   intro i h;rw[firstF,if_neg (by simp[h y (by simp)])];exact ih _ fun x hx=>h x (by simp[hx])
 exact key l 0 hl
theorem landQ_ok{u:UseFile}{k:Int}(h:0<=k/\k<u.lands):landQ u k=0:=by
 unfold landQ isIn;rw[if_pos];simp;omega
theorem dayQ_ok{d:Int}(h:0<=d/\d<=2000):dayQ d=0:=by
 unfold dayQ isDay isIn;rw[if_pos];simp;omega
theorem leftQ_ok{u:UseFile}(hck:checkF u=0){k d:Int}(hk:0<=k/\k<u.lands)(hd:0<=d/\d<=2000):openF u [landQ u k,dayQ d]=0 :=
 openF_all hck (by intro x hx;simp at hx;rcases hx with rfl|rfl;exact landQ_ok hk;exact dayQ_ok hd)
theorem mod_pos{n b:Int}(hb:0<b):0<=n%b/\n%b<b:=⟨Int.emod_nonneg _ (by omega),Int.emod_lt_of_pos _ hb⟩
end
end Go.Y
namespace Go.TM
section
theorem safeGo_one{w:Span}:∀ {l:List Paper} {out:Int},out≠1->(safeGo w l out=1↔∃ p∈l,insideB w p.days=true):=by
 intro l
 induction l with
 | nil=>intro out h;simp[safeGo,h]
 | cons p l ih =>
  intro out h;rw[safeGo];by_cases e:insideB w p.days=true
  ·rw[if_pos e];simp[e]
  ·rw[if_neg e,ih (by split<;>omega)];simp[e]
theorem safeGo_two{w:Span}:∀ {l:List Paper} {out:Int},(safeGo w l out=2->out=2/\∀ p∈l,meetsB w p.days=false/\insideB w p.days=false):=by
 intro l
 induction l with
 | nil=>intro out h;exact⟨h,fun p hp=>by simp at hp⟩
 | cons p l ih =>
  intro out h;rw[safeGo]at h;by_cases e:insideB w p.days=true
  ·rw[if_pos e]at h;omega
  ·rw[if_neg e]at h;obtain⟨h1,h2⟩:=ih h;by_cases e2:meetsB w p.days=true
   ·rw[if_pos e2]at h1;omega
   ·rw[if_neg e2]at h1;refine⟨h1,fun q hq=>?_⟩;rcases List.mem_cons.1 hq with rfl|hq
    ·exact⟨by simpa using e2,by simpa using e⟩
    ·exact h2 q hq
theorem safeGo_two'{w:Span}:∀ {l:List Paper},(∀ p∈l,meetsB w p.days=false/\insideB w p.days=false)->safeGo w l 2=2:=by
 intro l
 induction l with
 | nil=>intro _;rfl
 | cons p l ih =>
  intro h;have:=h p (by simp);rw[safeGo,if_neg (by rw[this.2];simp),if_neg (by rw[this.1];simp)];exact ih fun q hq=>h q (by simp[hq])
theorem safeGo_vals{w:Span}:∀ {l:List Paper} {out:Int},(out=0\/out=1\/out=2)->(safeGo w l out=0\/safeGo w l out=1\/safeGo w l out=2):=by
 intro l
 induction l with
 | nil=>intro out h;exact h
 | cons p l ih =>
  intro out h;rw[safeGo];split
  ·omega
  ·apply ih;split<;>omega
theorem safe_vals(u:UseFile)(k i d:Int):safe u k i d=0\/safe u k i d=1\/safe u k i d=2:=by
 unfold safe;split
 ·omega
 ·exact safeGo_vals (.inr (.inr rfl))
def InW(u:UseFile)(day d:Int):Prop:=(window u day).first<=d/\d<=day
theorem inside_def(w x:Span):insideB w x=true↔w.first<=x.first/\x.last<=w.last:=by
 unfold insideB mx mn;rw[decide_eq_true_eq];constructor
 ·rintro⟨h1,h2⟩;split at h1<;>split at h2<;>omega
 ·rintro⟨h1,h2⟩;constructor
  ·split<;>omega
  ·split<;>omega
theorem meets_def{w x:Span}(hw:w.first<=w.last)(hx:x.first<=x.last):meetsB w x=true↔x.first<=w.last/\w.first<=x.last:=by
 unfold meetsB mx mn;rw[decide_eq_true_eq];split<;>split<;>omega
def Choice:List Paper->List Int->Prop
 | [],[]=>True
 | p::ps,d::ds=>(p.days.first<=d/\d<=p.days.last)/\Choice ps ds
 | _,_=>False
theorem meetsGo_bit(u:UseFile)(day:Int):∀ (l:List Request) (k acc j:Nat),(meetsGo u day l k acc).testBit j=(acc.testBit j||(decide (k<=j)&&(l[j-k]?).any fun r=>isIn day (window u r.day).first r.day)):=by
 intro l
 induction l with
 | nil=>intro k acc j;simp[meetsGo]
 | cons r l ih =>
  intro k acc j;rw[meetsGo,ih];by_cases e:j=k
  ·subst e;simp only[Nat.sub_self,List.getElem?_cons_zero,Option.any_some,Nat.le_refl,decide_true,Bool.true_and];rw[show decide (j+1<=j)=false by simp];split<;>rename_i hh<;>simp[hh,Nat.testBit_or,Nat.testBit_two_pow_self]
  ·have hacc:(if isIn day (window u r.day).first r.day then acc ||| 2^k else acc).testBit j=acc.testBit j:=by
    split
    ·rw[Nat.testBit_or,Nat.testBit_two_pow];simp[Ne.symm e]
    ·rfl
   rw[hacc];by_cases e2:k<=j
   ·have h1:k+1<=j:=by omega
    rw[show j-k=(j-(k+1))+1 by omega,List.getElem?_cons_succ];simp[e2,h1]
   ·have h1:¬ k+1<=j:=by omega
    simp[e2,h1]
theorem meets_bit(u:UseFile)(l:List Request)(day:Int)(j:Nat):(meets u l day).testBit j=(l[j]?).any fun r=>isIn day (window u r.day).first r.day:=by
 unfold meets;rw[meetsGo_bit];simp
def orAll(u:UseFile)(L:List Request):List Int->Nat->Nat
 | [],s=>s
 | d::ds,s=>orAll u L ds (s ||| meets u L d)
theorem orAll_bit{u:UseFile}{L:List Request}(j:Nat):∀ {ds:List Int} {s:Nat},(orAll u L ds s).testBit j=(s.testBit j||ds.any fun d=>(meets u L d).testBit j):=by
 intro ds
 induction ds with
 | nil=>intro s;simp[orAll]
 | cons d ds ih=>intro s;rw[orAll,ih,Nat.testBit_or,List.any_cons,Bool.or_assoc]
theorem daysOf_mem{x:Span}{d:Int}:d∈daysOf x↔x.first<=d/\d<=x.last:=by
 unfold daysOf;rw[List.mem_map];constructor
 ·rintro⟨i,h1,rfl⟩;rw[List.mem_range]at h1;omega
 ·rintro⟨h1,h2⟩;exact⟨(d-x.first).toNat,by rw[List.mem_range];omega,by omega⟩
theorem mem_step{ms R:List Nat}{s:Nat}:s∈stepL ms R↔∃ a∈R,∃ b∈ms,s=a ||| b:=by
 unfold stepL;simp only[List.mem_flatMap,List.mem_map];constructor
 ·rintro⟨a,h1,b,h2,h3⟩;exact⟨a,h1,b,h2,h3.symm⟩
 ·rintro⟨a,h1,b,h2,h3⟩;exact⟨a,h1,b,h2,h3.symm⟩
theorem reach_iff{u:UseFile}{L:List Request}:∀ {ps:List Paper} {R:List Nat} {s:Nat},s∈reachL u L ps R↔∃ a∈R,∃ ds,Choice ps ds/\s=orAll u L ds a:=by
 intro ps
 induction ps with
 | nil =>
  intro R s;rw[reachL];constructor
  ·intro h;exact⟨s,h,[],trivial,rfl⟩
  ·rintro⟨a,h,ds,hc,rfl⟩;cases ds with
   | nil=>exact h
   | cons d ds=>exact hc.elim
 | cons p ps ih =>
  intro R s;rw[reachL,ih];constructor
  ·rintro⟨a,h,ds,hc,rfl⟩;obtain⟨b,hb,m,hm,rfl⟩:=mem_step.1 h;obtain⟨d,hd,rfl⟩:=List.mem_map.1 hm;exact⟨b,hb,d::ds,⟨daysOf_mem.1 hd,hc⟩,rfl⟩
  ·rintro⟨a,h,ds,hc,rfl⟩;cases ds with
   | nil=>exact hc.elim
   | cons d ds =>
    obtain⟨h1,h2⟩:=hc;exact⟨_,mem_step.2 ⟨a,h,_,List.mem_map.2 ⟨d,daysOf_mem.2 h1,rfl⟩,rfl⟩,ds,h2,rfl⟩
theorem orAll_lt{u:UseFile}{L:List Request}{ds:List Int}{s:Nat}(j:Nat)(hs:s.testBit j=false)(hj:L.length<=j):(orAll u L ds s).testBit j=false:=by
 rw[orAll_bit,hs,Bool.false_or,List.any_eq_false];intro d _;rw[meets_bit,List.getElem?_eq_none hj];simp
theorem can_iff{u:UseFile}{land item:Int}{L:List Request}:can u land item L=true↔∃ ds,Choice (shown u land item) ds/\∀ r∈L,InW u r.day u.from_\/∃ d∈ds,InW u r.day d:=by
 have key:∀ ds,orAll u L ds (meets u L u.from_)=2^L.length-1↔∀ r∈L,InW u r.day u.from_\/∃ d∈ds,InW u r.day d:=by
  intro ds;constructor
  ·intro h r hr;obtain⟨j,hj⟩:=List.mem_iff_getElem?.1 hr;have hjl:=(List.getElem?_eq_some_iff.1 hj).1;have hb:(orAll u L ds (meets u L u.from_)).testBit j=true:=by rw[h,Nat.testBit_two_pow_sub_one];simp[hjl]
   rw[orAll_bit,Bool.or_eq_true,meets_bit,hj,List.any_eq_true]at hb;rcases hb with hb|⟨d,hd,hb⟩
   ·simp[isIn]at hb;exact .inl hb
   ·rw[meets_bit,hj]at hb;simp[isIn]at hb;exact .inr ⟨d,hd,hb⟩
  ·intro h;apply Nat.eq_of_testBit_eq;intro j;rw[Nat.testBit_two_pow_sub_one];by_cases hj:j<L.length
   ·have hr:L[j]?=some L[j]:=List.getElem?_eq_getElem hj;rw[orAll_bit,meets_bit,hr];simp only[Option.any_some,hj,decide_true];rcases h L[j] (List.getElem_mem _) with⟨h1,h2⟩|⟨d,hd,h1,h2⟩
    ·rw[show isIn u.from_ (window u L[j].day).first L[j].day=true by simp[isIn];exact⟨h1,h2⟩];rfl
    ·rw[Bool.or_eq_true];right;rw[List.any_eq_true];refine⟨d,hd,?_⟩;rw[meets_bit,hr];simp[isIn];exact⟨h1,h2⟩
   ·rw[orAll_lt j (by rw[meets_bit,List.getElem?_eq_none (by omega)];rfl) (by omega)];simp[hj]
 unfold can;rw[List.contains_iff_mem,reach_iff];constructor
 ·rintro⟨a,ha,ds,hc,hs⟩;rw[List.mem_singleton]at ha;subst ha;exact⟨ds,hc,(key ds).1 hs.symm⟩
 ·rintro⟨ds,hc,h⟩;exact⟨_,List.mem_singleton.2 rfl,ds,hc,((key ds).2 h).symm⟩
end
section
theorem Choice.snoc:∀ {ps:List Paper} {ds:List Int},Choice ps ds->∀ {p:Paper} {d:Int},p.days.first<=d->d<=p.days.last->Choice (ps++[p]) (ds++[d])
 | [],[],_,_,_,h1,h2=>⟨⟨h1,h2⟩,trivial⟩
 | _::_,_::_,h,_,_,h1,h2=>⟨h.1,Choice.snoc h.2 h1 h2⟩
 | [],_::_,h,_,_,_,_=>h.elim
 | _::_,[],h,_,_,_,_=>h.elim
theorem left_vals(u:UseFile)(k i d:Int):left u k i d=0\/left u k i d=1\/left u k i d=2:=by
 unfold left;split
 ·omega
 ·split<;>omega
end
section
def rk(s:Int):Int:=if s=2 then 0 else if s=1 then 2 else 1
theorem rk_vals(s:Int):0<=rk s/\rk s<=2:=by unfold rk;split<;>(try split)<;>omega
theorem safe_one_iff{u:UseFile}{k i d:Int}(hd:0<=d)(hi:1<=u.idle):safe u k i d=1↔InW u d u.from_\/∃ p∈shown u k i,(window u d).first<=p.days.first/\p.days.last<=d:=by
 unfold safe;by_cases e:isIn u.from_ (window u d).first d=true
 ·rw[if_pos e];simp only[true_iff];exact .inl (by simpa[isIn,InW] using e)
 ·rw[if_neg e,safeGo_one (by omega)];have h1:¬ InW u d u.from_:=fun h=>e (by simp[isIn];exact h);constructor
  ·rintro⟨p,hp,hin⟩;exact .inr ⟨p,hp,(inside_def _ _).1 hin⟩
  ·rintro(h|⟨p,hp,hin⟩)
   ·exact absurd h h1
   ·exact⟨p,hp,(inside_def _ _).2 hin⟩
theorem safe_two_iff{u:UseFile}{k i d:Int}(hd:0<=d)(hi:1<=u.idle)(hv:∀ p∈shown u k i,p.days.first<=p.days.last):safe u k i d=2↔¬ InW u d u.from_/\∀ p∈shown u k i,¬ (p.days.first<=d/\(window u d).first<=p.days.last):=by
 have hwb:=window_bound hi (u:=u) hd;have hwl:(window u d).last=d:=rfl;unfold safe;by_cases e:isIn u.from_ (window u d).first d=true
 ·rw[if_pos e];have:InW u d u.from_:=by simpa[isIn,InW] using e
  constructor
  ·intro h;omega
  ·intro h;exact absurd this h.1
 ·rw[if_neg e];have h1:¬ InW u d u.from_:=fun h=>e (by simp[isIn];exact h);constructor
  ·intro h;obtain⟨_,h2⟩:=safeGo_two h;refine⟨h1,fun p hp hm=>?_⟩;have:=(h2 p hp).1;rw[(meets_def (by omega) (hv p hp)).2 ⟨by omega,hm.2⟩]at this;cases this
  ·rintro⟨_,h2⟩;refine safeGo_two' fun p hp=>?_;have hno:=h2 p hp;have hvp:=hv p hp;constructor
   ·cases hm:meetsB (window u d) p.days with
    | false=>rfl
    | true=>exact absurd ((meets_def (by omega) hvp).1 hm) (by omega)
   ·cases hm:insideB (window u d) p.days with
    | false=>rfl
    | true=>have:=(inside_def _ _).1 hm;exact absurd ⟨by omega,by omega⟩ hno
def Valid(u:UseFile):Prop:=1<=u.idle/\(∀ p∈u.papers,p.days.first<=p.days.last)/\∀ r∈u.requests,0<=r.day/\r.day<=2000
theorem Valid.of{u:UseFile}(h:checkF u=0):Valid u:=⟨(num_ok (check_num h)).2.2.2.1,fun p hp=>((check_papers h).2 p hp).2.1,(check_requests h).2⟩
theorem Valid.sh{u:UseFile}(v:Valid u){k i:Int}:∀ p∈shown u k i,p.days.first<=p.days.last:=fun p hp=>v.2.1 p (List.mem_filter.1 hp).1
structure More(u o:UseFile)(k i:Int):Prop where
 frm:o.from_=u.from_
 win:∀ d,0<=d->(window o d).first<=(window u d).first
 sub:∀ p∈shown u k i,p∈shown o k i
 ch:∀ ds,Choice (shown u k i) ds->∃ ds',Choice (shown o k i) ds'/\∀ d∈ds,d∈ds'
theorem More.inW{u o:UseFile}{k i:Int}(m:More u o k i){d x:Int}(hd:0<=d)(h:InW u d x):InW o d x:=by
 have:=m.win d hd;unfold InW at *;omega
theorem More.safe{u o:UseFile}{k i:Int}(m:More u o k i)(vu:Valid u)(vo:Valid o){d:Int}(hd:0<=d):rk (safe u k i d)<=rk (safe o k i d):=by
 have ho:=safe_vals o k i d;have key1:TM.safe u k i d=1->TM.safe o k i d=1:=by
  rw[safe_one_iff hd vu.1,safe_one_iff hd vo.1];rintro(h|⟨p,hp,h1,h2⟩)
  ·exact .inl (by rw[m.frm];exact m.inW hd h)
  ·have:=m.win d hd;exact .inr ⟨p,m.sub p hp,by omega,h2⟩
 have key2:TM.safe o k i d=2->TM.safe u k i d=2:=by
  rw[safe_two_iff hd vu.1 vu.sh,safe_two_iff hd vo.1 vo.sh];rintro⟨h1,h2⟩;refine⟨fun h=>h1 (by rw[m.frm];exact m.inW hd h),fun p hp hm=>h2 p (m.sub p hp) ?_⟩;have:=m.win d hd;omega
 rcases safe_vals u k i d with e|e|e
 ·rcases ho with e'|e'|e'
  ·rw[e,e'];exact Int.le_refl _
  ·rw[e,e'];decide
  ·rw[key2 e']at e;omega
 ·rw[e,key1 e];exact Int.le_refl _
 ·rw[e];have:=rk_vals (TM.safe o k i d);simp[rk];exact this.1
theorem left_one_iff{u:UseFile}{k i d:Int}:left u k i d=1↔∀ r∈against u k i d,safe u k i r.day=1:=by
 unfold left;by_cases e:((against u k i d).all fun r=>decide (safe u k i r.day=1))=true
 ·rw[if_pos e];simp only[true_iff];intro r hr;simpa using List.all_eq_true.1 e r hr
 ·rw[if_neg e];constructor
  ·intro h;split at h<;>omega
  ·intro h;exact absurd (List.all_eq_true.2 fun r hr=>by simpa using h r hr) e
theorem left_two_iff{u:UseFile}{k i d:Int}:left u k i d=2↔left u k i d≠1/\can u k i (against u k i d)=false:=by
 unfold left;by_cases e:((against u k i d).all fun r=>decide (safe u k i r.day=1))=true
 ·rw[if_pos e];simp
 ·rw[if_neg e];cases hc:can u k i (against u k i d)<;>simp
theorem rk_le{a b:Int}(ha:a=0\/a=1\/a=2)(hb:b=0\/b=1\/b=2)(h1:a=1->b=1)(h2:b=2->a=2):rk a<=rk b:=by
 unfold rk;rcases ha with rfl|rfl|rfl<;>rcases hb with rfl|rfl|rfl<;>simp at h1 h2 ⊢
theorem can_of_safe{u:UseFile}(vu:Valid u){k i:Int}{L:List Request}(hL:∀ r∈L,0<=r.day)(h:∀ r∈L,safe u k i r.day=1):can u k i L=true:=by
 rw[can_iff];have hch:∀ ps:List Paper,(∀ p∈ps,p.days.first<=p.days.last)->Choice ps (ps.map fun p=>p.days.first):=by
  intro ps
  induction ps with
  | nil=>intro _;trivial
  | cons p ps ih=>intro h;exact⟨⟨Int.le_refl _,h p (by simp)⟩,ih fun q hq=>h q (by simp[hq])⟩
 refine⟨_,hch _ vu.sh,fun r hr=>?_⟩;rcases(safe_one_iff (hL r hr) vu.1).1 (h r hr) with h1|⟨p,hp,h1,h2⟩
 ·exact .inl h1
 ·have:=vu.sh p hp;exact .inr ⟨_,List.mem_map.2 ⟨p,hp,rfl⟩,h1,by omega⟩
theorem More.left{u o:UseFile}{k i:Int}(m:More u o k i)(vu:Valid u)(vo:Valid o)(hr:o.requests=u.requests)(d:Int):rk (left u k i d)<=rk (left o k i d):=by
 have hag:against o k i d=against u k i d:=by unfold against;rw[hr]
 have hmem:∀ r∈against u k i d,0<=r.day/\r.day<=2000:=fun r h=>vu.2.2 r (List.mem_filter.1 h).1;refine rk_le (left_vals _ _ _ _) (left_vals _ _ _ _) ?_ ?_
 ·rw[left_one_iff,left_one_iff,hag];intro h r hr';have:=m.safe vu vo (hmem r hr').1;rw[h r hr']at this;rcases safe_vals o k i r.day with e|e|e
  ·rw[e]at this;exact absurd this (by decide)
  ·exact e
  ·rw[e]at this;exact absurd this (by decide)
 ·intro h;obtain⟨h1,h2⟩:=left_two_iff.1 h;rw[hag]at h2;have hnc:can u k i (against u k i d)=false:=by
   cases hc:can u k i (against u k i d) with
   | false=>rfl
   | true =>
    obtain⟨ds,c1,c2⟩:=can_iff.1 hc;obtain⟨ds',c3,c4⟩:=m.ch ds c1;rw[can_iff.2 ⟨ds',c3,fun r hr'=>?_⟩]at h2
    ·cases h2
    rcases c2 r hr' with hh|⟨x,hx,hh⟩
    ·exact .inl (by rw[m.frm];exact m.inW (hmem r hr').1 hh)
    ·exact .inr ⟨x,c4 x hx,m.inW (hmem r hr').1 hh⟩
  refine left_two_iff.2 ⟨fun h3=>?_,hnc⟩;rw[can_of_safe vu (fun r hr'=>(hmem r hr').1) (left_one_iff.1 h3)]at hnc;cases hnc
theorem more_paper{u:UseFile}{p:Paper}(hp:p.days.first<=p.days.last)(k i:Int):More u { u with papers:=u.papers++[p] } k i:=by
 have hsh:shown { u with papers:=u.papers++[p] } k i=shown u k i++(if showsB k i p then [p] else []):=by
  show (u.papers++[p]).filter (showsB k i)=_;rw[List.filter_append];congr 1;cases hs:showsB k i p<;>simp[hs]
 refine⟨rfl,fun d _=>Int.le_refl _,fun q hq=>by rw[hsh];exact List.mem_append_left _ hq,fun ds hds=>?_⟩;rw[hsh];by_cases hs:showsB k i p=true
 ·rw[if_pos hs];exact⟨ds++[p.days.first],hds.snoc (Int.le_refl _) hp,fun d hd=>List.mem_append_left _ hd⟩
 ·rw[if_neg hs,List.append_nil];exact⟨ds,hds,fun d hd=>hd⟩
end
end Go.TM
section
namespace Go.Y
attribute [local irreducible] T.wp CV FWK
def PaperB(h0:Cells)(h:Cells)(a:Addr)(x:Paper):Prop:=∃ q m c,(∀ (j:Nat) w,[Value.int .i64 x.days.first,.int .i64 x.days.last,.int .i64 x.land,.slice q m c][j]?=some w->h.cell? (a.add j)=some w)/\Sl IntE 1 h0 q m x.items
theorem paperTold{h0 h:Cells}:ToldE (PaperB h0) (PaperEnc h0) 4 h:=by
 rintro a x ⟨q,m,c,h1,h2⟩;exact⟨_,⟨q,m,c,rfl,h2⟩,rfl,h1,fun w hw=>by simp at hw;rcases hw with rfl|rfl|rfl|rfl<;>rfl⟩
theorem PaperB.of{h0 h:Cells}(hr:Rd h0 h){p:Option Addr}{n:Nat}{l:List Paper}(s:Sl PaperE 4 h0 p n l):Sl (PaperB h0) 4 h p n l:=by
 refine⟨s.1,s.2.1,fun i x hx=>?_⟩;obtain⟨a,ha,h1,h2,h3,q,m,c,h4,h5⟩:=s.2.2 i x hx;refine⟨a,ha,q,m,c,fun j w hj=>?_,h5⟩
 match j,hj with
 | 0,hj=>cases hj;exact hr _ _ h1
 | 1,hj=>cases hj;exact hr _ _ h2
 | 2,hj=>cases hj;exact hr _ _ h3
 | 3,hj=>cases hj;exact hr _ _ h4
 | j+4,hj=>simp at hj
theorem row_stands{h h':Cells}{r:Nat}{cs:Array Value}{el:TypeId}{ws:List Value}(hr:h r=some (true,.cells cs el (0,0)))(hc:∀ (j:Nat) w,ws[j]?=some w->cs[j]?=some w)(hk:h' r=h r)(j:Nat)(w:Value)(hj:ws[j]?=some w):h'.cell? ((⟨r,0,none⟩ : Addr).add j)=some w:=by
 rw[add_plain,Nat.zero_add];unfold Cells.cell?;rw[hk,hr];exact hc j w hj
section
variable {X:XP} {Q:Leaf->LH->Prop}
theorem copy_end1{α:Type}{Enc:α->List Value->Prop}{h h₁:LH}{K:Value->T}{tS el:TypeId}{s by_:Nat}{z:Value}{p:Option Addr}{n c:Nat}{l:List α}{x:α}{ws:List Value}{r:Nat}{cs:Array Value}(hu:Tryz.prog.underlying tS=some (.slice el))(hi:(Tryz.prog.info? el).map (fun i=>(i.size,i.bytes,i.zero))=some (s,by_,some z))(hsz:z.cells.size=s)(hb:by_<=1024)(hn:n+1<=2^30)
 (g:Growing Enc el s h.get h₁.get p n c l)(hle:h.le h₁)(he:Enc x ws)(hl:ws.length=s)(one:∀ v∈ws,isOne v=true)(hr:h₁.get r=some (true,.cells cs el (0,0)))(hc:∀ (j:Nat) w,ws[j]?=some w->cs[j]?=some w)
 (hk:∀ p' c' h',h.le h'->Growing Enc el s h.get h'.get p' (n+1) c' (l++[x])->(K (.slice p' (n+1) c')).wp X Tryz.prog Q h'):(T.sem false (Builtin.append_ #[tS,tS] tS #[.slice p n c,.slice (some ⟨r,0,none⟩) 1 1]) K).wp X Tryz.prog Q h₁ :=
 t_grow (h₀:=h) (x:=x) (ws:=ws) rfl rfl hu hu hi hsz hb hn g hle he hl (fun j v hj=>row_stands hr hc rfl j v hj) one fun p' c' h' a _ b=>hk p' c' h' a b
end
def PaperEnd(h:LH)(f:FileC)(u:UseFile)(y:Paper)(vs:List Value)(h':LH):Prop:=∃ p n c,vs=[.int .i64 u.items,.int .i64 u.lands,.int .i64 u.from_,.int .i64 u.idle,.slice f.p4 f.n4 f.c4,.slice p n c,.slice f.p6 f.n6 f.c6]/\h.le h'/\FileR h'.get { f with p5:=p,n5:=n,c5:=c } { u with papers:=u.papers++[y] }
theorem paperEnd_of{h h':LH}{f:FileC}{u:UseFile}{y:Paper}(hu:FileR h.get f u)(h8:u.papers.length<=8){p:Option Addr}{n c:Nat}(hle:h.le h')(g:Growing (PaperEnc h.get) 31 4 h.get h'.get p n c (u.papers++[y])):PaperEnd h f u y [.int .i64 u.items,.int .i64 u.lands,.int .i64 u.from_,.int .i64 u.idle,.slice f.p4 f.n4 f.c4,.slice p n c,.slice f.p6 f.n6 f.c6] h' :=
 ⟨p,n,c,rfl,hle,(hu.le hle.1).excuses,g.sl PaperEnc.len (by omega) (PaperEnc.e (Rd.of_le hle.1)) (by simp;omega),(hu.le hle.1).requests⟩
end Go.Y
end
section
namespace Go.TM
theorem can_sub{u:UseFile}{k i:Int}{L L':List Request}(h:∀ r∈L,r∈L')(hc:can u k i L'=true):can u k i L=true:=by
 obtain⟨ds,c1,c2⟩:=can_iff.1 hc;exact can_iff.2 ⟨ds,c1,fun r hr=>c2 r (h r hr)⟩
theorem left_sub{u o:UseFile}{k i d e:Int}(hs:∀ x,safe o k i x=safe u k i x)(hc:∀ L,can o k i L=can u k i L)(h:∀ r∈against u k i d,r∈against o k i e):rk (left o k i e)<=rk (left u k i d):=by
 refine rk_le (left_vals _ _ _ _) (left_vals _ _ _ _) ?_ ?_
 ·rw[left_one_iff,left_one_iff];intro hh r hr;rw[<- hs];exact hh r (h r hr)
 ·rw[left_two_iff,left_two_iff];rintro⟨h1,h2⟩;refine⟨fun h3=>h1 (left_one_iff.2 fun r hr=>?_),?_⟩
  ·rw[<- hs];exact left_one_iff.1 h3 r (h r hr)
  ·cases hcc:can o k i (against o k i e) with
   | false=>rfl
   | true =>
    rw[hc]at hcc;rw[can_sub h hcc]at h2;cases h2
theorem against_more{u:UseFile}{r:Request}{k i e:Int}:against { u with requests:=u.requests++[r] } k i e=against u k i e++(if agB k i e r then [r] else []):=by
 show (u.requests++[r]).filter (agB k i e)=_;rw[List.filter_append];congr 1;cases hs:agB k i e r<;>simp[hs]
theorem can_req{u:UseFile}{r:Request}(k i:Int)(L:List Request):can { u with requests:=u.requests++[r] } k i L=can u k i L:=by
 rw[Bool.eq_iff_iff,can_iff,can_iff];exact Iff.rfl
theorem more_request{u:UseFile}{r:Request}{k i e:Int}:rk (left { u with requests:=u.requests++[r] } k i e)<=rk (left u k i e) :=
 left_sub (fun _=>rfl) (fun L=>can_req k i L) fun x hx=>by rw[against_more];exact List.mem_append_left _ hx
end Go.TM
end
namespace Go.Y
section
attribute [local irreducible] T.wp CV FWK
def ReqB(h0:Cells)(h:Cells)(a:Addr)(x:Request):Prop:=∃ q m c,(∀ (j:Nat) w,[Value.int .i64 x.day,.int .i64 x.land,.slice q m c][j]?=some w->h.cell? (a.add j)=some w)/\Sl IntE 1 h0 q m x.items
theorem reqTold{h0 h:Cells}:ToldE (ReqB h0) (ReqEnc h0) 3 h:=by
 rintro a x ⟨q,m,c,h1,h2⟩;exact⟨_,⟨q,m,c,rfl,h2⟩,rfl,h1,fun w hw=>by simp at hw;rcases hw with rfl|rfl|rfl<;>rfl⟩
theorem reqB_of{h0 h:Cells}(hr:Rd h0 h){p:Option Addr}{n:Nat}{l:List Request}(s:Sl RequestE 3 h0 p n l):Sl (ReqB h0) 3 h p n l:=by
 refine⟨s.1,s.2.1,fun i x hx=>?_⟩;obtain⟨a,ha,h1,h2,q,m,c,h4,h5⟩:=s.2.2 i x hx;refine⟨a,ha,q,m,c,fun j w hj=>?_,h5⟩
 match j,hj with
 | 0,hj=>cases hj;exact hr _ _ h1
 | 1,hj=>cases hj;exact hr _ _ h2
 | 2,hj=>cases hj;exact hr _ _ h4
 | j+3,hj=>simp at hj
def ReqEnd(h:LH)(f:FileC)(u:UseFile)(y:Request)(vs:List Value)(h':LH):Prop:=∃ p n c,vs=[.int .i64 u.items,.int .i64 u.lands,.int .i64 u.from_,.int .i64 u.idle,.slice f.p4 f.n4 f.c4,.slice f.p5 f.n5 f.c5,.slice p n c]/\h.le h'/\FileR h'.get { f with p6:=p,n6:=n,c6:=c } { u with requests:=u.requests++[y] }
theorem reqEnd_of{h h':LH}{f:FileC}{u:UseFile}{y:Request}(hu:FileR h.get f u)(h8:u.requests.length<=8){p:Option Addr}{n c:Nat}(hle:h.le h')(g:Growing (ReqEnc h.get) 33 3 h.get h'.get p n c (u.requests++[y])):ReqEnd h f u y [.int .i64 u.items,.int .i64 u.lands,.int .i64 u.from_,.int .i64 u.idle,.slice f.p4 f.n4 f.c4,.slice f.p5 f.n5 f.c5,.slice p n c] h' :=
 ⟨p,n,c,rfl,hle,(hu.le hle.1).excuses,(hu.le hle.1).papers,g.sl ReqEnc.len (by omega) (ReqEnc.e (Rd.of_le hle.1)) (by simp;omega)⟩
theorem leftAll_get{u:UseFile}{k d:Int}{j:Nat}{y:Int}(hj:j<u.items.toNat)(hy:(leftAll u k d)[j]?=some y):y=left u k j d:=by
 unfold leftAll at hy;rw[List.getElem?_map,List.getElem?_range hj]at hy;simpa using hy.symm
theorem leftAll_len(u:UseFile)(k d:Int):(leftAll u k d).length=u.items.toNat:=by unfold leftAll;rw[List.length_map,List.length_range]
end
section
set_option linter.unusedVariables false
variable {X:XP} {h:LH} {A:Value->LH->Prop}
def n3110(u_0 u_1 u_2 u_3:Int)(u_4p:Option Addr)(u_4n u_4c:Nat)(u_5p:Option Addr)(u_5n u_5c:Nat)(u_6p:Option Addr)(u_6n u_6c:Nat)(p_0 p_1 p_2:Int)(p_3p:Option Addr)(p_3n p_3c:Nat):T:=.blk (.both (.sem false (Instr.buildSlice 23 0 #[]) fun v=>.unS v fun a n c=>.nds [.val (.agg #[p_0,p_1,p_2,.slice p_3p p_3n p_3c]),.S u_5p u_5n u_5c,.pp 2 5] (.both (.sem false (Builtin.append_ #[23,23] 23 #[.slice a n c,.slice u_5p u_5n u_5c]) fun v=>.unS v fun a n c=>.nds [.val (.agg #[p_0,p_1,p_2,.slice p_3p p_3n p_3c]),.pp 2 5] (.sem false (Instr.buildSlice 23 1 #[(0,.agg #[p_0,p_1,p_2,.slice p_3p p_3n p_3c])]) fun v=>.unS v fun a_1 n_1 c_1=>.np 2 5 (.sem false (Builtin.append_ #[23,23] 23 #[.slice a n c,.slice a_1 n_1 c_1]) fun v=>.unS v fun a n c=>.np 2 5 (.ag [u_0,u_1,u_2,u_3,.slice u_4p u_4n u_4c,.slice a n c,.slice u_6p u_6n u_6c])))) (.sem false (Instr.buildSlice 23 1 #[(0,.agg #[p_0,p_1,p_2,.slice p_3p p_3n p_3c])]) fun v=>.unS v fun a_1 n_1 c_1=>.nds [.S u_5p u_5n u_5c,.pp 2 5] (.sem false (Builtin.append_ #[23,23] 23 #[.slice a n c,.slice u_5p u_5n u_5c]) fun v=>.unS v fun a n c=>.np 2 5 (.sem false (Builtin.append_ #[23,23] 23 #[.slice a n c,.slice a_1 n_1 c_1]) fun v=>.unS v fun a n c=>.np 2 5 (.ag [u_0,u_1,u_2,u_3,.slice u_4p u_4n u_4c,.slice a n c,.slice u_6p u_6n u_6c])))))) (.sem false (Instr.buildSlice 23 1 #[(0,.agg #[p_0,p_1,p_2,.slice p_3p p_3n p_3c])]) fun v=>.unS v fun a n c=>.nds [.S u_5p u_5n u_5c,.pp 2 5] (.sem false (Instr.buildSlice 23 0 #[]) fun v=>.unS v fun a_1 n_1 c_1=>.nds [.S u_5p u_5n u_5c,.pp 2 5] (.sem false (Builtin.append_ #[23,23] 23 #[.slice a_1 n_1 c_1,.slice u_5p u_5n u_5c]) fun v=>.unS v fun a_2 n_2 c_2=>.np 2 5 (.sem false (Builtin.append_ #[23,23] 23 #[.slice a_2 n_2 c_2,.slice a n c]) fun v=>.unS v fun a n c=>.np 2 5 (.ag [u_0,u_1,u_2,u_3,.slice u_4p u_4n u_4c,.slice a n c,.slice u_6p u_6n u_6c])))))) (fun vs=>.pi vs fun n vs=>.pi vs fun n_1 vs=>.pi vs fun n_2 vs=>.pi vs fun n_3 vs=>.popS vs fun a n_4 c vs=>.popS vs fun a_1 n_5 c_1 vs=>.popS vs fun a_2 n_6 c_2 vs=>.unNil vs (bif decide ((↑p_3n:Int)<=20) then .cI 13 #[.agg #[n,n_1,n_2,n_3,.slice a n_4 c,.slice a_1 n_5 c_1,.slice a_2 n_6 c_2]] fun n_7=>.nds [.B (decide ((↑p_3n:Int)<=20)),.val (.int .i64 (↑p_3n:Int)),.S p_3p p_3n p_3c,.pp 3 3,.val (.agg #[n,n_1,n_2,n_3,.slice a n_4 c,.slice a_1 n_5 c_1,.slice a_2 n_6 c_2]),.B (n_7==0),.B (n_7==0),.B (decide ((↑p_3n:Int)<=20)),.val (.int .i64 (↑p_3n:Int)),.S p_3p p_3n p_3c,.pp 3 3] (.rt (.tuple #[.agg #[n,n_1,n_2,n_3,.slice a n_4 c,.slice a_1 n_5 c_1,.slice a_2 n_6 c_2],.bool (n_7==0)])) else .nds [.B (decide ((↑p_3n:Int)<=20)),.val (.int .i64 (↑p_3n:Int)),.S p_3p p_3n p_3c,.pp 3 3,.val (.agg #[n,n_1,n_2,n_3,.slice a n_4 c,.slice a_1 n_5 c_1,.slice a_2 n_6 c_2])] (.both (.nds [.B (decide ((↑p_3n:Int)<=20)),.val (.int .i64 (↑p_3n:Int)),.S p_3p p_3n p_3c,.pp 3 3,.val (.agg #[n,n_1,n_2,n_3,.slice a n_4 c,.slice a_1 n_5 c_1,.slice a_2 n_6 c_2]),false,.B (decide ((↑p_3n:Int)<=20)),.val (.int .i64 (↑p_3n:Int)),.S p_3p p_3n p_3c,.pp 3 3] (.rt (.tuple #[.agg #[n,n_1,n_2,n_3,.slice a n_4 c,.slice a_1 n_5 c_1,.slice a_2 n_6 c_2],false]))) (.nds [.B (decide ((↑p_3n:Int)<=20)),.val (.int .i64 (↑p_3n:Int)),.S p_3p p_3n p_3c,.pp 3 3,.B (decide ((↑p_3n:Int)<=20)),.val (.int .i64 (↑p_3n:Int)),.S p_3p p_3n p_3c,.pp 3 3] (.rt (.tuple #[.agg #[n,n_1,n_2,n_3,.slice a n_4 c,.slice a_1 n_5 c_1,.slice a_2 n_6 c_2],false])))))) (fun vs=>.pi vs fun n vs=>.pi vs fun n vs=>.pi vs fun n vs=>.pi vs fun n vs=>.popS vs fun a n c vs=>.popS vs fun a n c vs=>.popS vs fun a n c vs=>.unNil vs (.rt (.tuple #[.agg #[.int .i64 0,.int .i64 0,.int .i64 0,.int .i64 0,.slice none 0 0,.slice none 0 0,.slice none 0 0],false]))) fun x x_1=>.fail
theorem w3110(u_0 u_1 u_2 u_3:Int)(u_4p:Option Addr)(u_4n u_4c:Nat)(u_5p:Option Addr)(u_5n u_5c:Nat)(u_6p:Option Addr)(u_6n u_6c:Nat)(p_0 p_1 p_2:Int)(p_3p:Option Addr)(p_3n p_3c:Nat):FX X 10 #[.agg #[u_0,u_1,u_2,u_3,.slice u_4p u_4n u_4c,.slice u_5p u_5n u_5c,.slice u_6p u_6n u_6c],.agg #[p_0,p_1,p_2,.slice p_3p p_3n p_3c]] h A (n3110 u_0 u_1 u_2 u_3 u_4p u_4n u_4c u_5p u_5n u_5c u_6p u_6n u_6c p_0 p_1 p_2 p_3p p_3n p_3c):=fk [2,3,4,6] [] [⟨3,[(28672,.int .i64),(28673,.int .i64),(28674,.int .i64),(28675,.int .i64),(28676,.slice),(28677,.slice),(28678,.slice)],[2,3,4],[],[],[]⟩] Tryz.f10
def n3112(u_0 u_1 u_2 u_3:Int)(u_4p:Option Addr)(u_4n u_4c:Nat)(u_5p:Option Addr)(u_5n u_5c:Nat)(u_6p:Option Addr)(u_6n u_6c:Nat)(r_0 r_1:Int)(r_2p:Option Addr)(r_2n r_2c:Nat):T:=.blk (.both (.sem false (Instr.buildSlice 24 0 #[]) fun v=>.unS v fun a n c=>.nds [.val (.agg #[r_0,r_1,.slice r_2p r_2n r_2c]),.S u_6p u_6n u_6c,.pp 2 6] (.both (.sem false (Builtin.append_ #[24,24] 24 #[.slice a n c,.slice u_6p u_6n u_6c]) fun v=>.unS v fun a n c=>.nds [.val (.agg #[r_0,r_1,.slice r_2p r_2n r_2c]),.pp 2 6] (.sem false (Instr.buildSlice 24 1 #[(0,.agg #[r_0,r_1,.slice r_2p r_2n r_2c])]) fun v=>.unS v fun a_1 n_1 c_1=>.np 2 6 (.sem false (Builtin.append_ #[24,24] 24 #[.slice a n c,.slice a_1 n_1 c_1]) fun v=>.unS v fun a n c=>.np 2 6 (.ag [u_0,u_1,u_2,u_3,.slice u_4p u_4n u_4c,.slice u_5p u_5n u_5c,.slice a n c])))) (.sem false (Instr.buildSlice 24 1 #[(0,.agg #[r_0,r_1,.slice r_2p r_2n r_2c])]) fun v=>.unS v fun a_1 n_1 c_1=>.nds [.S u_6p u_6n u_6c,.pp 2 6] (.sem false (Builtin.append_ #[24,24] 24 #[.slice a n c,.slice u_6p u_6n u_6c]) fun v=>.unS v fun a n c=>.np 2 6 (.sem false (Builtin.append_ #[24,24] 24 #[.slice a n c,.slice a_1 n_1 c_1]) fun v=>.unS v fun a n c=>.np 2 6 (.ag [u_0,u_1,u_2,u_3,.slice u_4p u_4n u_4c,.slice u_5p u_5n u_5c,.slice a n c])))))) (.sem false (Instr.buildSlice 24 1 #[(0,.agg #[r_0,r_1,.slice r_2p r_2n r_2c])]) fun v=>.unS v fun a n c=>.nds [.S u_6p u_6n u_6c,.pp 2 6] (.sem false (Instr.buildSlice 24 0 #[]) fun v=>.unS v fun a_1 n_1 c_1=>.nds [.S u_6p u_6n u_6c,.pp 2 6] (.sem false (Builtin.append_ #[24,24] 24 #[.slice a_1 n_1 c_1,.slice u_6p u_6n u_6c]) fun v=>.unS v fun a_2 n_2 c_2=>.np 2 6 (.sem false (Builtin.append_ #[24,24] 24 #[.slice a_2 n_2 c_2,.slice a n c]) fun v=>.unS v fun a n c=>.np 2 6 (.ag [u_0,u_1,u_2,u_3,.slice u_4p u_4n u_4c,.slice u_5p u_5n u_5c,.slice a n c])))))) (fun vs=>.pi vs fun n vs=>.pi vs fun n_1 vs=>.pi vs fun n_2 vs=>.pi vs fun n_3 vs=>.popS vs fun a n_4 c vs=>.popS vs fun a_1 n_5 c_1 vs=>.popS vs fun a_2 n_6 c_2 vs=>.unNil vs (bif decide ((↑r_2n:Int)<=20) then .cI 13 #[.agg #[n,n_1,n_2,n_3,.slice a n_4 c,.slice a_1 n_5 c_1,.slice a_2 n_6 c_2]] fun n_7=>.nds [.B (decide ((↑r_2n:Int)<=20)),.val (.int .i64 (↑r_2n:Int)),.S r_2p r_2n r_2c,.pp 3 2,.val (.agg #[n,n_1,n_2,n_3,.slice a n_4 c,.slice a_1 n_5 c_1,.slice a_2 n_6 c_2]),.B (n_7==0),.B (n_7==0),.B (decide ((↑r_2n:Int)<=20)),.val (.int .i64 (↑r_2n:Int)),.S r_2p r_2n r_2c,.pp 3 2] (.rt (.tuple #[.agg #[n,n_1,n_2,n_3,.slice a n_4 c,.slice a_1 n_5 c_1,.slice a_2 n_6 c_2],.bool (n_7==0)])) else .nds [.B (decide ((↑r_2n:Int)<=20)),.val (.int .i64 (↑r_2n:Int)),.S r_2p r_2n r_2c,.pp 3 2,.val (.agg #[n,n_1,n_2,n_3,.slice a n_4 c,.slice a_1 n_5 c_1,.slice a_2 n_6 c_2])] (.both (.nds [.B (decide ((↑r_2n:Int)<=20)),.val (.int .i64 (↑r_2n:Int)),.S r_2p r_2n r_2c,.pp 3 2,.val (.agg #[n,n_1,n_2,n_3,.slice a n_4 c,.slice a_1 n_5 c_1,.slice a_2 n_6 c_2]),false,.B (decide ((↑r_2n:Int)<=20)),.val (.int .i64 (↑r_2n:Int)),.S r_2p r_2n r_2c,.pp 3 2] (.rt (.tuple #[.agg #[n,n_1,n_2,n_3,.slice a n_4 c,.slice a_1 n_5 c_1,.slice a_2 n_6 c_2],false]))) (.nds [.B (decide ((↑r_2n:Int)<=20)),.val (.int .i64 (↑r_2n:Int)),.S r_2p r_2n r_2c,.pp 3 2,.B (decide ((↑r_2n:Int)<=20)),.val (.int .i64 (↑r_2n:Int)),.S r_2p r_2n r_2c,.pp 3 2] (.rt (.tuple #[.agg #[n,n_1,n_2,n_3,.slice a n_4 c,.slice a_1 n_5 c_1,.slice a_2 n_6 c_2],false])))))) (fun vs=>.pi vs fun n vs=>.pi vs fun n vs=>.pi vs fun n vs=>.pi vs fun n vs=>.popS vs fun a n c vs=>.popS vs fun a n c vs=>.popS vs fun a n c vs=>.unNil vs (.rt (.tuple #[.agg #[.int .i64 0,.int .i64 0,.int .i64 0,.int .i64 0,.slice none 0 0,.slice none 0 0,.slice none 0 0],false]))) fun x x_1=>.fail
theorem w3112(u_0 u_1 u_2 u_3:Int)(u_4p:Option Addr)(u_4n u_4c:Nat)(u_5p:Option Addr)(u_5n u_5c:Nat)(u_6p:Option Addr)(u_6n u_6c:Nat)(r_0 r_1:Int)(r_2p:Option Addr)(r_2n r_2c:Nat):FX X 11 #[.agg #[u_0,u_1,u_2,u_3,.slice u_4p u_4n u_4c,.slice u_5p u_5n u_5c,.slice u_6p u_6n u_6c],.agg #[r_0,r_1,.slice r_2p r_2n r_2c]] h A (n3112 u_0 u_1 u_2 u_3 u_4p u_4n u_4c u_5p u_5n u_5c u_6p u_6n u_6c r_0 r_1 r_2p r_2n r_2c):=fk [2,3,4,6] [] [⟨3,[(28672,.int .i64),(28673,.int .i64),(28674,.int .i64),(28675,.int .i64),(28676,.slice),(28677,.slice),(28678,.slice)],[2,3,4],[],[],[]⟩] Tryz.f11
end
section
attribute [local irreducible] T.wp CV FWK
theorem c3110{h:LH}{f:FileC}{u:UseFile}(hu:FileR h.get f u)(hck:checkF u=0){y:Paper}{q:Option Addr}{m cq:Nat}(hy:Sl IntE 1 h.get q m y.items) :
  Gr Tryz.prog 10 #[fileV f u,paperV y q m cq] h fun r h'=>∃ f' b,r=.tuple #[fileV f' { u with papers:=u.papers++[y] },.bool b]/\FileR h'.get f' { u with papers:=u.papers++[y] }/\(b=true->checkF { u with papers:=u.papers++[y] }=0):=by
 refine w3110 _ _ _ _ _ _ _ _ _ _ _ _ _ _ _ _ _ _ _ X0_ok ?_;unfold n3110;have h8:=(check_papers hck).1;have hn5:=hu.papers.1;refine t_blk (PaperEnd h f u y) ?_ ?_
 ·have ones:∀ v∈[Value.int .i64 y.days.first,.int .i64 y.days.last,.int .i64 y.land,.slice q m cq],isOne v=true:=by
   intro w hw;simp at hw;rcases hw with rfl|rfl|rfl|rfl<;>rfl
  have enc:PaperEnc h.get y [Value.int .i64 y.days.first,.int .i64 y.days.last,.int .i64 y.land,.slice q m cq]:=⟨q,m,cq,rfl,hy⟩
  obtain⟨hB,hBe⟩ : ∃ hB,hB=h:=⟨_,rfl⟩
  have huB:FileR hB.get f u:=by rw[hBe];exact hu
  rw[<- hBe]at enc ⊢;refine t_both ?_ ?_
  ·refine t_build0G (h₀:=hB) (Enc:=PaperEnc hB.get) und23 inf69 (LH.le_refl _) fun r0 h1 hr0 le1 g1=>?_;refine gZ ?_;refine t_both ?_ ?_
   ·refine t_copy (h₀:=hB) rfl rfl und23 und23 inf69 rfl (by omega) (by omega) g1 le1 (PaperB.of (Rd.of_le le1.1) huB.papers) paperTold fun p2 c2 h2 le2 _ g2=>?_;refine gZ ?_;refine t_buildG und23 inf69 (by decide) (by decide) (cells:=#[.int .i64 y.days.first,.int .i64 y.days.last,.int .i64 y.land,.slice q m cq]) (by kernel_rfl) fun r h3 le3 hr3 e3=>?_;refine gZ ?_;refine copy_end1 (h:=hB) und23 inf69 rfl (by omega) (by omega) (g2.le le3.1) (LH.le_trans le2 le3) enc rfl ones e3 (fun j w hj=>by simpa using hj) fun p' c' h' le' g'=>?_;refine gZ ?_;exact t_again (paperEnd_of huB (by omega) le' g')
   ·refine t_buildG und23 inf69 (by decide) (by decide) (cells:=#[.int .i64 y.days.first,.int .i64 y.days.last,.int .i64 y.land,.slice q m cq]) (by kernel_rfl) fun r h2 le2 hr2 e2=>?_;refine gZ ?_;have le02:=LH.le_trans le1 le2;refine t_copy (h₀:=hB) rfl rfl und23 und23 inf69 rfl (by omega) (by omega) (g1.le le2.1) le02 (PaperB.of (Rd.of_le le02.1) huB.papers) paperTold fun p3 c3 h3 le3 kp g3=>?_;refine gZ ?_;have hne:r≠r0:=by
     rintro rfl;obtain⟨vs,⟨_,hh⟩,_⟩:=g1.row;rcases hh with⟨hh,_⟩|⟨r',cs,hh,h5,_⟩
     ·cases hh
     ·cases hh;rw[hr2]at h5;cases h5
    have e3:=kp r _ (fun a ha e=>by cases ha;exact hne e.symm) e2;refine copy_end1 (h:=hB) und23 inf69 rfl (by omega) (by omega) g3 le3 enc rfl ones e3 (fun j w hj=>by simpa using hj) fun p' c' h' le' g'=>?_;refine gZ ?_;exact t_again (paperEnd_of huB (by omega) le' g')
  ·refine t_buildG und23 inf69 (by decide) (by decide) (cells:=#[.int .i64 y.days.first,.int .i64 y.days.last,.int .i64 y.land,.slice q m cq]) (by kernel_rfl) fun r h1 le1 hr1 e1=>?_;refine gZ ?_;refine t_build0G (h₀:=hB) (Enc:=PaperEnc hB.get) und23 inf69 le1 fun r0 h2 hr0 le2 g2=>?_;refine gZ ?_;have le02:=LH.le_trans le1 le2;refine t_copy (h₀:=hB) rfl rfl und23 und23 inf69 rfl (by omega) (by omega) g2 le02 (PaperB.of (Rd.of_le le02.1) huB.papers) paperTold fun p3 c3 h3 le3 kp g3=>?_;refine gZ ?_;have hne:r≠r0:=by rintro rfl;rw[e1]at hr0;cases hr0
   have e3:=kp r _ (fun a ha e=>by cases ha;exact hne e.symm) (le2.1 _ _ e1);refine copy_end1 (h:=hB) und23 inf69 rfl (by omega) (by omega) g3 le3 enc rfl ones e3 (fun j w hj=>by simpa using hj) fun p' c' h' le' g'=>?_;refine gZ ?_;exact t_again (paperEnd_of huB (by omega) le' g')
 rintro vs h1 ⟨p1,n1,c1,rfl,le1,ho⟩;refine yI (fun _=>?_) (fun _=>?_)
 ·refine t_pu (c27 ho) ?_;refine gZ ?_;exact t_ret ⟨le1,_,_,rfl,ho,fun e=>by simpa using e⟩
 ·refine gZ ?_;refine t_both ?_ ?_
  ·refine gZ ?_;exact t_ret ⟨le1,_,_,rfl,ho,fun e=>by cases e⟩
  ·refine gZ ?_;exact t_ret ⟨le1,_,_,rfl,ho,fun e=>by cases e⟩
end
section
set_option linter.unusedVariables false
variable {X:XP} {h:LH} {A:Value->LH->Prop}
def n3300(u_0 u_1 u_2 u_3:Int)(u_4p:Option Addr)(u_4n u_4c:Nat)(u_5p:Option Addr)(u_5n u_5c:Nat)(u_6p:Option Addr)(u_6n u_6c:Nat)(land p_0 p_1 p_2:Int)(p_3p:Option Addr)(p_3n p_3c:Nat)(r_0 r_1:Int)(r_2p:Option Addr)(r_2n r_2c:Nat)(x_0p:Option Addr)(x_0n x_0c:Nat)(x_1p:Option Addr)(x_1n x_1c:Nat)(x_2 x_3 x_4 x_5 x_6 x_7 x_8 x_9 x_10 x_11 x_12 x_13:Int)(x_14p:Option Addr)(x_14n x_14c:Nat)(one two item:Int):T:=.blk (.cB 4 #[.agg #[u_0,u_1,u_2,u_3,.slice u_4p u_4n u_4c,.slice u_5p u_5n u_5c,.slice u_6p u_6n u_6c]] fun b=>bif !b then .cB 6 #[] fun b=>.rn [b] else .cB 5 #[.agg #[.slice x_0p x_0n x_0c,.slice x_1p x_1n x_1c,x_2,x_3,x_4,x_5,x_6,x_7,x_8,x_9,x_10,x_11,x_12,x_13,.slice x_14p x_14n x_14c]] fun b=>bif !b then .cB 6 #[] fun b=>.rn [b] else bif (if x_13<u_0 then x_13 else u_0)==0 then .cB 6 #[] fun b=>.rn [b] else .ag [false]) (fun vs=>.popB vs fun b vs=>.unNil vs (.need ((↑x_14n:Int)≠0) (.need ((↑x_14n:Int)≠0) (.need ((if x_13<u_0 then x_13 else u_0)≠0) (.need (u_1≠0) (.need (u_1≠0) (.nds [.val (.int .i64 (Int.tmod (wrap .i64 land) u_1)),u_1,.pp 8 1,.val (.int .i64 (wrap .i64 land)),.val (.int .u8 land)] (.need ((if x_13<u_0 then x_13 else u_0)≠0) (.nds [.val (.int .i64 (Int.tmod (wrap .i64 item) (if x_13<u_0 then x_13 else u_0))),.val (.int .i64 (if x_13<u_0 then x_13 else u_0)),x_13,.pp 12 13,u_0,.pp 8 0,.val (.int .i64 (wrap .i64 item)),.val (.int .u8 item)] (.need ((↑x_14n:Int)≠0) (.nds [.val (.int .i64 (Int.tmod (wrap .i64 two) (↑x_14n:Int))),.val (.int .i64 (↑x_14n:Int)),.S x_14p x_14n x_14c,.pp 12 14,.val (.int .i64 (wrap .i64 two)),.val (.int .u8 two)] (.need (u_1≠0) (.nds [.val (.int .i64 (Int.tmod (wrap .i64 land) u_1)),u_1,.pp 8 1,.val (.int .i64 (wrap .i64 land)),.val (.int .u8 land)] (.need ((if x_13<u_0 then x_13 else u_0)≠0) (.nds [.val (.int .i64 (Int.tmod (wrap .i64 item) (if x_13<u_0 then x_13 else u_0))),.val (.int .i64 (if x_13<u_0 then x_13 else u_0)),x_13,.pp 12 13,u_0,.pp 8 0,.val (.int .i64 (wrap .i64 item)),.val (.int .u8 item)] (.need (u_1≠0) (.nds [.val (.int .i64 (Int.tmod (wrap .i64 land) u_1)),u_1,.pp 8 1,.val (.int .i64 (wrap .i64 land)),.val (.int .u8 land)] (.cT 7 #[.agg #[.slice x_0p x_0n x_0c,.slice x_1p x_1n x_1c,x_2,x_3,x_4,x_5,x_6,x_7,x_8,x_9,x_10,x_11,x_12,x_13,.slice x_14p x_14n x_14c],.int .i64 (Int.tmod (wrap .i64 one) (↑x_14n:Int)),.int .i64 (Int.tmod (wrap .i64 two) (↑x_14n:Int)),.int .i64 (Int.tmod (wrap .i64 item) (if x_13<u_0 then x_13 else u_0))] fun v vs=>.unB v fun b_1=>.unCons vs fun v vs=>.ui v fun n=>.unNil vs (.cT 8 #[.agg #[.slice x_0p x_0n x_0c,.slice x_1p x_1n x_1c,x_2,x_3,x_4,x_5,x_6,x_7,x_8,x_9,x_10,x_11,x_12,x_13,.slice x_14p x_14n x_14c],.int .i64 (Int.tmod (wrap .i64 two) (↑x_14n:Int))] fun v vs=>.ui v fun n_1=>.unCons vs fun v vs=>.unB v fun b_2=>.unCons vs fun v vs=>.ui v fun n_2=>.unNil vs (.blk (bif n != 0 then .rn [false] else bif n_2 != 0 then .rn [false] else bif b_1 then bif !b_2 then .rn [false] else .ag [b] else .ag [b]) (fun vs=>.popB vs fun b vs=>.unNil vs (.blk (bif !b_1 then .cB 6 #[] fun b=>.rn [b] else bif decide (n_1>2000) then .cB 6 #[] fun b=>.rn [b] else .ag [b]) (fun vs=>.popB vs fun b vs=>.unNil vs (.cT 9 #[.agg #[u_0,u_1,u_2,u_3,.slice u_4p u_4n u_4c,.slice u_5p u_5n u_5c,.slice u_6p u_6n u_6c],.int .i64 (Int.tmod (wrap .i64 land) u_1),n_1,.int .i64 (Int.tmod (wrap .i64 item) (if x_13<u_0 then x_13 else u_0))] fun v vs=>.unB v fun b_3=>.unCons vs fun v vs=>.unB v fun b_4=>.unNil vs (bif !b_4 then .rt (.bool false) else .blk (.cT 10 #[.agg #[u_0,u_1,u_2,u_3,.slice u_4p u_4n u_4c,.slice u_5p u_5n u_5c,.slice u_6p u_6n u_6c],.agg #[p_0,p_1,p_2,.slice p_3p p_3n p_3c]] fun v vs=>.unAgg v fun l=>.pi l fun n vs_1=>.pi vs_1 fun n_3 vs_2=>.pi vs_2 fun n_4 vs_3=>.pi vs_3 fun n_5 vs_4=>.popS vs_4 fun a n_6 c vs_5=>.popS vs_5 fun a_1 n_7 c_1 vs_6=>.popS vs_6 fun a_2 n_8 c_2 vs_7=>.unNil vs_7 (.unCons vs fun v vs=>.unB v fun b_5=>.unNil vs (bif b_5 then .cT 9 #[.agg #[n,n_3,n_4,n_5,.slice a n_6 c,.slice a_1 n_7 c_1,.slice a_2 n_8 c_2],.int .i64 (Int.tmod (wrap .i64 land) u_1),n_1,.int .i64 (Int.tmod (wrap .i64 item) (if x_13<u_0 then x_13 else u_0))] fun v vs=>.unB v fun b_6=>.unCons vs fun v vs=>.unB v fun b_7=>.unNil vs (bif !b_7 then .rn [false] else bif b_3 then bif !b_6 then .rn [false] else .ag [b] else .ag [b]) else .ag [b]))) (fun vs=>.popB vs fun b vs=>.unNil vs (.cT 11 #[.agg #[u_0,u_1,u_2,u_3,.slice u_4p u_4n u_4c,.slice u_5p u_5n u_5c,.slice u_6p u_6n u_6c],.agg #[r_0,r_1,.slice r_2p r_2n r_2c]] fun v vs=>.unAgg v fun l=>.pi l fun n vs_1=>.pi vs_1 fun n_3 vs_2=>.pi vs_2 fun n_4 vs_3=>.pi vs_3 fun n_5 vs_4=>.popS vs_4 fun a n_6 c vs_5=>.popS vs_5 fun a_1 n_7 c_1 vs_6=>.popS vs_6 fun a_2 n_8 c_2 vs_7=>.unNil vs_7 (.unCons vs fun v vs=>.unB v fun b=>.unNil vs (bif b then .cT 9 #[.agg #[n,n_3,n_4,n_5,.slice a n_6 c,.slice a_1 n_7 c_1,.slice a_2 n_8 c_2],.int .i64 (Int.tmod (wrap .i64 land) u_1),n_1,.int .i64 (Int.tmod (wrap .i64 item) (if x_13<u_0 then x_13 else u_0))] fun v vs=>.unB v fun b=>.unCons vs fun v vs=>.unB v fun b_5=>.unNil vs (bif !b_5 then .rt (.bool false) else bif b then bif !b_3 then .rt (.bool false) else .cB 6 #[] fun b=>.rt (.bool b) else .cB 6 #[] fun b=>.rt (.bool b)) else .cB 6 #[] fun b=>.rt (.bool b))))) (fun vs=>.popB vs fun b vs=>.unNil vs (.rt (.bool b))) fun x x_1=>.fail))) (fun vs=>.popB vs fun b vs=>.unNil vs (.rt (.bool b))) fun x x_1=>.fail)) (fun vs=>.popB vs fun b vs=>.unNil vs (.rt (.bool b))) fun x x_1=>.fail)))))))))))))))))))) (fun vs=>.popB vs fun b vs=>.unNil vs (.rt (.bool b))) fun x x_1=>.fail
theorem w3300(u_0 u_1 u_2 u_3:Int)(u_4p:Option Addr)(u_4n u_4c:Nat)(u_5p:Option Addr)(u_5n u_5c:Nat)(u_6p:Option Addr)(u_6n u_6c:Nat)(land p_0 p_1 p_2:Int)(p_3p:Option Addr)(p_3n p_3c:Nat)(r_0 r_1:Int)(r_2p:Option Addr)(r_2n r_2c:Nat)(x_0p:Option Addr)(x_0n x_0c:Nat)(x_1p:Option Addr)(x_1n x_1c:Nat)(x_2 x_3 x_4 x_5 x_6 x_7 x_8 x_9 x_10 x_11 x_12 x_13:Int)(x_14p:Option Addr)(x_14n x_14c:Nat)(one two item:Int):FX X 3 #[.agg #[u_0,u_1,u_2,u_3,.slice u_4p u_4n u_4c,.slice u_5p u_5n u_5c,.slice u_6p u_6n u_6c],.int .u8 land,.agg #[p_0,p_1,p_2,.slice p_3p p_3n p_3c],.agg #[r_0,r_1,.slice r_2p r_2n r_2c],.agg #[.slice x_0p x_0n x_0c,.slice x_1p x_1n x_1c,x_2,x_3,x_4,x_5,x_6,x_7,x_8,x_9,x_10,x_11,x_12,x_13,.slice x_14p x_14n x_14c],.int .u8 one,.int .u8 two,.int .u8 item] h A (n3300 u_0 u_1 u_2 u_3 u_4p u_4n u_4c u_5p u_5n u_5c u_6p u_6n u_6c land p_0 p_1 p_2 p_3p p_3n p_3c r_0 r_1 r_2p r_2n r_2c
  x_0p x_0n x_0c x_1p x_1n x_1c x_2 x_3 x_4 x_5 x_6 x_7 x_8 x_9 x_10 x_11 x_12 x_13 x_14p x_14n x_14c one two item):=fk [8,10,11,12,28,32] [] [⟨18,[(16,.bool)],[8,10,11,12],[],[],[]⟩,⟨10,[(16,.bool)],[8,10,11,12],[],[],[]⟩,⟨8,[(16,.bool)],[8,10,11,12],[],[],[]⟩,⟨3,[(16,.bool)],[8,10,11,12],[],[],[]⟩] Tryz.f3
end
end Go.Y
section
namespace Go.TM
theorem rk_one{a b:Int}(h:rk a<=rk b)(ha:a=1):b=1:=by
 subst ha;unfold rk at h;simp only[if_neg (show ¬ (1:Int)=2 by decide),if_true]at h;split at h
 ·omega
 ·split at h
  ·assumption
  ·omega
end Go.TM
namespace Go.Y
attribute [local irreducible] T.wp CV FWK
theorem c3112{h:LH}{f:FileC}{u:UseFile}(hu:FileR h.get f u)(hck:checkF u=0){y:Request}{q:Option Addr}{m cq:Nat}(hy:Sl IntE 1 h.get q m y.items) :
  Gr Tryz.prog 11 #[fileV f u,reqV y q m cq] h fun r h'=>∃ f' b,r=.tuple #[fileV f' { u with requests:=u.requests++[y] },.bool b]/\FileR h'.get f' { u with requests:=u.requests++[y] }/\(b=true->checkF { u with requests:=u.requests++[y] }=0):=by
 refine w3112 _ _ _ _ _ _ _ _ _ _ _ _ _ _ _ _ _ _ X0_ok ?_;unfold n3112;have h8:=(check_requests hck).1;have hn6:=hu.requests.1;refine t_blk (ReqEnd h f u y) ?_ ?_
 ·have ones:∀ v∈[Value.int .i64 y.day,.int .i64 y.land,.slice q m cq],isOne v=true:=by
   intro w hw;simp at hw;rcases hw with rfl|rfl|rfl<;>rfl
  have enc:ReqEnc h.get y [Value.int .i64 y.day,.int .i64 y.land,.slice q m cq]:=⟨q,m,cq,rfl,hy⟩
  obtain⟨hB,hBe⟩ : ∃ hB,hB=h:=⟨_,rfl⟩
  have huB:FileR hB.get f u:=by rw[hBe];exact hu
  rw[<- hBe]at enc ⊢;refine t_both ?_ ?_
  ·refine t_build0G (h₀:=hB) (Enc:=ReqEnc hB.get) und24 inf64 (LH.le_refl _) fun r0 h1 hr0 le1 g1=>?_;refine gZ ?_;refine t_both ?_ ?_
   ·refine t_copy (h₀:=hB) rfl rfl und24 und24 inf64 rfl (by omega) (by omega) g1 le1 (reqB_of (Rd.of_le le1.1) huB.requests) reqTold fun p2 c2 h2 le2 _ g2=>?_;refine gZ ?_;refine t_buildG und24 inf64 (by decide) (by decide) (cells:=#[.int .i64 y.day,.int .i64 y.land,.slice q m cq]) (by kernel_rfl) fun r h3 le3 hr3 e3=>?_;refine gZ ?_;refine copy_end1 (h:=hB) und24 inf64 rfl (by omega) (by omega) (g2.le le3.1) (LH.le_trans le2 le3) enc rfl ones e3 (fun j w hj=>by simpa using hj) fun p' c' h' le' g'=>?_;refine gZ ?_;exact t_again (reqEnd_of huB (by omega) le' g')
   ·refine t_buildG und24 inf64 (by decide) (by decide) (cells:=#[.int .i64 y.day,.int .i64 y.land,.slice q m cq]) (by kernel_rfl) fun r h2 le2 hr2 e2=>?_;refine gZ ?_;have le02:=LH.le_trans le1 le2;refine t_copy (h₀:=hB) rfl rfl und24 und24 inf64 rfl (by omega) (by omega) (g1.le le2.1) le02 (reqB_of (Rd.of_le le02.1) huB.requests) reqTold fun p3 c3 h3 le3 kp g3=>?_;refine gZ ?_;have hne:r≠r0:=by
     rintro rfl;obtain⟨vs,⟨_,hh⟩,_⟩:=g1.row;rcases hh with⟨hh,_⟩|⟨r',cs,hh,h5,_⟩
     ·cases hh
     ·cases hh;rw[hr2]at h5;cases h5
    have e3:=kp r _ (fun a ha e=>by cases ha;exact hne e.symm) e2;refine copy_end1 (h:=hB) und24 inf64 rfl (by omega) (by omega) g3 le3 enc rfl ones e3 (fun j w hj=>by simpa using hj) fun p' c' h' le' g'=>?_;refine gZ ?_;exact t_again (reqEnd_of huB (by omega) le' g')
  ·refine t_buildG und24 inf64 (by decide) (by decide) (cells:=#[.int .i64 y.day,.int .i64 y.land,.slice q m cq]) (by kernel_rfl) fun r h1 le1 hr1 e1=>?_;refine gZ ?_;refine t_build0G (h₀:=hB) (Enc:=ReqEnc hB.get) und24 inf64 le1 fun r0 h2 hr0 le2 g2=>?_;refine gZ ?_;have le02:=LH.le_trans le1 le2;refine t_copy (h₀:=hB) rfl rfl und24 und24 inf64 rfl (by omega) (by omega) g2 le02 (reqB_of (Rd.of_le le02.1) huB.requests) reqTold fun p3 c3 h3 le3 kp g3=>?_;refine gZ ?_;have hne:r≠r0:=by rintro rfl;rw[e1]at hr0;cases hr0
   have e3:=kp r _ (fun a ha e=>by cases ha;exact hne e.symm) (le2.1 _ _ e1);refine copy_end1 (h:=hB) und24 inf64 rfl (by omega) (by omega) g3 le3 enc rfl ones e3 (fun j w hj=>by simpa using hj) fun p' c' h' le' g'=>?_;refine gZ ?_;exact t_again (reqEnd_of huB (by omega) le' g')
 rintro vs h1 ⟨p1,n1,c1,rfl,le1,ho⟩;refine yI (fun _=>?_) (fun _=>?_)
 ·refine t_pu (c27 ho) ?_;refine gZ ?_;exact t_ret ⟨le1,_,_,rfl,ho,fun e=>by simpa using e⟩
 ·refine gZ ?_;refine t_both ?_ ?_
  ·refine gZ ?_;exact t_ret ⟨le1,_,_,rfl,ho,fun e=>by cases e⟩
  ·refine gZ ?_;exact t_ret ⟨le1,_,_,rfl,ho,fun e=>by cases e⟩
theorem t_shownL{h h':LH}{k:Bool->T}{Q:Leaf->LH->Prop}(hch:h.chans=[])(hpe:h.pend=[])(hp:Parts h.get)(hle:h.le h')(hk:∀ h'',h''.chans=[]/\h''.pend=[]/\h''.todo=h.todo->(k true).wp XL Tryz.prog Q h'') :
  (T.call false 6 #[] fun v=>T.unB v k).wp XL Tryz.prog Q h':=by
 refine t_call (FW.upL (fin_shown hch hpe hp hle)) ?_;rintro _ h'' ⟨rfl,h2⟩;exact gC (hk h'' h2)
theorem c3304{h:LH}(hp:Parts h.get){f:FileC}{u:UseFile}(hu:FileR h.get f u)(hck:checkF u=0){k d:Int}(hk:0<=k/\k<u.lands)(hd:0<=d/\d<=2000){j:Nat}(hj:(j:Int)<u.items) :
  Gr Tryz.prog 9 #[fileV f u,k,d,.int .i64 j] h fun r _=>r=.tuple #[.bool (left u k (j:Int) d==1),.bool true]:=by
 refine w3304 _ _ _ _ _ _ _ _ _ _ _ _ _ _ _ _ X0_ok ?_;unfold n3304;obtain⟨⟨i1,i2⟩,_,_,_⟩:=num_ok (check_num hck);refine t_gr (c23 hp hu k d) ?_;intro r1 g1 le1 hr1;obtain⟨p1,n1,k1,rfl,s1⟩:=hr1.form;rw[leftQ_ok hck hk hd,if_pos rfl]at s1;rw[leftQ_ok hck hk hd];have hl1:n1=u.items.toNat:=s1.1.trans (leftAll_len u k d);have hb1:=s1.2.1;have hlen1:=s1.1;obtain⟨x,a,hx,rfl,e4⟩:=s1.at (i:=j) (by omega);unfold IntE at e4;have hxl:x=left u k (j:Int) d:=leftAll_get (by omega) hx;subst hxl;have hin:0<=(j:Int)/\(j:Int)<(n1:Int):=by omega
 have hit:((n1:Int) != u.items)=false:=by simp;omega
 refine yF ?_;rw[hit];refine yF ?_;refine gZ ?_;exact t_ret ⟨le1,rfl⟩
theorem c3300{h:LH}(hch:h.chans=[])(hpe:h.pend=[])(hp:Parts h.get)(hle:Lens h.get){f:FileC}{u:UseFile}(hu:FileR h.get f u)(land:Int)(hl:0<=land/\land<=255){q:Option Addr}{m cq:Nat}{y:Paper}(hy:Sl IntE 1 h.get q m y.items)
 {q':Option Addr}{m' cq':Nat}{z:Request}(hz:Sl IntE 1 h.get q' m' z.items){g:DFileC}{t:DFile}(hr:DFileR h.get g t)(one:Int)(ho:0<=one/\one<=255)(two:Int)(ht:0<=two/\two<=255)(item:Int)(hi:0<=item/\item<=255) :
  FW XL Tryz.prog 3 #[fileV f u,.int .u8 land,paperV y q m cq,reqV z q' m' cq',dfV g t,.int .u8 one,.int .u8 two,.int .u8 item] h (Fin h):=by
 refine w3300 _ _ _ _ _ _ _ _ _ _ _ _ _ _ _ _ _ _ _ _ _ _ _ _ _ _ _ _ _ _ _ _ _ _ _ _ _ _ _ _ _ _ _ _ _ _ _ _ _ XL_ok ?_;unfold n3300;refine t_blk (fun vs h'=>vs=[.bool false]/\h.le h'/\checkF u=0/\DFileOk t/\0<t.apps.length/\¬ (if t.items<u.items then t.items else u.items)=0) ?_ ?_
 ·refine t_call (FW.top (c36 hu)) ?_;rintro _ _ ⟨rfl,bu,rfl,hbu⟩;refine yI (fun _=>?_) (fun hbf=>?_)
  ·refine t_shownL hch hpe hp (LH.le_refl _) fun h' hh=>?_;refine gZ ?_;exact t_ret ⟨rfl,hh⟩
  have hck:=hbu (by simpa using hbf);refine t_gr (c3301 hr) ?_;rintro _ h1 le1 ⟨bt,rfl,hbt⟩;refine yI (fun _=>?_) (fun hbf=>?_)
  ·refine t_shownL hch hpe hp le1 fun h' hh=>?_;refine gZ ?_;exact t_ret ⟨rfl,hh⟩
  refine t_cond (fun _=>?_) (fun hbg=>?_)
  ·refine t_shownL hch hpe hp le1 fun h' hh=>?_;refine gZ ?_;exact t_ret ⟨rfl,hh⟩
  exact t_again ⟨rfl,le1,hck,(hbt (by simpa using hbf)).1,(hbt (by simpa using hbf)).2,by simpa using hbg⟩
 rintro vs h1 ⟨rfl,le1,hck,ok,hpos,hit0⟩;obtain⟨⟨i1,i2⟩,⟨l1,l2⟩,⟨f1,f2⟩,⟨d1,d2⟩⟩:=num_ok (check_num hck);have hti:=ok.items;have hn0:=hr.apps.1;have h4:=ok.apps4;have hl0:u.lands≠0:=by omega
 have ht0:(g.n:Int)≠0:=by omega
 obtain⟨w,hw⟩ : ∃ w:Int,w=if t.items<u.items then t.items else u.items:=⟨_,rfl⟩
 have hwr:0<=w/\w<=t.items/\w<=u.items:=by rw[hw];split<;>omega
 rw[<- hw]at hit0;rw[<- hw];have ek:Int.tmod (wrap .i64 land) u.lands=land%u.lands:=by rw[wrap_u8 hl,tmod_nn hl.1]
 have ea:Int.tmod (wrap .i64 one) (g.n:Int)=((one%(g.n:Int)).toNat:Int):=by rw[wrap_u8 ho,tmod_nn ho.1];have:=mod_pos (n:=one) (b:=(g.n:Int)) (by omega);omega
 have eb:Int.tmod (wrap .i64 two) (g.n:Int)=((two%(g.n:Int)).toNat:Int):=by rw[wrap_u8 ht,tmod_nn ht.1];have:=mod_pos (n:=two) (b:=(g.n:Int)) (by omega);omega
 have ei:Int.tmod (wrap .i64 item) w=((item%w).toNat:Int):=by rw[wrap_u8 hi,tmod_nn hi.1];have:=mod_pos (n:=item) (b:=w) (by omega);omega
 have hk:=mod_pos (n:=land) (b:=u.lands) (by omega);have pa:=mod_pos (n:=one) (b:=(g.n:Int)) (by omega);have pb:=mod_pos (n:=two) (b:=(g.n:Int)) (by omega);have pi:=mod_pos (n:=item) (b:=w) (by omega);rw[ek,ea,eb,ei];generalize land%u.lands=k at *;obtain⟨i,hii⟩ : ∃ i,i=(one%(g.n:Int)).toNat:=⟨_,rfl⟩
 obtain⟨j,hjj⟩ : ∃ j,j=(two%(g.n:Int)).toNat:=⟨_,rfl⟩
 obtain⟨v,hvv⟩ : ∃ v,v=(item%w).toNat:=⟨_,rfl⟩
 rw[<- hii,<- hjj,<- hvv];have hil:i<t.apps.length:=by omega
 have hjl:j<t.apps.length:=by omega
 have hv:(v:Int)<w:=by omega
 clear ek ea eb ei hii hjj hvv pa pb pi;obtain⟨a1,ha1⟩ : ∃ a,t.apps[i]?=some a:=⟨_,List.getElem?_eq_getElem hil⟩
 obtain⟨a2,ha2⟩ : ∃ a,t.apps[j]?=some a:=⟨_,List.getElem?_eq_getElem hjl⟩
 refine gZ ?_;refine t_call (c3302 (hr.le le1.1) ok (hle.le le1.1) ha1 ha2 (item:=(v:Int)) ⟨by omega,by omega⟩) ?_;rintro _ h2 ⟨le2,b1,rfl,hb1⟩;have le02:=LH.le_trans le1 le2;refine gZ ?_;refine t_call (c3303 (hr.le le02.1) ok (hle.le le02.1) ha2) ?_;rintro _ h3 ⟨le3,hday,rfl⟩;have le03:=LH.le_trans le02 le3;generalize filedOf t a2=nb at *;obtain⟨n,b2⟩:=nb;simp only at hb1 hday;refine gZ ?_;refine t_blk (fun vs h'=>vs=[.bool false]/\h'=h3) ?_ ?_
 ·refine yF ?_;refine yF ?_;refine t_cond (fun e=>?_) (fun _=>t_again ⟨rfl,rfl⟩);have:=hb1 e;subst this;refine t_cond (fun e=>by cases e) (fun _=>t_again ⟨rfl,rfl⟩)
 rintro vs h3' ⟨rfl,e⟩;subst e;refine gZ ?_;refine t_blk (fun vs h'=>vs=[.bool false]/\h'=h3'/\n<=2000) ?_ ?_
 ·refine t_cond (fun _=>?_) (fun _=>?_)
  ·refine t_shownL hch hpe hp le03 fun h' hh=>?_;refine gZ ?_;exact t_ret ⟨rfl,hh⟩
  refine t_if (fun _=>?_) (fun e=>t_again ⟨rfl,rfl,by omega⟩);refine t_shownL hch hpe hp le03 fun h' hh=>?_;refine gZ ?_;exact t_ret ⟨rfl,hh⟩
 rintro vs h3 ⟨rfl,e,hn2⟩;subst e;have hd:0<=n/\n<=2000:=⟨hday.1,hn2⟩
 have vu:=Valid.of hck;refine gZ ?_;refine t_gr (c3304 (hp.le le03.1) (hu.le le03.1) hck hk hd (j:=v) (by omega)) ?_;rintro _ h4 le4 rfl;have le04:=LH.le_trans le03 le4;refine yF ?_;refine t_blk (fun vs h'=>vs=[.bool false]/\h.le h') ?_ ?_
 ·refine t_gr (c3110 (hu.le le04.1) hck (hy.le IntE.grow le04.1)) ?_;rintro _ h5 le5 ⟨f5,b5,rfl,hu5,hb5⟩;have le05:=LH.le_trans le04 le5;unfold fileV;refine gZ ?_;refine t_cond (fun e5=>?_) (fun _=>t_again ⟨rfl,le05⟩);have ck5:=hb5 e5;refine t_gr (c3304 (hp.le le05.1) hu5 ck5 hk hd (j:=v) (show (v:Int)<u.items by omega)) ?_;rintro _ h6 le6 rfl;have le06:=LH.le_trans le05 le6;refine yF ?_;refine t_cond (fun e6=>?_) (fun _=>t_again ⟨rfl,le06⟩);have hyd:=((check_papers ck5).2 y (List.mem_append_right _ (List.mem_singleton.2 rfl))).2.1;have hone:=rk_one ((more_paper hyd k (v:Int)).left vu (Valid.of ck5) rfl n) (by simpa using e6);rw[hone];refine t_cond (fun e=>by cases e) (fun _=>t_again ⟨rfl,le06⟩)
 rintro vs h7 ⟨rfl,le07⟩;refine gZ ?_;refine t_gr (c3112 (hu.le le07.1) hck (hz.le IntE.grow le07.1)) ?_;rintro _ h8 le8 ⟨f8,b8,rfl,hu8,hb8⟩;have le08:=LH.le_trans le07 le8;unfold fileV;refine gZ ?_;refine t_cond (fun e8=>?_) (fun _=>t_shownL hch hpe hp le08 fun h' hh=>t_ret ⟨rfl,hh⟩);have ck8:=hb8 e8;refine t_gr (c3304 (hp.le le08.1) hu8 ck8 hk hd (j:=v) (show (v:Int)<u.items by omega)) ?_;rintro _ h9 le9 rfl;have le09:=LH.le_trans le08 le9;refine yF ?_;refine t_cond (fun e9=>?_) (fun _=>t_shownL hch hpe hp le09 fun h' hh=>t_ret ⟨rfl,hh⟩);have hone:=rk_one (more_request (u:=u) (r:=z) (k:=k) (i:=(v:Int)) (e:=n)) (by simpa using e9);rw[hone];refine yF ?_;exact t_shownL hch hpe hp le09 fun h' hh=>t_ret ⟨rfl,hh⟩
end Go.Y
end
section
namespace Go.TM
open Go.ChangeShapes Go.RowKit
section
variable {H:Type} {enc:TypeId×Value->H}
theorem witness_shapedC{C:Checked}{os:Os}{f:FuncId}{fn:Func}{s:ChangeSpec}{conds:List PathCond}{apart:Bool}{X:World->Array Value->Prop}(w0:World)(args:Array Value)(fuel:Nat)(hos:w0.os=os)
 (hsh:(w0.forCall (fun _ _=>0) ⟨#[],args,[]⟩).Shaped C.prog)
 (hok:Input.okWideB C.prog (w0.forCall (fun _ _=>0) ⟨#[],args,[]⟩) f ⟨#[],args,[]⟩=true)
 (hpre:s.preB enc C.prog fn conds apart (w0.forCall (fun _ _=>0) ⟨#[],args,[]⟩).memory args fuel=true)
 (hsz:s.sizedB enc C.prog fn apart (w0.forCall (fun _ _=>0) ⟨#[],args,[]⟩).memory args fuel=true)
 (hx:X (w0.forCall (fun _ _=>0) ⟨#[],args,[]⟩).memory args) :
  ∃ (w:World) (tape:Tape) (i:Input),w.os=os/\(w.forCall tape i).Shaped C.prog/\i.vars=[]/\Input.okWide C.prog (w.forCall tape i) .any w.heap.size f i /\
   ((s.pre enc C.prog fn conds apart (w.forCall tape i).memory i.args/\X (w.forCall tape i).memory i.args)/\sizedMet enc C.prog fn (OpenSpec.ofChange s) apart (w.forCall tape i).memory i.args)/\({ calm:=true }:Assume).holds C.prog (lone (Frame.enter C.prog f i.args .normal) [] (w.forCall tape i)) :=
 ⟨w0,fun _ _=>0,⟨#[],args,[]⟩,hos,hsh,(Input.okWide_of_okWideB (base:=0) hok).1,(Input.okWide_of_okWideB hok).2,⟨⟨ChangeSpec.pre_of_preB hpre,hx⟩,sizedMet_of_sizedB hsz⟩,by
  simp only[Assume.holds];exact⟨by simp,fun _ _ _ _=>rfl,by simp,by simp,by simp⟩⟩
theorem row_leavingL{F:Stop.Interp}{C:Checked}{os:Os}{f:FuncId}{fn:Func}{s:ChangeSpec}{l:List (String×DataW Unit)}{tb:TypeId}
 (own:ownKnob C.prog.godebug=none)(started:os.Started)(hfn:C.prog.funcs[f]?=some fn)(hin:C.prog.inits.idxOf? f=none)(hv:s.vars=[])(lo:laidOutB C.prog=true)
 (hr:∀ t∈fn.params.toList,C.prog.readableRec t=true/\t<C.prog.types.size)(hres:fn.resultTypes=#[tb])(hb:C.prog.underlying tb=some .bool)
 (hs:∀ ds:List (DataW H),ds.length=fn.params.size->s.fn H ds={ results:=[.lit (.bool true)],args:=ds })
 (witness:∃ (w:World) (tape:Tape) (i:Input),w.os=os/\(w.forCall tape i).Shaped C.prog/\i.vars=[]/\Input.okWide C.prog (w.forCall tape i) .any w.heap.size f i /\
   ((s.pre enc C.prog fn [] false (w.forCall tape i).memory i.args/\laidMetH C.prog l (w.forCall tape i).memory)/\sizedMet enc C.prog fn (OpenSpec.ofChange s) false (w.forCall tape i).memory i.args)/\({ calm:=true }:Assume).holds C.prog (lone (Frame.enter C.prog f i.args .normal) [] (w.forCall tape i)))
 (runs:∀ (W:World) (base:Nat) (args:Array Value) (ds:List (DataW H)) (ps:List MemPlace),(∀ (j:Nat) t v,fn.params[j]?=some t->args[j]?=some v->Value.okWide C.prog W .any base t v) ->
   DataW.TrodAll enc C.prog W 0 (fun _=>true) true fn.params.toList args.toList ds ps->(∀ (j:Nat) t d,fn.params.toList[j]?=some t->ds[j]?=some d->Light C.prog t d)->laidMetH C.prog l W->FWK XL C.prog .normal f args ⟨getW W,[],[],[]⟩ fun r h'=>r=.bool true/\h'.pend=[]) :
  ReturnsInLeavingWide { calm:=true } C os f .any (fun w args=>(s.pre enc C.prog fn [] false w args/\laidMetH C.prog l w)/\sizedMet enc C.prog fn (OpenSpec.ofChange s) false w args) ((OpenSpec.ofChange s).postWith enc C.prog fn F (outsideKept [.timePasses]) false true false):=by
 refine returnsInLeavingWide_of_good own started witness ?_;intro w tape i _ _ _ hok hpre _;obtain⟨_,_,_,fn',hfn',_,_,_,_,hval⟩:=hok;have e:fn'=fn:=Option.some.inj (hfn'.symm.trans hfn);subst e;obtain⟨⟨⟨ds,gs,before,hw,_⟩,hx⟩,hz⟩:=hpre;have hz':=hz.weights hw;have hw':=DataW.Whole.of_heap (w':=w.forCall tape i) (by rfl) hw;have hx':laidMetH C.prog l (w.forCall tape i):=laidMetH.of_heap (by rfl) hx;generalize w.forCall tape i=W at hval hw' hx' ⊢;have hW':=hw';obtain⟨p,q,hA,hV,rfl,_,_⟩:=hw';rw[hv]at hV;obtain⟨rfl,rfl⟩:=trodVars_none hV;have hlight:∀ (j:Nat) t d,fn'.params.toList[j]?=some t->ds[j]?=some d->Light C.prog t d:=by
  intro j t d ht hd n hn;have hm:=DataW.weights_mem_each (P:=C.prog) (ts:=fn'.params.toList++s.plain.varTypes C.prog) (ds:=ds++[]) (j:=j) (by rw[List.getElem?_append_left (List.getElem?_eq_some_iff.1 ht).1];exact ht) (by rw[List.append_nil];exact hd) n hn;have:=List.all_eq_true.1 hz' n hm;simpa using this
 have hlt:∀ x∈p,x.block<W.heap.size:=fun x hx=>by simpa using hW'.lt x (by simpa using hx)
 have hlen:ds.length=fn'.params.size:=by
  have:∀ {ts:List TypeId} {vs:List Value} {ds:List (DataW H)} {ps:List MemPlace},DataW.TrodAll enc C.prog W 0 (fun _=>true) true ts vs ds ps->ds.length=ts.length:=by
   intro ts
   induction ts with
   | nil=>intro vs ds ps h;cases vs<;>cases ds<;>first|rfl|exact h.elim
   | cons t ts ih =>
    intro vs ds ps h;cases vs with
    | nil=>exact h.elim
    | cons v vs =>
     cases ds with
     | nil=>exact h.elim
     | cons d ds=>obtain⟨_,_,_,h2,_⟩:=h;simp[ih h2]
  simpa using this hA
 have hsf:s.fn H (ds++[])={ results:=[.lit (.bool true)],args:=ds }:=by rw[List.append_nil];exact hs ds hlen
 exact run_wellL (Φ:=fun v w'=>(OpenSpec.ofChange s).postWith enc C.prog fn' F (outsideKept [.timePasses]) false true false W.blind i.args v w'.blind) (getW_fits W) (getW_no W) (getW_whole W) hin (runs W _ i.args ds p hval hA hlight hx') (by
  rintro v h' ⟨rfl,hp⟩;refine⟨hp,fun w' _ hk=>?_⟩;have ew:({ w' with os:=W.os }:World)=w':=by rw[<- hk.os]
  refine postWith_blind (postWith_of_post ?_ (by rw[hk.os];exact Go.ConcM.OsLater.refl _));rw[ew];refine⟨ds,[],_,[],p,[],hW',?_,?_,?_,hk.below.frame _,fun h=>by cases h⟩
  ·rw[hsf,hres];exact trodAll_mk1 (shut_bool hb true)
  ·rw[hsf];exact trodAll_below lo hk.below hr hA hlt
  ·rw[hsf,hv];rfl)
end
end Go.TM
end
section
namespace Go.Proofs.YtjlalnifmgppdaaGreatDoor
open Go.Y Go.Y.Tre
open Go.Y.Tre Go.ChangeShapes Go.WideShapes Go.RowKit
theorem door_met(os:Os)(args:Array Value):laidMetH Tryz.prog Rows.useBarsRow.laid ((World.doorLaid Tryz.prog 200 os).forCall (fun _ _=>0) ⟨#[],args,[]⟩).memory :=
 laidMetH_of_parts3 (fuel:=8) (laidMet_of_run' 8 (by kernel_rfl) (by kernel_rfl)) (by kernel_rfl) (by kernel_rfl)
theorem door_shaped(os:Os)(args:Array Value):((World.doorLaid Tryz.prog 200 os).forCall (fun _ _=>0) ⟨#[],args,[]⟩).Shaped Tryz.prog :=
 World.shaped_of_RefB (by kernel_rfl) (by kernel_rfl)
theorem useBars_lifted(os:Os)(started:os.Started)(H:Type)(enc:TypeId×Value->H)(F:Stop.Interp) :
  ReturnsInLeavingWide { calm:=true } Tryz.checked os 3 .any (fun w args=>(Rows.useBarsSpec.pre enc Tryz.prog Tryz.f3 [] false w args/\laidMetH Tryz.prog Rows.useBarsRow.laid w)/\sizedMet enc Tryz.prog Tryz.f3 (OpenSpec.ofChange Rows.useBarsSpec) false w args)
   ((OpenSpec.ofChange Rows.useBarsSpec).postWith enc Tryz.prog Tryz.f3 F (outsideKept [.timePasses]) false true false):=by
 refine row_leavingL (F:=F) (C:=Tryz.checked) (tb:=4) own started Tryz.func3 (by kernel_rfl) rfl lo ?_ (by kernel_rfl) Tryz.underlying4 ?_
  (witness_shapedC (enc:=enc) (C:=Tryz.checked) (os:=os) (X:=fun w _=>laidMetH Tryz.prog Rows.useBarsRow.laid w) (World.doorLaid Tryz.prog 200 os) #[noUse,.int .u8 0,.agg #[.int .i64 0,.int .i64 0,.int .i64 0,.slice none 0 0],.agg #[.int .i64 0,.int .i64 0,.slice none 0 0],noDates,.int .u8 0,.int .u8 0,.int .u8 0] 8 rfl (door_shaped os _) (by kernel_rfl) (by kernel_rfl) (by kernel_rfl) (door_met os _)) ?_
 ·exact fun t ht=>of_decide_eq_true (List.all_eq_true.1 (show (Tryz.f3.params.toList.all fun t=>decide (Tryz.prog.readableRec t=true/\t<Tryz.prog.types.size))=true by kernel_rfl) t ht)
 ·intro ds hd
  match ds,(show ds.length=8 from hd) with
  | [d0,d1,d2,d3,d4,d5,d6,d7],_=>rfl
 ·intro W base args ds ps hval0 hA0 hz0 hL;have hval:∀ (j:Nat) t v,Tryz.f3.params[j]?=some t->args[j]?=some v->Value.okWide Tryz.prog W .any base t v:=hval0;have hz:∀ (j:Nat) t d,Tryz.f3.params.toList[j]?=some t->ds[j]?=some d->Light Tryz.prog t d:=hz0;have hA:DataW.TrodAll enc Tryz.prog W 0 (fun _=>true) true Tryz.f3.params.toList args.toList ds ps:=hA0;rw[Tryz.params3]at hval hz hA;obtain⟨v0,v1,v2,v3,v4,v5,v6,v7,d0,d1,d2,d3,d4,d5,d6,d7,q00,q01,q02,q03,q04,q05,q06,q07,rfl,rfl,rfl,h0,h1,h2,h3,h4,h5,h6,h7⟩:=trodAll8 hA;obtain⟨f0,u0,rfl,hu0⟩:=file_arg UT (hval 0 26 v0 rfl rfl) (hz 0 26 d0 rfl rfl) h0;obtain⟨x1,rfl,_,_,w1⟩:=open_int und5 (hval 1 5 v1 rfl rfl) h1;obtain⟨q2,m2,k2,x2,rfl,s2⟩:=paper_arg UT (hval 2 31 v2 rfl rfl) (hz 2 31 d2 rfl rfl) h2;obtain⟨q3,m3,k3,x3,rfl,s3⟩:=req_arg UT (hval 3 33 v3 rfl rfl) (hz 3 33 d3 rfl rfl) h3;obtain⟨f4,u4,rfl,hu4⟩:=dfile_arg UT FT (hval 4 41 v4 rfl rfl) (hz 4 41 d4 rfl rfl) h4;obtain⟨x5,rfl,_,_,w5⟩:=open_int und5 (hval 5 5 v5 rfl rfl) h5;obtain⟨x6,rfl,_,_,w6⟩:=open_int und5 (hval 6 5 v6 rfl rfl) h6;obtain⟨x7,rfl,_,_,w7⟩:=open_int und5 (hval 7 5 v7 rfl rfl) h7;exact FW.mono (c3300 (h:=⟨getW W,[],[],[]⟩) rfl rfl (parts_of_laid hL (by repeat first|exact List.Mem.head _|apply List.Mem.tail)) (lens_of_laid hL (by repeat first|exact List.Mem.head _|apply List.Mem.tail)) hu0 x1 (wf_u8 w1) s2 s3 hu4 x5 (wf_u8 w5) x6 (wf_u8 w6) x7 (wf_u8 w7)) fun r h' hq=>⟨hq.1,hq.2.2.1⟩
set_option maxHeartbeats 0 in
theorem useBars_closed:joinedFacts Tryz.prog 3 Tryz.f3 Rows.useBarsSpec Rows.useBarsRow=true:=by
 unfold joinedFacts;simp only[Bool.and_eq_true]
 and_intros
 all_goals (as_aux_lemma=>kernel_rfl)
theorem useBars_named:Tryz.prog.funcNamed Rows.useBarsRow.func=some 3:=by kernel_rfl
theorem useBars_row:Rows.UseBarsSaid :=
 OpenClaim.holds_of_wide_leaving_time 3 Tryz.f3 rfl rfl rfl rfl rfl rfl rfl ⟨rfl,rfl,rfl,rfl,rfl⟩ rfl rfl rfl rfl rfl useBars_named Tryz.func3 useBars_closed
  (of_decide_eq_true (by kernel_rfl)) (by unfold Func.isWrapper;first|(rw[if_pos (by decide +kernel)];kernel_rfl)|(rw[if_neg (by decide +kernel)];exact⟨rfl,rfl⟩))
  (fun os started H enc _ F=>useBars_lifted os started H enc F)
theorem useBars_holds:Rows.UseBarsCardSaid :=
 card_goes [.data,.funcs] true Rows.useBarsCard.stood.harness false useBars_row (by kernel_rfl) useBars_row_tie rfl ⟨rfl,rfl⟩ (by kernel_rfl) rfl
  (fun f fn hf hfn=>by
   obtain rfl:f=3:=Option.some.inj (useBars_named.symm.trans hf) |>.symm;obtain rfl:fn=Tryz.f3:=(Option.some.inj (Tryz.func3.symm.trans hfn)).symm;exact⟨by kernel_rfl,fun j t ht=>by
    have hm:=Array.mem_of_getElem? ht;have:=of_decide_eq_true (List.all_eq_true.1 (show (Tryz.f3.params.toList.all fun t=>decide (Tryz.prog.wantsStandIn t=false))=true by kernel_rfl) t (Array.mem_toList_iff.2 hm));exact this⟩)
  (by kernel_rfl)
end Go.Proofs.YtjlalnifmgppdaaGreatDoor
end
#print axioms Go.Proofs.YtjlalnifmgppdaaGreatDoor.useBars_holds

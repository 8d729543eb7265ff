/- Contracts and laws for the proof, joined by a program. No condition. -/
import Derived.Test.YtjckkafejlcknaaGreatDoorM5
set_option linter.all false
noncomputable section
open Go Go.Conc Go.TM Go.Proofs
attribute [local irreducible] T.wp CV FWK
set_option maxRecDepth 100000
open Go.IntKind (wrap)
namespace Go.Y.Tre
section
open Go.TM.Tr
theorem c2097{h:LH}(hk:Kinds h.get){f:TC}{x:TF}(hx:TreatyR h.get f x){z0 z1:Addr}{k i d:Int}(hm:MatAt h.get z0 f x k i)(hz:h.get.cell? z1=some (.int .i64 d))(fr:Int) :
  Gr Tryz.prog 76 #[fr,.pointer (some z0),.pointer (some z1)] h fun r _=>r=.bool (lifted x k i fr d):=by
 refine w2097 _ _ _ X0_ok ?_;unfold n2097;obtain⟨f0,f1,f2,f3,f4,f5,f6,f7,f8⟩:=hm;refine gZ ?_;refine t_all X0_ok hk hx k i 2 (by decide) ?_;intro v h₁ L le1 hL1 hL2 hH;have hlift:lifted x k i fr d=(x.events.filter (allB 2 k i)).any fun l=>decide (fr<=l.day/\l.day<=d):=by
  unfold Tr.lifted;rw[List.any_filter];refine congrArg (fun q=>x.events.any q) (funext fun e=>?_);rw[allB_about (by decide)];rfl
 rw[hlift];generalize hF:x.events.filter (allB 2 k i)=F at hL1 hL2;have hz1:=Cells.cell?_le le1.1 hz;refine t_each (LH.le_refl h₁) hH (fun j vs h'=>vs=[.bool false]/\(F.any fun l=>decide (fr<=l.day/\l.day<=d))=(F.drop j).any fun l=>decide (fr<=l.day/\l.day<=d)) ⟨rfl,rfl⟩ ?_ ?_
 ·rintro vs h' hle ⟨rfl,hc⟩;rw[List.drop_eq_nil_of_le (by omega)]at hc;refine gZ ?_;exact t_ret ⟨LH.le_trans le1 hle,by rw[hc];rfl⟩
 ·rintro j xs vs h' hj hle ⟨rfl,hc⟩ Y hY;obtain⟨e,q,m,c,he,rfl,hit⟩:=hL2 j xs hj;rw[drop_of he,List.any_cons]at hc;have hz2:=Cells.cell?_le hle.1 hz1;unfold evV;refine gZ ?_;refine t_pu (c2052 _ _ _) ?_;refine yI (fun e1=>?_) (fun e1=>?_)
  ·refine t_retnE hle ?_;have e1':decide (fr<=e.day/\e.day<=d)=true:=by simpa[inB] using e1
   rw[e1',Bool.true_or]at hc;refine gZ ?_;exact t_ret ⟨LH.le_trans le1 hle,by rw[hc]⟩
  ·have e1':decide (fr<=e.day/\e.day<=d)=false:=by simpa[inB] using e1
   rw[e1',Bool.false_or]at hc;exact t_againE hle (hY _ _ hle ⟨rfl,hc⟩)
def askCells(f:TC)(x:TF)(k i a:Int):List Value:=[.int .i64 x.items,.int .i64 x.lands,.int .i64 x.start,.int .i64 x.depend,.int .i64 x.refuse,.int .i64 x.turn,.slice f.p f.n f.c,.int .i64 k,.int .i64 i,.int .i64 a,.int .i64 (askEnd x k i a),.bool (fallen x k i a)]
def askV(f:TC)(x:TF)(k i a:Int):Value:=.agg #[.int .i64 x.items,.int .i64 x.lands,.int .i64 x.start,.int .i64 x.depend,.int .i64 x.refuse,.int .i64 x.turn,.slice f.p f.n f.c,.int .i64 k,.int .i64 i,.int .i64 a,.int .i64 (askEnd x k i a),.bool (fallen x k i a)]
def AskE(f:TC)(x:TF)(k i:Int)(h:Cells)(a:Addr)(d:Int):Prop:=∀ (j:Nat) w,(askCells f x k i d)[j]?=some w->h.cell? (a.add j)=some w
def AskEnc(f:TC)(x:TF)(k i:Int)(d:Int)(ws:List Value):Prop:=ws=askCells f x k i d
theorem AskE.grow{f:TC}{x:TF}{k i:Int}:Grow (AskE f x k i):=fun _ _ _ _ hl h j w hj=>hl _ _ (h j w hj)
theorem AskEnc.len{f:TC}{x:TF}{k i:Int}:∀ d ws,AskEnc f x k i d ws->ws.length=12:=by rintro d _ rfl;rfl
theorem AskEnc.e{f:TC}{x:TF}{k i:Int}{h':Cells}:∀ a d ws,AskEnc f x k i d ws->(∀ (j:Nat) w,ws[j]?=some w->h'.cell? (a.add j)=some w)->AskE f x k i h' a d:=by
 rintro a d _ rfl hc;exact hc
theorem refused_any(x:TF)(k i a d:Int):refused x k i a d=(x.events.filter (allB 1 k i)).any fun r=>decide (a<=r.day/\r.day<=a+x.refuse/\r.day<=d)&&!lifted x k i r.day d:=by
 unfold Tr.refused;rw[List.any_filter];refine congrArg (fun q=>x.events.any q) (funext fun e=>?_);rw[allB_about (by decide)];rfl
theorem in_min(n a b d:Int):inB n a (if b<d then b else d)=decide (a<=n/\n<=b/\n<=d):=by
 unfold inB;rw[Bool.eq_iff_iff];simp only[Bool.and_eq_true,decide_eq_true_eq];split<;>omega
theorem c2085{h:LH}(hk:Kinds h.get){f:TC}{x:TF}(hx:TreatyR h.get f x)(k i:Int){a:Int}(ha:IsI (a+x.refuse))(e:Int)(fl:Bool)(d:Int) :
  Gr Tryz.prog 60 #[.agg #[.int .i64 x.items,.int .i64 x.lands,.int .i64 x.start,.int .i64 x.depend,.int .i64 x.refuse,.int .i64 x.turn,.slice f.p f.n f.c,k,i,a,e,.bool fl],d] h fun r _=>r=.bool (refused x k i a d):=by
 refine w2085 _ _ _ _ _ _ _ _ _ _ _ _ _ _ _ X0_ok ?_;unfold n2085;refine t_new fun r hr=>?_;refine t_new fun r1 hr1=>?_;have l1:h.le _:=LH.upd_le (x:=(true,.cells #[.int .i64 x.items,.int .i64 x.lands,.int .i64 x.start,.int .i64 x.depend,.int .i64 x.refuse,.int .i64 x.turn,.slice f.p f.n f.c,.int .i64 k,.int .i64 i,.int .i64 a,.int .i64 e,.bool fl] 91 (0,0))) hr;have l2:=LH.upd_le (x:=(true,.cells #[.int .i64 d] 3 (0,0))) hr1;have hm:MatAt (h.get.upd r (true,.cells #[.int .i64 x.items,.int .i64 x.lands,.int .i64 x.start,.int .i64 x.depend,.int .i64 x.refuse,.int .i64 x.turn,.slice f.p f.n f.c,.int .i64 k,.int .i64 i,.int .i64 a,.int .i64 e,.bool fl] 91 (0,0))) ⟨r,0,none⟩ f x k i:=by
  constructor<;>(rw[add_plain,add_plain];exact cell_upd rfl)
 have h9:Cells.cell? (h.get.upd r (true,.cells #[.int .i64 x.items,.int .i64 x.lands,.int .i64 x.start,.int .i64 x.depend,.int .i64 x.refuse,.int .i64 x.turn,.slice f.p f.n f.c,.int .i64 k,.int .i64 i,.int .i64 a,.int .i64 e,.bool fl] 91 (0,0))) (Addr.add ⟨r,0,none⟩ 9)=some (.int .i64 a):=by rw[add_plain];exact cell_upd rfl
 have hz:=cell_upd (h:=h.get.upd r (true,.cells #[.int .i64 x.items,.int .i64 x.lands,.int .i64 x.start,.int .i64 x.depend,.int .i64 x.refuse,.int .i64 x.turn,.slice f.p f.n f.c,.int .i64 k,.int .i64 i,.int .i64 a,.int .i64 e,.bool fl] 91 (0,0))) (r:=r1) (i:=0) (m:=true) (cs:=#[.int .i64 d]) (el:=3) (f:=(0,0)) (v:=.int .i64 d) rfl;have hm:=hm.le l2.1;have h9:=Cells.cell?_le l2.1 h9;have l12:=LH.le_trans l1 l2;generalize hh:({ h with get:=(h.get.upd r (true,.cells #[.int .i64 x.items,.int .i64 x.lands,.int .i64 x.start,.int .i64 x.depend,.int .i64 x.refuse,.int .i64 x.turn,.slice f.p f.n f.c,.int .i64 k,.int .i64 i,.int .i64 a,.int .i64 e,.bool fl] 91 (0,0))).upd r1 (true,.cells #[.int .i64 d] 3 (0,0)) }:LH)=h2 at l12 ⊢;have hm:MatAt h2.get ⟨r,0,none⟩ f x k i:=by rw[<- hh];exact hm
 have h9:h2.get.cell? (Addr.add ⟨r,0,none⟩ 9)=some (.int .i64 a):=by rw[<- hh];exact h9
 have hz:h2.get.cell? ⟨r1,0,none⟩=some (.int .i64 d):=by rw[<- hh];exact hz
 clear hh l1 l2;have hm2:=hm;obtain⟨f0,f1,f2,f3,f4,f5,f6,f7,f8⟩:=hm;refine gZ ?_;refine t_all X0_ok (hk.le l12.1) (hx.le l12.1) k i 1 (by decide) ?_;intro v h₁ L le1 hL1 hL2 hH;rw[refused_any];generalize hF:x.events.filter (allB 1 k i)=F at hL1 hL2;have hm3:=hm2.le le1.1;have h93:=Cells.cell?_le le1.1 h9;have hz3:=Cells.cell?_le le1.1 hz;refine t_each (LH.le_refl h₁) hH (fun j vs h'=>vs=[.bool false]/\(F.any fun r=>decide (a<=r.day/\r.day<=a+x.refuse/\r.day<=d)&&!lifted x k i r.day d)=(F.drop j).any fun r=>decide (a<=r.day/\r.day<=a+x.refuse/\r.day<=d)&&!lifted x k i r.day d) ⟨rfl,rfl⟩ ?_ ?_
 ·rintro vs h' hle ⟨rfl,hc⟩;rw[List.drop_eq_nil_of_le (by omega)]at hc;refine gZ ?_;exact t_ret ⟨LH.le_trans l12 (LH.le_trans le1 hle),by rw[hc];rfl⟩
 ·rintro j xs vs h' hj hle ⟨rfl,hc⟩ Y hY;obtain⟨ev,q,m,c,he,rfl,hit⟩:=hL2 j xs hj;rw[drop_of he,List.any_cons]at hc;have hm4:=hm3.le hle.1;have h94:=Cells.cell?_le hle.1 h93;have hz4:=Cells.cell?_le hle.1 hz3;have f44:h'.get.cell? (Addr.add (Addr.add (Addr.add ⟨r,0,none⟩ 0) 0) 4)=some (.int .i64 x.refuse):=by
   have:=hm4.f4;rwa[show Addr.add (Addr.add (⟨r,0,none⟩ : Addr) 0) 0=Addr.add ⟨r,0,none⟩ 0 by rw[add_zero']]
  unfold evV;refine gZ ?_;rw[wrap_id ha.1 ha.2];refine t_pu (c2052 _ _ _) ?_;rw[in_min];refine yI (fun e1=>?_) (fun e1=>?_)
  ·rw[e1,Bool.true_and]at hc;have le24:=LH.le_trans le1 hle;refine t_callv (cv_fw X0_ok (by rfl) (c2097 ((hk.le l12.1).le le24.1) ((hx.le l12.1).le le24.1) hm4 hz4 ev.day)) ?_;rintro _ h5 ⟨le5,rfl⟩;refine yI (fun e2=>?_) (fun e2=>?_)
   ·refine t_retnE (LH.le_trans hle le5) ?_;refine gZ ?_;rw[e2,Bool.true_or]at hc;exact t_ret ⟨LH.le_trans l12 (LH.le_trans le24 le5),by rw[hc]⟩
   ·rw[e2,Bool.false_or]at hc;exact t_againE (LH.le_trans hle le5) (hY _ _ (LH.le_trans hle le5) ⟨rfl,hc⟩)
  ·rw[e1,Bool.false_and,Bool.false_or]at hc;exact t_againE hle (hY _ _ hle ⟨rfl,hc⟩)
theorem c2137{h:LH}(hk:Kinds h.get){f:TC}{x:TF}(hx:TreatyR h.get f x)(k i:Int){a:Int}(ha:IsI (a+x.refuse))(he:IsI (askEnd x k i a-1))(d:Int) :
  Gr Tryz.prog 169 #[askV f x k i a,d] h fun r _=>r=.tuple #[a,.bool (decide (a<=d/\d<askEnd x k i a)&&!refused x k i a d)]:=by
 refine w2137 _ _ _ _ _ _ _ _ _ _ _ _ _ _ _ X0_ok ?_;unfold n2137;rw[wrap_id he.1 he.2];have hin:inB d a (askEnd x k i a-1)=decide (a<=d/\d<askEnd x k i a):=by
  unfold inB;rw[Bool.eq_iff_iff];simp only[Bool.and_eq_true,decide_eq_true_eq];omega
 refine t_pu (c2052 _ _ _) ?_;rw[hin];refine yI (fun e1=>?_) (fun e1=>?_)
 ·refine t_gr (c2085 hk hx k i ha _ _ d) ?_;rintro _ h1 le1 rfl;refine gZ ?_;exact t_ret ⟨le1,by rw[e1,Bool.true_and]⟩
 ·refine gZ ?_;refine t_both ?_ ?_
  ·refine gZ ?_;exact t_ret ⟨LH.le_refl _,by rw[e1,Bool.false_and]⟩
  ·refine gZ ?_;exact t_ret ⟨LH.le_refl _,by rw[e1,Bool.false_and]⟩
theorem askDays_all(x:TF)(k i:Int):askDays x k i=((x.events.filter (allB 0 k i)).filter fun e=>decide (e.day<falls x i 0)).map (·.day):=by
 unfold askDays;rw[List.filter_filter];congr 1;refine List.filter_congr fun e _=>?_;rw[allB_about (by decide),Bool.and_comm];rfl
theorem c2084{h:LH}(hk:Kinds h.get){f:TC}{x:TF}(hx:TreatyR h.get f x)(hsum:IsI (x.start+x.depend))(hlen:x.events.length<=1000)(k i:Int) :
  Gr Tryz.prog 59 #[matV f x k i] h fun r h'=>∃ p n c,r=.slice p n c/\Sl (AskE f x k i) 12 h'.get p n (askDays x k i):=by
 refine w2084 _ _ _ _ _ _ _ _ _ _ _ X0_ok ?_;unfold n2084;refine t_all X0_ok hk hx k i 0 (by decide) ?_;intro v h₁ L le1 hL1 hL2 hH;rw[askDays_all];have hFl:(x.events.filter (allB 0 k i)).length<=1000:=Nat.le_trans (List.length_filter_le _ _) hlen;generalize hF:x.events.filter (allB 0 k i)=F at hL1 hL2 hFl;refine t_each (LH.le_refl h₁) hH (fun j vs h'=>∃ (p:Option Addr) (n c:Nat),vs=[.slice p n c]/\Growing (AskEnc f x k i) 91 12 h₁.get h'.get p n c (((F.take j).filter fun e=>decide (e.day<falls x i 0)).map (·.day)))
  ⟨none,0,0,rfl,Growing.nil⟩ ?_ ?_
 ·rintro vs h' hle ⟨p,n,c,rfl,g⟩;rw[hL1,List.take_of_length_le (Nat.le_refl _)]at g;refine gZ ?_;refine t_ret ⟨LH.le_trans le1 hle,p,n,c,rfl,g.sl AskEnc.len (by omega) AskEnc.e ?_⟩;rw[List.length_map];have:=List.length_filter_le (fun e:Ev=>decide (e.day<falls x i 0)) F;omega
 ·rintro j xs vs h' hj hle ⟨p,n,c,rfl,g⟩ Y hY;obtain⟨e,q,m,cc,he,rfl,hit⟩:=hL2 j xs hj;have htake:F.take (j+1)=F.take j++[e]:=by rw[List.take_add_one,he];rfl
  have le2:=LH.le_trans le1 hle;unfold evV;refine gZ ?_;refine t_gr (c2096 (hk.le le2.1) (hx.le le2.1) hsum k i 0) ?_;rintro _ h3 le3 rfl;refine yJ (fun e1=>?_) (fun e1=>?_)
  ·refine t_againE (LH.le_trans hle le3) (hY _ _ (LH.le_trans hle le3) ⟨p,n,c,rfl,?_⟩);rw[htake,List.filter_append,List.filter_cons,if_neg (by simp;omega)];simpa using g.le le3.1
  have le23:=LH.le_trans le2 le3;refine t_gr (c2096 (hk.le le23.1) (hx.le le23.1) hsum k i e.day) ?_;rintro _ h4 le4 rfl;refine gZ ?_;have le24:=LH.le_trans le23 le4;refine t_gr (c2094 (hk.le le24.1) (hx.le le24.1) k i e.day) ?_;rintro _ h5 le5 rfl;refine gZ ?_;have hle5:=LH.le_trans hle (LH.le_trans le3 (LH.le_trans le4 le5));have hn:n<=1000:=by
   rw[g.count AskEnc.len (by omega),List.length_map];have h1:=List.length_filter_le (fun e:Ev=>decide (e.day<falls x i 0)) (F.take j);have h2:(F.take j).length<=1000:=by rw[List.length_take];omega
   omega
  refine t_push e.day (askCells f x k i e.day) rfl rfl undAsks infAsk rfl (by omega) (by decide) (by kernel_rfl) rfl ?_ (by omega) (g.le (LH.le_trans le3 (LH.le_trans le4 le5)).1) hle5 rfl ?_
  ·intro w hw;simp only[askCells,List.mem_cons,List.not_mem_nil,or_false]at hw;rcases hw with rfl|rfl|rfl|rfl|rfl|rfl|rfl|rfl|rfl|rfl|rfl|rfl<;>rfl
  ·intro p' c' h6 le6 _ g6;refine gZ ?_;refine t_againE le6 (hY _ _ le6 ⟨p',_,c',rfl,?_⟩);rw[htake,List.filter_append,List.filter_cons,if_pos (by simp;omega),List.map_append];exact g6
end
section
open Go.TM.Tr
structure Right(x:TF):Prop where
 ok:Ok x
 start:0<=x.start/\x.start<=9999
 depend:0<=x.depend/\x.depend<=9999
 refuse:0<=x.refuse/\x.refuse<=9999
 turn:0<=x.turn/\x.turn<=9999
 many:x.events.length<=10
theorem Right.of{x:TF}(h:checkT x=0):Right x:=by
 have:=check_numbers h;exact⟨check_ok h,this.2.2.1,this.2.2.2.1,this.2.2.2.2.1,this.2.2.2.2.2.1,this.2.2.2.2.2.2⟩
theorem Right.sum{x:TF}(r:Right x):IsI (x.start+x.depend):=by have:=r.start;have:=r.depend;unfold IsI;omega
theorem Right.askDay{x:TF}(r:Right x){k i a:Int}(h:a∈askDays x k i):0<=a/\a<=9999:=r.ok.has (mem_asks.1 h).1
theorem falls_low{x:TF}(v:Ok x)(i f:Int):0<=falls x i f/\falls x i f<=10000:=by
 refine⟨?_,least_cap _⟩;rcases least_mem (l:=fallsL x i f) with h|h
 ·unfold falls;omega
 ·obtain⟨e,h1,_,_,h4⟩:=(mem_falls.1 h).1;have:=v e h1;unfold falls;omega
theorem limits_low{x:TF}(v:Ok x)(k i f:Int):0<=limits x k i f/\limits x k i f<=10000:=by
 refine⟨?_,least_cap _⟩;rcases least_mem (l:=limitsL x k i f) with h|h
 ·unfold limits;omega
 ·have:=v.has (mem_limits.1 h).1;unfold limits;omega
theorem askEnd_low{x:TF}(v:Ok x)(k i a:Int):0<=askEnd x k i a/\askEnd x k i a<=10000:=by
 have h1:=falls_low v i a;have h2:=limits_low v k i a;unfold askEnd;split<;>omega
theorem askDays_len(x:TF)(k i:Int):(askDays x k i).length<=x.events.length:=by
 unfold askDays;rw[List.length_map];exact List.length_filter_le _ _
def bestI:Option Int->List Int->Option Int
 | o,[]=>o
 | none,a::l=>bestI (some a) l
 | some b,a::l=>bestI (some (if a<b then a else b)) l
theorem bestI_some:∀ (l:List Int) (b:Int),bestI (some b) l=some (leastFrom b l)
 | [],b=>rfl
 | a::l,b=>by rw[bestI,leastFrom,bestI_some l]
theorem bestI_least{l:List Int}(h:∀ v∈l,v<10000):leastOr l=match bestI none l with|none=>-1|some n=>n:=by
 cases l with
 | nil=>rfl
 | cons a l =>
  rw[bestI,bestI_some];have ha:=h a (by simp);simp only;rw[leastFrom_min l a (by omega),leastOr,if_neg (by simp),least_cons]
def zeroAsk:List Value:=[.int .i64 0,.int .i64 0,.int .i64 0,.int .i64 0,.int .i64 0,.int .i64 0,.slice none 0 0,.int .i64 0,.int .i64 0,.int .i64 0,.int .i64 0,.bool false]
def bestCells(f:TC)(x:TF)(k i:Int):Option Int->List Value
 | none=>zeroAsk
 | some a=>askCells f x k i a
theorem goodBy_step{x:TF}{k i d a:Int}{l:List Int}:(a::l).filter (goodBy x k i d)=if goodBy x k i d a=true then a::l.filter (goodBy x k i d) else l.filter (goodBy x k i d):=List.filter_cons
def turnO(x:TF)(k i d:Int):Option Int:=bestI none (turnedL x k i d)
theorem turnO_turned{x:TF}(v:Ok x)(k i d:Int):turned x k i d=match turnO x k i d with|none=>-1|some n=>n :=
 bestI_least fun n hn=>(v.turnedL n hn).2
theorem turnO_some{x:TF}(v:Ok x){k i d n:Int}(h:turnO x k i d=some n):0<=n/\n=turned x k i d:=by
 have h1:=turnO_turned v k i d;rw[h]at h1;simp only at h1;refine⟨?_,h1.symm⟩;rcases turned_vals v k i d with⟨h2,h3⟩|⟨h2,_⟩
 ·unfold turnO at h;rw[h3]at h;cases h
 ·have:=(v.turnedL _ h2).1;omega
theorem turnO_none{x:TF}(v:Ok x){k i d:Int}:turnO x k i d=none↔¬ 0<=turned x k i d:=by
 have h1:=turnO_turned v k i d;cases h:turnO x k i d with
 | none =>
  rw[h]at h1;simp only at h1;constructor
  ·intro _;omega
  ·intro _;rfl
 | some n =>
  have:=turnO_some v h;constructor
  ·intro e;cases e
  ·intro h2;omega
theorem c2064{h:LH}(hk:Kinds h.get){f:TC}{x:TF}(hx:TreatyR h.get f x)(rt:Right x)(k i d:Int) :
    Gr Tryz.prog 41 #[matV f x k i,d] h fun r _=>r=.tuple #[.agg (bestCells f x k i (turnO x k i d)).toArray,.bool (turnO x k i d).isSome]:=by
  refine w2064 _ _ _ _ _ _ _ _ _ _ _ _ X0_ok ?_;unfold n2064;refine t_gr (c2084 hk hx rt.sum (Nat.le_trans rt.many (by omega)) k i) ?_;rintro _ h₁ le1 ⟨p,n,c,rfl,hs⟩;refine gZ ?_;have hn:=hs.1;have hb:=hs.2.1;have hlen:=askDays_len x k i;have hmany:=rt.many;refine t_loop (fun mm vs h'=>h₁.le h'/\∃ (j:Nat) (o:Option Int),vs=.bool o.isSome::.int .i64 j::bestCells f x k i o/\j<=n/\mm=n-j/\turnO x k i d=bestI o (((askDays x k i).drop j).filter (goodBy x k i d)))
    ⟨LH.le_refl _,0,none,rfl,Nat.zero_le _,rfl,rfl⟩ ?_
  rintro Y mm vs h2 hY ⟨le2,j,o,rfl,hj,rfl,hc⟩;have next:∀ h' (o':Option Int),h₁.le h'->j+1<=n->turnO x k i d=bestI o' (((askDays x k i).drop (j+1)).filter (goodBy x k i d))->Y (.bool o'.isSome::.int .i64 (wrap .i64 ((j:Int)+1))::bestCells f x k i o') h':=by
    intro h' o' hle' hlt hc';refine hY (n-(j+1)) _ _ (by omega) ⟨hle',j+1,o',?_,by omega,rfl,hc'⟩;rw[wrap_id (by omega) (by omega)];rfl
  rcases o with _|best
  all_goals
    simp only[Option.isSome,bestCells,zeroAsk,askCells]at next ⊢
    refine yJ (fun e1=>?_) (fun e1=>?_)
    · obtain⟨a,ad,ha,had,he⟩:=(hs.le AskE.grow le2.1).at (i:=j) (by omega)
      have g0:=he 0 _ rfl;have g1:=he 1 _ rfl;have g2:=he 2 _ rfl;have g3:=he 3 _ rfl;have g4:=he 4 _ rfl;have g5:=he 5 _ rfl;have g6:=he 6 _ rfl;have g7:=he 7 _ rfl;have g8:=he 8 _ rfl;have g9:=he 9 _ rfl;have g10:=he 10 _ rfl;have g11:=he 11 _ rfl;have had2:=rt.askDay (List.mem_of_getElem? ha);have hend:=askEnd_low rt.ok k i a;have hturn:=rt.turn;have href:=rt.refuse;have le12:=LH.le_trans le1 le2;rw[drop_of ha,goodBy_step]at hc;have hgb:goodBy x k i d a=(fallen x k i a&&(decide (askEnd x k i a<=d/\d<=askEnd x k i a+x.turn)&&!refused x k i a (askEnd x k i a-1))):=rfl;have bad:goodBy x k i d a=false->∀ h',h₁.le h'->Y _ h':=fun hb h' hle'=>next h' _ hle' (by omega) (by rw[if_neg (by rw[hb];simp)]at hc;exact hc)
      refine yI (fun e2=>?_) (fun e2=>?_)
      · rw[wrap_id (by omega) (by omega)]
        refine t_pu (c2052 _ _ _) ?_;have hin:inB d (askEnd x k i a) (askEnd x k i a+x.turn)=decide (askEnd x k i a<=d/\d<=askEnd x k i a+x.turn):=by
          unfold inB;rw[Bool.eq_iff_iff];simp only[Bool.and_eq_true,decide_eq_true_eq]
        rw[hin];refine yI (fun e3=>?_) (fun e3=>?_)
        · rw[wrap_id (by omega) (by omega)]
          refine t_gr (c2085 (hk.le le12.1) (hx.le le12.1) k i (a:=a) (by unfold IsI;omega) _ _ _) ?_;rintro _ h3 le3 rfl;refine gZ ?_;have le13:=LH.le_trans le2 le3;refine t_cond (fun e4=>?_) (fun e4=>?_)
          · have hg:goodBy x k i d a=true:=by rw[hgb,e2,e3,e4];rfl
            rw[if_pos hg]at hc
            first
              | (refine yT ?_
                 exact t_again (next h3 (some a) le13 (by omega) hc))
              | (refine yF ?_
                 refine t_if (fun e5=>?_) (fun e5=>?_)
                 · exact t_again (next h3 (some a) le13 (by omega) (by rw[hc,bestI,if_pos e5]))
                 · exact t_again (next h3 (some best) le13 (by omega) (by rw[hc,bestI,if_neg e5])))
          · exact t_again (bad (by rw[hgb,e4];simp) h3 le13)
        · exact t_again (bad (by rw[hgb,e3];simp) h2 le2)
      · exact t_again (bad (by rw[hgb,e2];simp) h2 le2)
    · refine gZ ?_
      rw[List.drop_eq_nil_of_le (by omega)]at hc;refine t_ret ⟨LH.le_trans le1 le2,?_⟩;rw[hc];rfl
end
section
open Go.TM.Tr
theorem via_ask_eq{v : Value}{d : Int}{A : Next -> Cells -> Prop}{E : Halt -> Cells -> Prop}{H : Cells} : Sem.lwp Tryz.prog (do let d <- Deferred.ofValue (.func (.func 169) #[] #[]) #[v, .int .i64 d]; invoke d.target d.args) A E H = Sem.lwp Tryz.prog (do let d <- Deferred.ofValue (.func (.method "touchmark/treaty.on") #[.iface 91 v] #[]) #[.int .i64 d]; invoke d.target d.args) A E H := by
 kernel_rfl
theorem via_ask{X : XP}{v : Value}{d : Int}{h : LH}{Q : Value -> LH -> Prop}(c : CV X Tryz.prog (.func (.func 169) #[] #[]) #[v, .int .i64 d] h Q) : CV X Tryz.prog (.func (.method "touchmark/treaty.on") #[.iface 91 v] #[]) #[.int .i64 d] h Q := by
 unfold CV at c ⊢;intro main R hR fr cs hk;exact via_ask_eq.mp (c main R hR fr cs hk)
theorem via_turn_eq{v : Value}{d : Int}{A : Next -> Cells -> Prop}{E : Halt -> Cells -> Prop}{H : Cells} : Sem.lwp Tryz.prog (do let d <- Deferred.ofValue (.func (.func 171) #[] #[]) #[v, .int .i64 d]; invoke d.target d.args) A E H = Sem.lwp Tryz.prog (do let d <- Deferred.ofValue (.func (.method "touchmark/treaty.on") #[.iface 147 v] #[]) #[.int .i64 d]; invoke d.target d.args) A E H := by
 kernel_rfl
theorem via_turn{X : XP}{v : Value}{d : Int}{h : LH}{Q : Value -> LH -> Prop}(c : CV X Tryz.prog (.func (.func 171) #[] #[]) #[v, .int .i64 d] h Q) : CV X Tryz.prog (.func (.method "touchmark/treaty.on") #[.iface 147 v] #[]) #[.int .i64 d] h Q := by
 unfold CV at c ⊢;intro main R hR fr cs hk;exact via_turn_eq.mp (c main R hR fr cs hk)
inductive Title where
 | ask (a:Int)
 | turn (a b:Int)
def turnV(f:TC)(x:TF)(k i a b:Int):Value:=.agg #[.int .i64 x.items,.int .i64 x.lands,.int .i64 x.start,.int .i64 x.depend,.int .i64 x.refuse,.int .i64 x.turn,.slice f.p f.n f.c,.int .i64 k,.int .i64 i,.int .i64 a,.int .i64 (askEnd x k i a),.bool (fallen x k i a),.int .i64 b,.int .i64 (limits x k i b)]
def titleV(f:TC)(x:TF)(k i:Int):Title->Value
 | .ask a=>.iface 91 (askV f x k i a)
 | .turn a b=>.iface 147 (turnV f x k i a b)
def titleDate:Title->Int
 | .ask a=>a
 | .turn a _=>a
def titleOn(x:TF)(k i d:Int):Title->Bool
 | .ask a=>decide (a<=d/\d<askEnd x k i a)&&!refused x k i a d
 | .turn _ b=>decide (b<=d/\d<limits x k i b)
def turnsL(x:TF)(k i:Int)(l:List Ev):List Title:=(l.filter fun e=>decide (0<=turned x k i e.day)).map fun e=>.turn (turned x k i e.day) e.day
def titlesL(x:TF)(k i:Int):List Title:=(askDays x k i).map .ask++turnsL x k i (x.events.filter (allB 5 k i))
theorem titles_held(x:TF)(k i d:Int):((titlesL x k i).filter (titleOn x k i d)).map titleDate=held x k i d:=by
 unfold titlesL turnsL held askHeld turnHeld;rw[List.filter_append,List.map_append];congr 1
 ·rw[List.filter_map,List.map_map];have:titleDate∘Title.ask=id:=rfl;rw[this,List.map_id];rfl
 ·rw[List.filter_map,List.map_map,List.filter_filter,List.filter_filter];congr 1;refine List.filter_congr fun e _=>?_;rw[allB_about (by decide)];show (decide (e.day<=d/\d<limits x k i e.day)&&decide (0<=turned x k i e.day)&&about e 5 k i)=_;cases about e 5 k i<;>cases decide (0<=turned x k i e.day)<;>cases decide (e.day<=d/\d<limits x k i e.day)<;>rfl
def TitleE(f:TC)(x:TF)(k i:Int)(h:Cells)(a:Addr)(t:Title):Prop:=h.cell? (a.add 0)=some (titleV f x k i t)
def TitleEnc(f:TC)(x:TF)(k i:Int)(t:Title)(ws:List Value):Prop:=ws=[titleV f x k i t]
theorem TitleE.grow{f:TC}{x:TF}{k i:Int}:Grow (TitleE f x k i):=fun _ _ _ _ hl h=>hl _ _ h
theorem TitleEnc.len{f:TC}{x:TF}{k i:Int}:∀ d ws,TitleEnc f x k i d ws->ws.length=1:=by rintro d _ rfl;rfl
theorem TitleEnc.e{f:TC}{x:TF}{k i:Int}{h':Cells}:∀ a d ws,TitleEnc f x k i d ws->(∀ (j:Nat) w,ws[j]?=some w->h'.cell? (a.add j)=some w)->TitleE f x k i h' a d:=by
 rintro a d _ rfl hc;exact hc 0 _ rfl
theorem titleV_one(f:TC)(x:TF)(k i:Int)(t:Title):isOne (titleV f x k i t)=true:=by cases t<;>rfl
theorem c2138{h:LH}(f:TC)(x:TF)(v:Ok x)(k i a b d:Int):Pu Tryz.prog 171 #[turnV f x k i a b,d] h (.tuple #[a,.bool (decide (b<=d/\d<limits x k i b))]):=by
 refine w2138 _ _ _ _ _ _ _ _ _ _ _ _ _ _ _ _ _ X0_ok ?_;unfold n2138;have hl:=limits_low v k i b;rw[wrap_id (by omega) (by omega)];have hin:inB d b (limits x k i b-1)=decide (b<=d/\d<limits x k i b):=by
  unfold inB;rw[Bool.eq_iff_iff];simp only[Bool.and_eq_true,decide_eq_true_eq];omega
 refine t_pu (c2052 _ _ _) ?_;rw[hin];refine gZ ?_;exact t_ret ⟨rfl,rfl⟩
theorem titles_ask{x:TF}{k i:Int}{t:Title}(h:t∈titlesL x k i):(∃ a,t=.ask a/\a∈askDays x k i)\/∃ e∈x.events,t=.turn (turned x k i e.day) e.day/\0<=turned x k i e.day:=by
 unfold titlesL turnsL at h;rcases List.mem_append.1 h with h|h
 ·obtain⟨a,ha,rfl⟩:=List.mem_map.1 h;exact .inl ⟨a,rfl,ha⟩
 ·obtain⟨e,he,rfl⟩:=List.mem_map.1 h;have h1:=List.mem_filter.1 he;exact .inr ⟨e,(List.mem_filter.1 h1.1).1,rfl,by simpa using h1.2⟩
theorem titles_len(x:TF)(k i:Int):(titlesL x k i).length<=2*x.events.length:=by
 unfold titlesL turnsL;rw[List.length_append,List.length_map,List.length_map];have h1:=askDays_len x k i;have h2:=List.length_filter_le (fun e:Ev=>decide (0<=turned x k i e.day)) (x.events.filter (allB 5 k i));have h3:=List.length_filter_le (allB 5 k i) x.events;omega
theorem cv_title{h:LH}(hk:Kinds h.get){f:TC}{x:TF}(hx:TreatyR h.get f x)(rt:Right x)(k i d:Int){t:Title}(ht:t∈titlesL x k i) :
  CV X0 Tryz.prog (.func (.method "touchmark/treaty.on") #[titleV f x k i t] #[]) #[.int .i64 d] h fun r h' => h.le h' /\ r = .tuple #[.int .i64 (titleDate t), .bool (titleOn x k i d t)] := by
 rcases titles_ask ht with⟨a,rfl,ha⟩|⟨e,_,rfl,_⟩
 ·refine via_ask (cv_fw X0_ok (hargs:=#[askV f x k i a,.int .i64 d]) (by rfl) ?_);have h1:=rt.askDay ha;have h2:=rt.refuse;have h3:=askEnd_low rt.ok k i a;exact c2137 hk hx k i (by unfold IsI;omega) (by unfold IsI;omega) d
 ·refine via_turn (cv_fw X0_ok (hargs:=#[turnV f x k i (turned x k i e.day) e.day,.int .i64 d]) (by rfl) ?_);exact pu_gr (c2138 f x rt.ok k i _ _ d)
theorem turns_step{x:TF}{k i:Int}{l:List Ev}{e:Ev}(h:0<=turned x k i e.day):turnsL x k i (l++[e])=turnsL x k i l++[.turn (turned x k i e.day) e.day]:=by
 unfold turnsL;rw[List.filter_append,List.map_append,List.filter_cons,if_pos (by simpa using h)];rfl
theorem turns_skip{x:TF}{k i:Int}{l:List Ev}{e:Ev}(h:¬ 0<=turned x k i e.day):turnsL x k i (l++[e])=turnsL x k i l:=by
 unfold turnsL;rw[List.filter_append,List.map_append,List.filter_cons,if_neg (by simpa using h)];simp
def butOf(h:Cells):Option Addr->Cells
 | none=>h
 | some a=>fun r=>if r=a.block then none else h r
def onlyOf(h:Cells):Option Addr->Cells
 | none=>fun _=>none
 | some a=>fun r=>if r=a.block then h r else none
theorem but_only(h:Cells)(p:Option Addr):h=(butOf h p).add (onlyOf h p)/\Disj (butOf h p) (onlyOf h p):=by
 cases p with
 | none=>exact⟨by funext r;unfold butOf onlyOf Cells.add;simp only;cases h r<;>rfl,fun r=>.inr rfl⟩
 | some a =>
  refine⟨?_,fun r=>?_⟩
  ·funext r;unfold butOf onlyOf Cells.add;by_cases e:r=a.block
   ·simp[e]
   ·simp[e];cases h r<;>rfl
  ·unfold butOf onlyOf;by_cases e:r=a.block
   ·simp[e]
   ·simp[e]
theorem but_le{h₁ h:Cells}{p:Option Addr}(hl:h₁.le h)(hp:NewIn h₁ p):h₁.le (butOf h p):=by
 intro r x hr;cases p with
 | none=>exact hl r x hr
 | some a =>
  unfold butOf;have hne:r≠a.block:=by
   rintro rfl;have:=hp a rfl;rw[this]at hr;cases hr
  simp[hne];exact hl r x hr
theorem Growing.over{α:Type}{Enc:α->List Value->Prop}{el:TypeId}{k:Nat}{h₀ h hb:Cells}{p:Option Addr}{n c:Nat}{l:List α}(g:Growing Enc el k h₀ h p n c l)(d:Disj hb (onlyOf h p)):Growing Enc el k hb (hb.add (onlyOf h p)) p n c l:=by
 obtain⟨vs,⟨h1,h2⟩,h3⟩:=g.row;rcases h2 with h2|⟨r,cs,rfl,hr,h4⟩
 ·exact⟨⟨vs,⟨h1,.inl h2⟩,h3⟩,fun a ha=>by rw[h2.1]at ha;cases ha⟩
 ·have ho:onlyOf h (some ⟨r,0,none⟩) r=some (true,.cells cs el (0,0)):=by unfold onlyOf;simp[hr]
  refine⟨⟨vs,⟨h1,.inr ⟨r,cs,rfl,Cells.add_right' d ho,h4⟩⟩,h3⟩,fun a ha=>?_⟩;cases ha;rcases d r with h5|h5
  ·exact h5
  ·rw[ho]at h5;cases h5
theorem t_allF{X:XP}{Q:Leaf->LH->Prop}{h hb:LH}{kq:Cells}{kk:Value->T}(hX:XOK X)(hh:h=hb.add kq)(d:Disj hb.get kq)(hk:Kinds hb.get){f:TC}{x:TF}(hx:TreatyR hb.get f x)(k i:Int)(K:Nat)(hK:K<7)
 (hw:∀ v hb' L,hb.le hb'->Disj hb'.get kq->L.length=(x.events.filter (allB K k i)).length->(∀ (j:Nat) xs,L[j]?=some xs->∃ e q m c,(x.events.filter (allB K k i))[j]?=some e/\xs=[evV e q m c]/\Sl IntE 1 hb'.get q m e.items)->Hands X Tryz.prog v hb' L->(kk v).wp X Tryz.prog Q (hb'.add kq)) :
  (T.call false 55 #[matV f x k i,.int .i64 (K:Int)] kk).wp X Tryz.prog Q h:=by
 subst hh;refine t_call (FW.frame hX (FW.top (c2083 (h:=hb) f x k i K)) d) ?_;rintro _ _ ⟨h',d',rfl,le1,z0,z1,rfl,hm,hz⟩;obtain⟨L,h1,h2,h3⟩:=hands2095 hX (hk.le le1.1) hK hm hz (hx.le le1.1);exact hw _ h' L le1 d' h1 h2 h3
theorem c2082{h:LH}(hk:Kinds h.get){f:TC}{x:TF}(hx:TreatyR h.get f x)(rt:Right x)(k i:Int) :
  Gr Tryz.prog 54 #[matV f x k i] h fun r h'=>∃ p n c,r=.slice p n c/\Sl (TitleE f x k i) 1 h'.get p n (titlesL x k i):=by
 refine w2082 _ _ _ _ _ _ _ _ _ _ _ X0_ok ?_;unfold n2082;refine t_gr (c2084 hk hx rt.sum (Nat.le_trans rt.many (by omega)) k i) ?_;rintro _ h₁ le1 ⟨p,n,c,rfl,hs⟩;refine gZ ?_;have hn:=hs.1;have hb:=hs.2.1;have hlen:=askDays_len x k i;have hmany:=rt.many;have htl:=titles_len x k i;refine t_loop (fun mm vs h'=>h₁.le h'/\∃ (j:Nat) (q:Option Addr) (m cc:Nat),vs=[.int .i64 j,.slice q m cc]/\j<=n/\mm=n-j/\Growing (TitleEnc f x k i) 115 1 h₁.get h'.get q m cc (((askDays x k i).take j).map .ask))
  ⟨LH.le_refl _,0,none,0,0,rfl,Nat.zero_le _,rfl,Growing.nil⟩ ?_
 rintro Y mm vs h2 hY ⟨le2,j,q,m,cc,rfl,hj,rfl,g⟩;refine yJ (fun e1=>?_) (fun e1=>?_)
 ·obtain⟨a,ad,ha,had,he⟩:=(hs.le AskE.grow le2.1).at (i:=j) (by omega);have g0:=he 0 _ rfl;have g1:=he 1 _ rfl;have g2:=he 2 _ rfl;have g3:=he 3 _ rfl;have g4:=he 4 _ rfl;have g5:=he 5 _ rfl;have g6:=he 6 _ rfl;have g7:=he 7 _ rfl;have g8:=he 8 _ rfl;have g9:=he 9 _ rfl;have g10:=he 10 _ rfl;have g11:=he 11 _ rfl;have hm:m<=100:=by
   rw[g.count TitleEnc.len (by omega),List.length_map,List.length_take];omega
  refine gZ ?_;refine t_push (Title.ask a) [titleV f x k i (.ask a)] rfl rfl undTitles infTitle rfl (by omega) (by decide) (by kernel_rfl) rfl (by simp[titleV_one]) (by omega) g le2 rfl ?_;intro p' c' h3 le3 _ g3';refine gZ ?_;refine t_again (hY (n-(j+1)) _ _ (by omega) ⟨le3,j+1,p',m+1,c',?_,by omega,rfl,?_⟩)
  ·rw[wrap_id (by omega) (by omega)];rfl
  ·rw[List.take_add_one,ha,List.map_append];exact g3'
 ·refine gZ ?_;have hjn:j=(askDays x k i).length:=by omega
  subst hjn;rw[List.take_of_length_le (Nat.le_refl _)]at g;have hbo:=but_only h2.get q;have lebut:h₁.get.le (butOf h2.get q):=but_le le2.1 g.new;refine t_allF (hb:={ h2 with get:=butOf h2.get q }) (kq:=onlyOf h2.get q) X0_ok (by unfold LH.add;simp only;rw[<- hbo.1]) hbo.2 ((hk.le le1.1).le lebut) ((hx.le le1.1).le lebut) k i 5 (by decide) ?_;intro v h3 L leb3 d3 hL1 hL2 hH;have le3:h₁.le h3:=⟨Cells.le_trans lebut leb3.1,leb3.2.1.trans le2.2.1,leb3.2.2.1.trans le2.2.2.1,leb3.2.2.2.trans le2.2.2.2⟩
  have le03:=LH.le_trans le1 le3;have hFl:=List.length_filter_le (allB 5 k i) x.events;have htit:titlesL x k i=(askDays x k i).map .ask++turnsL x k i (x.events.filter (allB 5 k i)):=rfl;rw[htit];generalize hF:x.events.filter (allB 5 k i)=F at hL1 hL2 hFl;have leA:h3.le (h3.add (onlyOf h2.get q)):=⟨Cells.le_add _ _,rfl,rfl,rfl⟩
  refine t_each leA hH (fun j vs h'=>∃ (q:Option Addr) (m cc:Nat),vs=[.slice q m cc]/\Growing (TitleEnc f x k i) 115 1 h3.get h'.get q m cc ((askDays x k i).map .ask++turnsL x k i (F.take j)))
   ⟨q,m,cc,rfl,by simpa[turnsL,LH.add] using Growing.over g d3⟩ ?_ ?_
  ·rintro vs h' hle ⟨q,m,cc,rfl,g⟩;rw[hL1,List.take_of_length_le (Nat.le_refl _)]at g;refine gZ ?_;refine t_ret ⟨LH.le_trans le03 hle,q,m,cc,rfl,g.sl TitleEnc.len (by omega) TitleEnc.e ?_⟩;rw[htit,hF]at htl;omega
  ·rintro j xs vs h' hj2 hle ⟨q,m,cc,rfl,g⟩ Y2 hY2;obtain⟨e,qe,me,ce,he,rfl,hit⟩:=hL2 j xs hj2;have htake:F.take (j+1)=F.take j++[e]:=by rw[List.take_add_one,he];rfl
   have le13:=LH.le_trans le03 hle;unfold evV;refine gZ ?_;refine t_gr (c2064 (hk.le le13.1) (hx.le le13.1) rt k i e.day) ?_;rintro _ h4 le4 rfl;have le14:=LH.le_trans le13 le4;cases ho:turnO x k i e.day with
   | none =>
    have hno:=(turnO_none rt.ok).1 ho;simp only[Option.isSome,bestCells,zeroAsk];refine yF ?_;refine gZ ?_;refine t_againE (LH.le_trans hle le4) (hY2 _ _ (LH.le_trans hle le4) ⟨q,m,cc,rfl,?_⟩);rw[htake,turns_skip hno];exact g.le le4.1
   | some a =>
    obtain⟨ha0,hae⟩:=turnO_some rt.ok ho;simp only[Option.isSome,bestCells,askCells];refine yT ?_;refine gZ ?_;refine t_gr (c2094 (hk.le le14.1) (hx.le le14.1) k i e.day) ?_;rintro _ h5 le5 rfl;refine gZ ?_;have hm:m<=100:=by
     rw[g.count TitleEnc.len (by omega),List.length_append,List.length_map];unfold turnsL;rw[List.length_map];have h1:=List.length_filter_le (fun e:Ev=>decide (0<=turned x k i e.day)) (F.take j);have h2:(F.take j).length<=F.length:=by rw[List.length_take];omega
     omega
    refine t_buildR [titleV f x k i (.turn a e.day)] undTitles infTitle (by decide) (by decide) (by kernel_rfl) ?_;intro r h6 le6 _ hr6;refine gZ ?_;refine t_growR (h₀:=h3) (Enc:=TitleEnc f x k i) (Title.turn a e.day) [titleV f x k i (.turn a e.day)] rfl rfl undTitles infTitle rfl (by omega) (by omega) (g.le (LH.le_trans le4 (LH.le_trans le5 le6)).1) (LH.le_trans hle (LH.le_trans le4 (LH.le_trans le5 le6))) rfl rfl hr6 (by simp[titleV_one]) ?_;intro p' c' h7 le7 kp7 g7;refine gZ ?_;refine t_againE le7 (hY2 _ _ le7 ⟨p',_,c',rfl,?_⟩);rw[htake,turns_step (by rw[<- hae];exact ha0),<- List.append_assoc,<- hae];exact g7
end
section
open Go.TM.Tr
theorem dated_all(x:TF)(k i d a:Int)(ha:a<=10000):dated x k i d a=leastFrom a (((x.events.filter (allB 6 k i)).filter fun e=>decide (e.day<=d)&&decide (e.since<=a)).map (·.since)):=by
 unfold dated oldL;rw[leastFrom_min _ _ ha,List.filter_filter,least_cons];have:(x.events.filter fun e=>about e 6 k i&&(decide (e.day<=d)&&decide (e.since<=a)))=x.events.filter fun e=>(decide (e.day<=d)&&decide (e.since<=a))&&allB 6 k i e:=by
  refine List.filter_congr fun e _=>?_;rw[allB_about (by decide),Bool.and_comm];rfl
 rw[this]
theorem dateOn_least{x:TF}(v:Ok x)(k i d:Int):dateOn x k i d=if least ((held x k i d).map (dated x k i d))=10000 then -1 else least ((held x k i d).map (dated x k i d)):=by
 unfold dateOn;rcases leastOr_mem (date_vals v (k:=k) (i:=i) (d:=d)) with⟨h1,h2⟩|⟨h1,h2⟩
 ·rw[h1,h2];rfl
 ·rw[h2];have:=date_vals v (k:=k) (i:=i) (d:=d) _ h1;rw[h2]at this;rw[if_neg (by omega)]
theorem title_low{x:TF}(rt:Right x){k i:Int}{t:Title}(h:t∈titlesL x k i):titleDate t<=10000:=by
 rcases titles_ask h with⟨a,rfl,ha⟩|⟨e,_,rfl,_⟩
 ·have:=rt.askDay ha;show a<=10000;omega
 ·show turned x k i e.day<=10000;rcases turned_vals rt.ok k i e.day with⟨h1,_⟩|⟨h1,_⟩
  ·omega
  ·have:=rt.ok.turnedL _ h1;omega
theorem c2060{h:LH}(hk:Kinds h.get){f:TC}{x:TF}(hx:TreatyR h.get f x)(rt:Right x)(k i d:Int) :
  Gr Tryz.prog 38 #[matV f x k i,d] h fun r _=>r=.int .i64 (dateOn x k i d):=by
 refine w2060 _ _ _ _ _ _ _ _ _ _ _ _ X0_ok ?_;unfold n2060;refine t_gr (c2082 hk hx rt k i) ?_;rintro _ h₁ le1 ⟨p,n,c,rfl,hs⟩;refine gZ ?_;have hn:=hs.1;have hb:=hs.2.1;have htl:=titles_len x k i;have hmany:=rt.many;refine t_loop (fun mm vs h'=>h₁.le h'/\∃ (j:Nat) (b:Int),vs=[.int .i64 b,.int .i64 j,.int .i64 x.items,.int .i64 x.lands,.int .i64 x.start,.int .i64 x.depend,.int .i64 x.refuse,.int .i64 x.turn,.slice f.p f.n f.c,.int .i64 k,.int .i64 i,.int .i64 d]/\j<=n/\mm=n-j/\b<=10000 /\
   least ((held x k i d).map (dated x k i d))=leastFrom b (((((titlesL x k i).drop j).filter (titleOn x k i d)).map titleDate).map (dated x k i d)))
  ⟨LH.le_refl _,0,10000,rfl,Nat.zero_le _,rfl,Int.le_refl _,by rw[List.drop_zero,titles_held,leastFrom_cap]⟩ ?_
 rintro Y mm vs h2 hY ⟨le2,j,b,rfl,hj,rfl,hb1,hc⟩;have le12:=LH.le_trans le1 le2;have next:∀ h' (b':Int),h₁.le h'->j+1<=n->b'<=10000->least ((held x k i d).map (dated x k i d))=leastFrom b' (((((titlesL x k i).drop (j+1)).filter (titleOn x k i d)).map titleDate).map (dated x k i d)) ->
   Y [.int .i64 b',.int .i64 (wrap .i64 ((j:Int)+1)),.int .i64 x.items,.int .i64 x.lands,.int .i64 x.start,.int .i64 x.depend,.int .i64 x.refuse,.int .i64 x.turn,.slice f.p f.n f.c,.int .i64 k,.int .i64 i,.int .i64 d] h':=by
  intro h' b' hle' hlt hb' hc';refine hY (n-(j+1)) _ _ (by omega) ⟨hle',j+1,b',?_,by omega,rfl,hb',hc'⟩;rw[wrap_id (by omega) (by omega)];rfl
 refine yJ (fun e1=>?_) (fun e1=>?_)
 ·obtain⟨t,ad,ht,had,he⟩:=(hs.le TitleE.grow le2.1).at (i:=j) (by omega);unfold TitleE at he;rw[add_zero']at he;have htm:=List.mem_of_getElem? ht;rw[drop_of ht,List.filter_cons]at hc;subst had;refine gT (by omega) (gS2 rfl (t_loadV he ?_));refine t_callv (cv_title (hk.le le12.1) (hx.le le12.1) rt k i d htm) ?_;rintro _ h3 ⟨le3,rfl⟩;have le13:=LH.le_trans le12 le3;have le23:=LH.le_trans le2 le3;refine yI (fun e2=>?_) (fun e2=>?_)
  ·have e2:titleOn x k i d t=false:=by simpa using e2
   rw[e2,if_neg (by simp)]at hc;exact t_again (next h3 b le23 (by omega) hb1 hc)
  ·have e2:titleOn x k i d t=true:=by simpa using e2
   rw[e2,if_pos rfl,List.map_cons,List.map_cons,leastFrom]at hc;have hlow:=title_low rt htm;refine t_all X0_ok (hk.le le13.1) (hx.le le13.1) k i 6 (by decide) ?_;intro v h4 L le4 hL1 hL2 hH;have hdt:=dated_all x k i d (titleDate t) hlow;generalize hF:x.events.filter (allB 6 k i)=F at hL1 hL2 hdt;have le24:=LH.le_trans le23 le4;refine t_each (LH.le_refl h4) hH (fun j vs h'=>∃ a:Int,vs=[.int .i64 a]/\a<=10000/\dated x k i d (titleDate t)=leastFrom a (((F.drop j).filter fun e=>decide (e.day<=d)&&decide (e.since<=titleDate t)).map (·.since)))
    ⟨_,rfl,hlow,hdt⟩ ?_ ?_
   ·rintro vs h' hle ⟨a,rfl,hal,hda⟩;rw[List.drop_eq_nil_of_le (by omega)]at hda;simp only[List.filter_nil,List.map_nil,leastFrom]at hda;rw[hda]at hc;refine gZ ?_;exact t_again (next h' _ (LH.le_trans le24 hle) (by omega) (by split<;>omega) hc)
   ·rintro j2 xs vs h' hj2 hle ⟨a,rfl,hal,hda⟩ Y2 hY2;obtain⟨e,q,m,cc,hev,rfl,hit⟩:=hL2 j2 xs hj2;rw[drop_of hev,List.filter_cons]at hda;unfold evV;refine yJ (fun e3=>?_) (fun e3=>?_)
    ·refine t_if (fun e4=>?_) (fun e4=>?_)
     ·rw[if_pos (by simp;omega),List.map_cons,leastFrom]at hda;exact t_againE hle (hY2 _ _ hle ⟨_,rfl,by split<;>omega,hda⟩)
     ·rw[if_neg (by simp;omega)]at hda;exact t_againE hle (hY2 _ _ hle ⟨_,rfl,hal,hda⟩)
    ·rw[if_neg (by simp;omega)]at hda;exact t_againE hle (hY2 _ _ hle ⟨_,rfl,hal,hda⟩)
 ·refine gZ ?_;rw[List.drop_eq_nil_of_le (by omega)]at hc;simp only[List.filter_nil,List.map_nil,leastFrom]at hc;have hd:=dateOn_least rt.ok k i d;rw[hc]at hd;refine t_cond (fun e2=>?_) (fun e2=>?_)
  ·exact t_ret ⟨le12,by rw[hd,if_pos (by simpa using e2)]⟩
  ·exact t_ret ⟨le12,by rw[hd,if_neg (by simpa using e2)]⟩
def datesT(x:TF)(k d:Int):List Int:=(List.range x.items.toNat).map fun i:Nat=>dateOn x k (i:Int) d
def DatesR(h:Cells)(x:TF)(k d:Int)(r:Value):Prop :=
 (askedDayT x k d≠0/\r=.tuple #[.slice none 0 0,.int .i64 (askedDayT x k d)]) \/
 (askedDayT x k d=0/\∃ p n c,r=.tuple #[.slice p n c,.int .i64 0]/\Sl IntE 1 h p n (datesT x k d)/\n<=c)
theorem c2026{h:LH}(hk:Kinds h.get){f:TC}{x:TF}(hx:TreatyR h.get f x)(k d:Int):Gr Tryz.prog 18 #[treatyV f x,k,d] h fun r h'=>DatesR h'.get x k d r:=by
 refine w2026 _ _ _ _ _ _ _ _ _ _ _ X0_ok ?_;unfold n2026;refine t_pu (c2063 hk hx k d) ?_;refine yI (fun e=>?_) (fun e=>?_)
 ·exact t_ret ⟨LH.le_refl _,.inl ⟨by simpa using e,rfl⟩⟩
 have e0:askedDayT x k d=0:=by simpa using e
 have hck:=(asked_ok (askedDay_ok e0).1).1;have rt:=Right.of hck;have hit:=(check_numbers hck).1;refine t_loop (fun mm vs h'=>h.le h'/\∃ (j:Nat) (p:Option Addr) (n c:Nat),vs=[.slice p n c,.int .i64 j]/\(j:Int)<=x.items/\mm=x.items.toNat-j/\Growing IntEnc 3 1 h.get h'.get p n c ((List.range j).map fun i:Nat=>dateOn x k (i:Int) d))
  ⟨LH.le_refl _,0,none,0,0,rfl,by omega,rfl,Growing.nil⟩ ?_
 rintro Y mm vs h₁ hY ⟨le1,j,p,n,c,rfl,hj,rfl,g⟩;refine yJ (fun e1=>?_) (fun e1=>?_)
 ·refine t_gr (c2060 (hk.le le1.1) (hx.le le1.1) rt k j d) ?_;rintro _ h2 le2 rfl;refine gZ ?_;have hnn:n=j:=by rw[g.count IntEnc.len (by omega)];simp
  refine t_push (dateOn x k j d) [.int .i64 (dateOn x k j d)] rfl rfl und50 inf3 rfl (by omega) (by decide) (by kernel_rfl) rfl (by simp;rfl) (by omega) (g.le le2.1) (LH.le_trans le1 le2) rfl ?_;intro p' c' h3 le3 _ g3;refine gZ ?_;refine t_again (hY (x.items.toNat-(j+1)) _ _ (by omega) ⟨le3,j+1,p',n+1,c',?_,by omega,rfl,?_⟩)
  ·rw[wrap_id (by omega) (by omega)];rfl
  ·rw[List.range_succ,List.map_append];exact g3
 ·refine gZ ?_;have hjn:x.items.toNat=j:=by omega
  refine t_ret ⟨le1,.inr ⟨e0,p,n,c,rfl,?_,?_⟩⟩
  ·unfold datesT;rw[hjn];exact g.sl IntEnc.len (by omega) IntEnc.e (by simp;omega)
  ·obtain⟨vs,o,_⟩:=g.row;exact o.le_cap
end
section
open Go.TM.Tr
def protT(x:TF)(k d:Int):List Bool:=(datesT x k d).map fun d=>decide (d>=0)
def ProtR(h:Cells)(x:TF)(k d:Int)(r:Value):Prop :=
 ∃ p n c,r=.tuple #[.slice p n c,.int .i64 (askedDayT x k d)]/\Sl BoolE 1 h p n (if askedDayT x k d=0 then protT x k d else [])/\n<=c
theorem dates_len(x:TF)(k d:Int):(datesT x k d).length=x.items.toNat:=by unfold datesT;simp
theorem c2018{h:LH}(hk:Kinds h.get){f:TC}{x:TF}(hx:TreatyR h.get f x)(k d:Int):Gr Tryz.prog 17 #[treatyV f x,.int .i64 k,.int .i64 d] h fun r h'=>ProtR h'.get x k d r:=by
 refine w2018 _ _ _ _ _ _ _ _ _ _ _ X0_ok ?_;unfold n2018;refine t_gr (c2026 hk hx k d) ?_;intro r h₁ le1 hr;obtain⟨p,n,c,g,l,rfl,hs,hg,hl,hl5⟩ : ∃ p n c g l,r=.tuple #[.slice p n c,.int .i64 g]/\Sl IntE 1 h₁.get p n l/\g=askedDayT x k d/\(if askedDayT x k d=0 then protT x k d else [])=l.map (fun d=>decide (d>=0))/\l.length<=5:=by
  rcases hr with⟨h1,rfl⟩|⟨h1,p,n,c,rfl,h2,h3⟩
  ·exact⟨none,0,0,_,[],rfl,Sl.nil,rfl,by rw[if_neg h1];rfl,by simp⟩
  ·refine⟨p,n,c,0,_,rfl,h2,h1.symm,by rw[if_pos h1];rfl,?_⟩;have:=(check_numbers (asked_ok (askedDay_ok h1).1).1).1;rw[dates_len];omega
 refine gZ ?_;have hn:=hs.1;refine t_new fun r hr=>?_;have le2:∀ cs,h₁.le { h₁ with get:=h₁.get.upd r (true,.cells cs 83 (0,0)) }:=fun cs=>LH.upd_le hr;refine t_loop (fun mm vs h'=>∃ (j:Nat) (cs:Array Value),vs=[.int .i64 j]/\j<=n/\mm=n-j/\h'={ h₁ with get:=h₁.get.upd r (true,.cells cs 83 (0,0)) }/\cs.size=5/\(∀ (i:Nat) y,i<j->l[i]?=some y->cs[i]?=some (.bool (decide (y>=0))))/\∀ i:Nat,j<=i->i<5->cs[i]?=some (.bool false))
  ⟨0,#[.bool false,.bool false,.bool false,.bool false,.bool false],rfl,Nat.zero_le _,rfl,rfl,rfl,fun i y hi=>absurd hi (Nat.not_lt_zero _),fun i _ hi=>by match i,hi with|0,_|1,_|2,_|3,_|4,_=>rfl⟩ ?_
 rintro Y mm vs _ hY ⟨j,cs,rfl,hj,rfl,rfl,hsz,hlow,hhigh⟩;refine yJ (fun e1=>?_) (fun e1=>?_)
 ·obtain⟨y,a,hy,ha,e2⟩:=(hs.le IntE.grow (le2 cs).1).at (i:=j) (by omega);unfold IntE at e2;refine gZ ?_;refine t_storeU (o:=j) (by rw[add_plain,add_plain];simp) rfl (by omega) ?_;refine t_again (hY (n-(j+1)) _ _ (by omega) ⟨j+1,_,?_,by omega,rfl,rfl,by simp[hsz],fun i z hi hz=>?_,fun i hi h5=>?_⟩)
  ·rw[wrap_id (by omega) (by omega)];rfl
  ·by_cases e:i=j
   ·subst e;rw[hy]at hz;cases hz;rw[Array.getElem?_setIfInBounds_self_of_lt (by omega)]
   ·rw[Array.getElem?_setIfInBounds_ne (Ne.symm e)];exact hlow i z (by omega) hz
  ·rw[Array.getElem?_setIfInBounds_ne (by omega)];exact hhigh i (by omega) h5
 ·refine gZ ?_;have hjn:j=n:=by omega
  subst hjn;obtain⟨bs,hbs5,hbs⟩ : ∃ bs:List Bool,bs.length=5/\∀ (i:Nat) b,bs[i]?=some b->cs[i]?=some (.bool b):=by
   refine⟨(List.range 5).map fun i:Nat=>match (l[i]? : Option Int) with|some y=>decide (y>=0)|none=>false,by simp,fun i b hb=>?_⟩;rw[List.getElem?_map]at hb;by_cases h5:i<5
   ·rw[List.getElem?_range h5]at hb;simp only[Option.map_some,Option.some.injEq]at hb;cases hly:l[i]? with
    | none =>
     rw[hly]at hb;subst hb;exact hhigh i (by rw[hn];exact List.getElem?_eq_none_iff.1 hly) h5
    | some y =>
     rw[hly]at hb;subst hb;exact hlow i y (by rw[hn];exact(List.getElem?_eq_some_iff.1 hly).1) hly
   ·rw[List.getElem?_eq_none (by simp;omega)]at hb;cases hb
  match bs,hbs5 with
  | [b0,b1,b2,b3,b4],_ =>
   have c0:Cells.cell? (h₁.get.upd r (true,.cells cs 83 (0,0))) (Addr.add ⟨r,0,none⟩ 0)=some (.bool b0):=by rw[add_plain];exact cell_upd (hbs 0 _ rfl)
   have c1:Cells.cell? (h₁.get.upd r (true,.cells cs 83 (0,0))) (Addr.add ⟨r,0,none⟩ 1)=some (.bool b1):=by rw[add_plain];exact cell_upd (hbs 1 _ rfl)
   have c2:Cells.cell? (h₁.get.upd r (true,.cells cs 83 (0,0))) (Addr.add ⟨r,0,none⟩ 2)=some (.bool b2):=by rw[add_plain];exact cell_upd (hbs 2 _ rfl)
   have c3:Cells.cell? (h₁.get.upd r (true,.cells cs 83 (0,0))) (Addr.add ⟨r,0,none⟩ 3)=some (.bool b3):=by rw[add_plain];exact cell_upd (hbs 3 _ rfl)
   have c4:Cells.cell? (h₁.get.upd r (true,.cells cs 83 (0,0))) (Addr.add ⟨r,0,none⟩ 4)=some (.bool b4):=by rw[add_plain];exact cell_upd (hbs 4 _ rfl)
   refine gL2 c0 (gL2 c1 (gL2 c2 (gL2 c3 (gL2 c4 ?_))));refine t_eqA5 undItems bo4 inf4 gItems ?_;refine yI (fun e=>?_) (fun e=>?_)
   ·have e:[b0,b1,b2,b3,b4]=[false,false,false,false,false]:=by simpa only [decide_eq_true_eq] using e
    refine t_makeSlice undBs inf4 rfl (by decide) (by omega) fun r2 cs2 hr2 hsz2 hcs2=>?_;refine gZ ?_;refine t_ret ⟨LH.le_trans (LH.le_trans le1 (le2 cs)) (LH.upd_le hr2),_,_,_,by rw[hg],?_,Nat.le_refl _⟩;rw[hl];refine⟨by rw[List.length_map];exact hn,by rw[List.length_map];omega,fun i b hb=>⟨_,rfl,?_⟩⟩;unfold BoolE;rw[add_plain,add_plain];rw[List.getElem?_map]at hb;cases hly:l[i]? with
    | none=>rw[hly]at hb;cases hb
    | some y =>
     rw[hly]at hb;simp only[Option.map_some,Option.some.injEq]at hb;have hi:=(List.getElem?_eq_some_iff.1 hly).1;have h1:=hlow i y (by omega) hly;have hcell:=hcs2 i (by omega);have hb':b=false:=by
      have h2:=hbs i
      match i,hi with
      | 0,_=>have:=h2 b0 rfl;cases e;rw[this]at h1;simp only[Option.some.injEq,Value.bool.injEq]at h1;rw[<- hb,<- h1]
      | 1,_=>have:=h2 b1 rfl;cases e;rw[this]at h1;simp only[Option.some.injEq,Value.bool.injEq]at h1;rw[<- hb,<- h1]
      | 2,_=>have:=h2 b2 rfl;cases e;rw[this]at h1;simp only[Option.some.injEq,Value.bool.injEq]at h1;rw[<- hb,<- h1]
      | 3,_=>have:=h2 b3 rfl;cases e;rw[this]at h1;simp only[Option.some.injEq,Value.bool.injEq]at h1;rw[<- hb,<- h1]
      | 4,_=>have:=h2 b4 rfl;cases e;rw[this]at h1;simp only[Option.some.injEq,Value.bool.injEq]at h1;rw[<- hb,<- h1]
      | i+5,hi=>omega
     rw[hb'];have hz:0+i*1+0=i:=by omega
     rw[hz];exact cell_upd hcell
   ·refine t_sliceArr undItems inf4 (by omega) fun a' ha0 ha1=>?_;refine gZ ?_;refine t_ret ⟨LH.le_trans le1 (le2 cs),_,_,_,by rw[hg],?_,Nat.le_refl _⟩;rw[hl];have haa:a'=⟨r,0,none⟩:=by
     by_cases e0:j=0
     ·exact ha0 e0
     ·rw[ha1 e0,add_plain]
    subst haa;refine⟨by rw[List.length_map];exact hn,by rw[List.length_map];omega,fun i b hb=>⟨_,rfl,?_⟩⟩;unfold BoolE;rw[add_plain,add_plain];rw[List.getElem?_map]at hb;cases hly:l[i]? with
    | none=>rw[hly]at hb;cases hb
    | some y =>
     rw[hly]at hb;simp only[Option.map_some,Option.some.injEq]at hb;have hi:=(List.getElem?_eq_some_iff.1 hly).1;have h1:=hlow i y (by omega) hly;have hz:0+i*1+0=i:=by omega
     rw[hz,<- hb];exact cell_upd h1
def turnsT(x:TF)(k d:Int):List Int:=((List.range x.items.toNat).filter fun i:Nat=>decide (0<=turned x k (i:Int) d)).map fun i:Nat=>(i:Int)
def TurnsR(h:Cells)(x:TF)(k d:Int)(r:Value):Prop :=
 (askedDayT x k d≠0/\r=.tuple #[.slice none 0 0,.int .i64 (askedDayT x k d)]) \/
 (askedDayT x k d=0/\∃ p n c,r=.tuple #[.slice p n c,.int .i64 0]/\Sl IntE 1 h p n (turnsT x k d)/\n<=c)
theorem c2029{h:LH}(hk:Kinds h.get){f:TC}{x:TF}(hx:TreatyR h.get f x)(k d:Int):Gr Tryz.prog 20 #[treatyV f x,k,d] h fun r h'=>TurnsR h'.get x k d r:=by
 refine w2029 _ _ _ _ _ _ _ _ _ _ _ X0_ok ?_;unfold n2029;refine t_pu (c2063 hk hx k d) ?_;refine yI (fun e=>?_) (fun e=>?_)
 ·exact t_ret ⟨LH.le_refl _,.inl ⟨by simpa using e,rfl⟩⟩
 have e0:askedDayT x k d=0:=by simpa using e
 have hck:=(asked_ok (askedDay_ok e0).1).1;have rt:=Right.of hck;have hit:=(check_numbers hck).1;refine t_loop (fun mm vs h'=>h.le h'/\∃ (j:Nat) (p:Option Addr) (n c:Nat),vs=[.slice p n c,.int .i64 j]/\(j:Int)<=x.items/\mm=x.items.toNat-j/\Growing IntEnc 3 1 h.get h'.get p n c (((List.range j).filter fun i:Nat=>decide (0<=turned x k (i:Int) d)).map fun i:Nat=>(i:Int)))
  ⟨LH.le_refl _,0,none,0,0,rfl,by omega,rfl,Growing.nil⟩ ?_
 rintro Y mm vs h₁ hY ⟨le1,j,p,n,c,rfl,hj,rfl,g⟩;have hnn:n<=j:=by
  rw[g.count IntEnc.len (by omega),List.length_map];have:=List.length_filter_le (fun i:Nat=>decide (0<=turned x k (i:Int) d)) (List.range j);rw[List.length_range]at this;exact this
 refine yJ (fun e1=>?_) (fun e1=>?_)
 ·refine t_gr (c2064 (hk.le le1.1) (hx.le le1.1) rt k j d) ?_;rintro _ h2 le2 rfl;cases ho:turnO x k (j:Int) d with
  | none =>
   have hno:=(turnO_none rt.ok).1 ho;simp only[Option.isSome,bestCells,zeroAsk];refine yF ?_;refine t_again (hY (x.items.toNat-(j+1)) _ _ (by omega) ⟨LH.le_trans le1 le2,j+1,p,n,c,?_,by omega,rfl,?_⟩)
   ·rw[wrap_id (by omega) (by omega)];rfl
   ·rw[List.range_succ,List.filter_append,List.filter_cons,if_neg (by simpa using hno)];simpa using g.le le2.1
  | some a =>
   obtain⟨ha0,hae⟩:=turnO_some rt.ok ho;simp only[Option.isSome,bestCells,askCells];refine yT ?_;refine t_push (j:Int) [.int .i64 (j:Int)] rfl rfl und50 inf3 rfl (by omega) (by decide) (by kernel_rfl) rfl (by simp;rfl) (by omega) (g.le le2.1) (LH.le_trans le1 le2) rfl ?_;intro p' c' h3 le3 _ g3;refine gZ ?_;refine t_again (hY (x.items.toNat-(j+1)) _ _ (by omega) ⟨le3,j+1,p',n+1,c',?_,by omega,rfl,?_⟩)
   ·rw[wrap_id (by omega) (by omega)];rfl
   ·rw[List.range_succ,List.filter_append,List.filter_cons,if_pos (by rw[<- hae];simpa using ha0),List.map_append];exact g3
 ·refine gZ ?_;have hjn:x.items.toNat=j:=by omega
  refine t_ret ⟨le1,.inr ⟨e0,p,n,c,rfl,?_,?_⟩⟩
  ·unfold turnsT;rw[hjn];refine g.sl IntEnc.len (by omega) IntEnc.e ?_;rw[<- g.count IntEnc.len (by omega)];omega
  ·obtain⟨vs,o,_⟩:=g.row;exact o.le_cap
end
section
open Go.TM.Tr
def KindsOk(x:TF):Prop:=∀ e∈x.events,0<=e.kind/\e.kind<=6
theorem KindsOk.of{x:TF}(h:checkT x=0):KindsOk x:=fun e he=>(event_ok.1 (check_event h e he)).kind
theorem KindsOk.nat{x:TF}(h:KindsOk x){e:Ev}(he:e∈x.events):∃ n:Nat,e.kind=n/\n<7:=by
 have:=h e he;exact⟨e.kind.toNat,by omega,by omega⟩
theorem gives_int{n:Nat}(hn:n<7){e:Ev}(he:e.kind=n):givesK n=givesB e:=by
 unfold givesB;rw[he]
 match n,hn with
 | 0,_|1,_|2,_|3,_|4,_|5,_|6,_=>rfl
theorem cv_gives{h:LH}(n:Nat):CV X0 Tryz.prog (.func (.func (if givesK n then 173 else 174)) #[] #[]) #[] h fun r h'=>r=.bool (givesK n)/\h=h':=by
 cases hg:givesK n with
 | true=>exact cv_fw X0_ok (by rfl) (FW.mono c2140 fun _ _ h=>⟨h.1,h.2.symm⟩)
 | false=>exact cv_fw X0_ok (by rfl) (FW.mono c2141 fun _ _ h=>⟨h.1,h.2.symm⟩)
theorem giving_snoc{e:Ev}:∀ (l:List Ev) (n:Int),givingGo (l++[e]) n=givingGo l n++if givesB e then [n+(l.length:Int)] else []
 | [],n=>by simp[givingGo]
 | c::l,n=>by
  rw[List.cons_append,givingGo,givingGo,giving_snoc l (n+1)];have:n+1+(l.length:Int)=n+((c::l).length:Int):=by simp;omega
  rw[this];split<;>simp
theorem with_snoc{L:List Int}{e:Ev}:∀ (l:List Ev) (n:Int),withGo L (l++[e]) n=withGo L l n++if (!givesB e||L.contains (n+(l.length:Int))) then [e] else []
 | [],n=>by simp[withGo]
 | c::l,n=>by
  rw[List.cons_append,withGo,withGo,with_snoc l (n+1)];have:n+1+(l.length:Int)=n+((c::l).length:Int):=by simp;omega
  rw[this];split<;>simp
theorem giving_len:∀ (l:List Ev) (n:Int),(givingGo l n).length<=l.length
 | [],_=>Nat.le_refl _
 | c::l,n=>by
  have:=giving_len l (n+1);rw[givingGo];split<;>simp<;>omega
theorem with_len(L:List Int):∀ (l:List Ev) (n:Int),(withGo L l n).length<=l.length
 | [],_=>Nat.le_refl _
 | c::l,n=>by
  have:=with_len L l (n+1);rw[withGo];split<;>simp<;>omega
theorem Right.with{x:TF}(r:Right x)(L:List Int):Right (withE x L) :=
 ⟨ok_with r.ok L,r.start,r.depend,r.refuse,r.turn,Nat.le_trans (with_len L x.events 0) r.many⟩
theorem c2067{h:LH}(hk:Kinds h.get){f:TC}{x:TF}(hx:TreatyR h.get f x)(hkd:KindsOk x)(hmany:x.events.length<=10) :
  Gr Tryz.prog 43 #[treatyV f x] h fun r h'=>∃ p n c,r=.slice p n c/\Sl IntE 1 h'.get p n (giving x)/\n<=c:=by
 refine w2067 _ _ _ _ _ _ _ _ _ X0_ok ?_;unfold n2067;have hs:=hx.2;have hn:=hs.1;refine t_loop (fun mm vs h'=>h.le h'/\∃ (j:Nat) (p:Option Addr) (n c:Nat),vs=[.slice p n c,.int .i64 j]/\j<=f.n/\mm=f.n-j/\Growing IntEnc 3 1 h.get h'.get p n c (givingGo (x.events.take j) 0))
  ⟨LH.le_refl _,0,none,0,0,rfl,Nat.zero_le _,rfl,Growing.nil⟩ ?_
 rintro Y mm vs h₁ hY ⟨le1,j,p,n,c,rfl,hj,rfl,g⟩;have hnn:n<=10:=by
  rw[g.count IntEnc.len (by omega)];have:=giving_len (x.events.take j) 0;rw[List.length_take]at this;omega
 refine yJ (fun e1=>?_) (fun e1=>?_)
 ·obtain⟨e,a,he,ha,g0,g1,g2,⟨q,m,cc,g3,_,g5⟩,g4⟩:=(hs.le EventE.grow le1.1).at (i:=j) (by omega);obtain⟨kn,hkn,hk7⟩:=hkd.nat (List.mem_of_getElem? he);have htake:x.events.take (j+1)=x.events.take j++[e]:=by rw[List.take_add_one,he];rfl
  have hlen:(x.events.take j).length=j:=by rw[List.length_take];omega
  have hg:=(hk.le le1.1).givesAt hk7;rw[hkn]at g0;refine gZ ?_;refine t_loadV hg ?_;refine t_callv (cv_gives kn) ?_;rintro _ _ ⟨rfl,rfl⟩;rw[gives_int hk7 hkn];refine yI (fun e2=>?_) (fun e2=>?_)
  ·refine t_push (j:Int) [.int .i64 (j:Int)] rfl rfl und50 inf3 rfl (by omega) (by decide) (by kernel_rfl) rfl (by simp;rfl) (by omega) g le1 rfl ?_;intro p' c' h3 le3 _ g3;refine gZ ?_;refine t_again (hY (f.n-(j+1)) _ _ (by omega) ⟨le3,j+1,p',n+1,c',?_,by omega,rfl,?_⟩)
   ·rw[wrap_id (by omega) (by omega)];rfl
   ·rw[htake,giving_snoc,if_pos e2,hlen,Int.zero_add];exact g3
  ·refine t_again (hY (f.n-(j+1)) _ _ (by omega) ⟨le1,j+1,p,n,c,?_,by omega,rfl,?_⟩)
   ·rw[wrap_id (by omega) (by omega)];rfl
   ·rw[htake,giving_snoc,if_neg (by rw[e2];simp),List.append_nil];exact g
 ·refine gZ ?_;rw[List.take_of_length_le (by omega)]at g;refine t_ret ⟨le1,p,n,c,rfl,g.sl IntEnc.len (by omega) IntEnc.e ?_,?_⟩
  ·show (givingGo x.events 0).length<_;rw[<- g.count IntEnc.len (by omega)];omega
  ·obtain⟨vs,o,_⟩:=g.row;exact o.le_cap
theorem c2069{h:LH}(hk:Kinds h.get){f:TC}{x:TF}(hx:TreatyR h.get f x)(rt:Right x)(hkd:KindsOk x)(k i d:Int){ep:Option Addr}{en ec:Nat}{L:List Int}(hL:Sl IntE 1 h.get ep en L) :
  Gr Tryz.prog 45 #[treatyV f x,k,.int .i64 i,d,.slice ep en ec] h fun r _=>r=.bool (holdsB x k i d L):=by
 refine w2069 _ _ _ _ _ _ _ _ _ _ _ _ _ _ _ X0_ok ?_;unfold n2069;have hs:=hx.2;have hn:=hs.1;have hmany:=rt.many;refine t_loop (fun mm vs h'=>h.le h'/\∃ (j:Nat) (p:Option Addr) (n c:Nat),vs=[.int .i64 j,.int .i64 x.items,.int .i64 x.lands,.int .i64 x.start,.int .i64 x.depend,.int .i64 x.refuse,.int .i64 x.turn,.slice p n c]/\j<=f.n/\mm=f.n-j/\Growing (EventEnc h.get) 49 5 h.get h'.get p n c (withGo L (x.events.take j) 0))
  ⟨LH.le_refl _,0,none,0,0,rfl,Nat.zero_le _,rfl,Growing.nil⟩ ?_
 rintro Y mm vs h₁ hY ⟨le1,j,p,n,c,rfl,hj,rfl,g⟩;have hnn:n<=10:=by
  rw[g.count EventEnc.len (by omega)];have:=with_len L (x.events.take j) 0;rw[List.length_take]at this;omega
 refine yJ (fun e1=>?_) (fun e1=>?_)
 ·obtain⟨e,a,he,ha,g0,g1,g2,⟨q,m,cc,g3,g6,g5⟩,g4⟩:=hs.at (i:=j) (by omega);have hws:EventEnc h.get e [.int .i64 e.kind,.int .i64 e.day,.int .i64 e.land,.slice q m cc,.int .i64 e.since]:=⟨q,m,cc,rfl,g6,g5⟩
  obtain⟨kn,hkn,hk7⟩:=hkd.nat (List.mem_of_getElem? he);have htake:x.events.take (j+1)=x.events.take j++[e]:=by rw[List.take_add_one,he];rfl
  have hlen:(x.events.take j).length=j:=by rw[List.length_take];omega
  have hg:=(hk.le le1.1).givesAt hk7;rw[hkn]at g0 hws;have g0:=Cells.cell?_le le1.1 g0;have g1:=Cells.cell?_le le1.1 g1;have g2:=Cells.cell?_le le1.1 g2;have g3:=Cells.cell?_le le1.1 g3;have g4:=Cells.cell?_le le1.1 g4;refine gZ ?_;refine t_loadV hg ?_;refine t_callv (cv_gives kn) ?_;rintro _ _ ⟨rfl,rfl⟩;rw[gives_int hk7 hkn];have keep:(!givesB e||L.contains (j:Int))=true->∀ {K:Value->T} {Q:Leaf->LH->Prop},(∀ p' c' h',h.le h'->Growing (EventEnc h.get) 49 5 h.get h'.get p' (n+1) c' (withGo L (x.events.take (j+1)) 0)->(K (.slice p' (n+1) c')).wp X0 Tryz.prog Q h') ->
    (T.sem false (Instr.buildSlice 22 1 #[(0,.agg #[.int .i64 (kn:Int),.int .i64 e.day,.int .i64 e.land,.slice q m cc,.int .i64 e.since])]) fun v=>T.unS v fun a m mc=>T.sem false (Builtin.append_ #[22,22] 22 #[.slice p n c,.slice a m mc]) K).wp X0 Tryz.prog Q h₁:=by
   intro hkeep K Q hK;refine t_push e [.int .i64 (kn:Int),.int .i64 e.day,.int .i64 e.land,.slice q m cc,.int .i64 e.since] rfl rfl undEvs infEv rfl (by omega) (by decide) (by kernel_rfl) rfl ?_ (by omega) g le1 hws ?_
   ·intro w hw;simp only[List.mem_cons,List.not_mem_nil,or_false]at hw;rcases hw with rfl|rfl|rfl|rfl|rfl<;>rfl
   ·intro p' c' h3 le3 _ g3;refine hK p' c' h3 le3 ?_;rw[htake,with_snoc,hlen,Int.zero_add,if_pos hkeep];exact g3
  have next:∀ h' p' n' c',h.le h'->Growing (EventEnc h.get) 49 5 h.get h'.get p' n' c' (withGo L (x.events.take (j+1)) 0)->Y [.int .i64 (wrap .i64 ((j:Int)+1)),.int .i64 x.items,.int .i64 x.lands,.int .i64 x.start,.int .i64 x.depend,.int .i64 x.refuse,.int .i64 x.turn,.slice p' n' c'] h':=by
   intro h' p' n' c' hle' g';refine hY (f.n-(j+1)) _ _ (by omega) ⟨hle',j+1,p',n',c',?_,by omega,rfl,g'⟩;rw[wrap_id (by omega) (by omega)];rfl
  refine yI (fun e2=>?_) (fun e2=>?_)
  ·refine keep (by rw[e2,Bool.true_or]) fun p' c' h' hle' g'=>?_;refine gZ ?_;exact t_again (next h' p' _ c' hle' g')
  ·refine t_pu (c100 (hL.le IntE.grow le1.1) (j:Int)) ?_;refine yI (fun e3=>?_) (fun e3=>?_)
   ·refine keep (by rw[e3,Bool.or_true]) fun p' c' h' hle' g'=>?_;refine gZ ?_;exact t_again (next h' p' _ c' hle' g')
   ·refine t_again (next h₁ p n c le1 ?_);rw[htake,with_snoc,hlen,Int.zero_add,if_neg (by rw[e2,e3];simp),List.append_nil];exact g
 ·refine gZ ?_;rw[List.take_of_length_le (by omega)]at g;have hx':TreatyR h₁.get ⟨p,n,c⟩ (withE x L):=by
   refine⟨?_,g.sl EventEnc.len (by omega) (EventEnc.e (Rd.of_le le1.1)) ?_⟩
   ·obtain⟨vs,o,_⟩:=g.row;exact o.le_cap
   ·show (withGo L x.events 0).length<_;rw[<- g.count EventEnc.len (by omega)];omega
  refine t_gr (c2060 (hk.le le1.1) hx' (rt.with L) k i d) ?_;rintro _ h2 le2 rfl;refine gZ ?_;exact t_ret ⟨LH.le_trans le1 le2,rfl⟩
end
end Go.Y.Tre
section
namespace Go.Y
set_option maxHeartbeats 0
set_option linter.unusedVariables false
variable {X:XP} {h:LH} {A:Value->LH->Prop}
def n2092(xp:Option Addr)(xn xc:Nat):T:=.cI 94 #[.int .u64 (IntKind.wrap .u64 (↑xn:Int))] fun n=>.cl 93 #[.slice xp xn xc,.int .i64 0,.int .i64 (↑xn:Int),n] fun v=>.unTup v fun l=>.unNil l (.rt (.tuple #[]))
theorem w2092(xp:Option Addr)(xn xc:Nat):FX X 73 #[.slice xp xn xc] h A (n2092 xp xn xc):=fk [] [] [] Tryz.f73
def n2101(datap:Option Addr)(datan datac:Nat)(a b limit:Int):T:=.loop [a,b,limit,true,true] (fun vs=>.pi vs fun n vs=>.pi vs fun n_1 vs=>.pi vs fun n_2 vs=>.popB vs fun b vs=>.popB vs fun b_1 vs=>.unNil vs (bif decide (wrap .i64 (n_1-n)<=12) then .cl 102 #[.slice datap datan datac,n,n_1] fun v=>.unTup v fun l=>.unNil l (.rn [n,n_1,n_2,b,b_1]) else bif n_2==0 then .cl 103 #[.slice datap datan datac,n,n_1] fun v=>.unTup v fun l=>.unNil l (.rn [n,n_1,n_2,b,b_1]) else .blk (bif !b then .cl 104 #[.slice datap datan datac,n,n_1] fun v=>.unTup v fun l=>.unNil l (.ag [.int .i64 (wrap .i64 (n_2-1))]) else .ag [n_2]) (fun vs=>.pi vs fun n_3 vs=>.unNil vs (.cT 105 #[.slice datap datan datac,n,n_1] fun v vs=>.ui v fun n_4=>.unCons vs fun v vs=>.ui v fun n_5=>.unNil vs (.blk (bif n_5==2 then .cl 106 #[.slice datap datan datac,n,n_1] fun v=>.unTup v fun l=>.unNil l (.ag [.int .i64 (wrap .i64 (wrap .i64 (n_1-1)-wrap .i64 (n_4-n))),.int .i64 1]) else .ag [n_4,n_5]) (fun vs=>.pi vs fun n_6 vs=>.pi vs fun n_7 vs=>.unNil vs (.blk (bif b then bif b_1 then bif n_7==1 then .cB 107 #[.slice datap datan datac,n,n_1] fun b=>bif b then .rn [] else .ag [] else .ag [] else .ag [] else .ag []) (fun vs=>.unNil vs (.blk (bif decide (n>0) then .need (0<=wrap .i64 (n-1)/\wrap .i64 (n-1)<(↑datan:Int)) (.someA datap fun a=>.li (a.add ((wrap .i64 (n-1)).toNat*1)) fun n_8=>.need (0<=n_6/\n_6<(↑datan:Int)) (.someA datap fun a_1=>.li (a_1.add (n_6.toNat*1)) fun n_9=>.cB 108 #[n_8,n_9] fun b=>.need (0<=n_6/\n_6<(↑datan:Int)) (.someA datap fun a_2=>.ne (.pointer (some (a_2.add (n_6.toNat*1)))) (.pointer (some (a_1.add (n_6.toNat*1)))) (.nds [n_6,.S datap datan datac] (.need (0<=wrap .i64 (n-1)/\wrap .i64 (n-1)<(↑datan:Int)) (.someA datap fun a_3=>.ne (.pointer (some (a_3.add ((wrap .i64 (n-1)).toNat*1)))) (.pointer (some (a.add ((wrap .i64 (n-1)).toNat*1)))) (.nds [.val (.int .i64 (wrap .i64 (n-1))),n,.S datap datan datac,.B (decide (n>0)),n] (bif !b then .cI 109 #[.slice datap datan datac,n,n_1,n_6] fun n=>.leaf (.out 1 [n]) else .ag [n])))))))) else .nds [.U,.U,.U,.U,.U,.B (decide (n>0)),n,.U,.U,.U,.U,.U,.B (decide (n>0)),n,.U,.U,.U,.U,.U,.B (decide (n>0)),n] (.ag [n])) (fun vs=>.pi vs fun n_8 vs=>.unNil vs (.cT 110 #[.slice datap datan datac,n_8,n_1,n_6] fun v vs=>.ui v fun n_9=>.unCons vs fun v vs=>.unB v fun b=>.unNil vs (.need ((8:Int)≠0) (bif decide (wrap .i64 (n_9-n_8)<wrap .i64 (n_1-n_9)) then .cl 93 #[.slice datap datan datac,n_8,n_9,n_3] fun v=>.unTup v fun l=>.unNil l (.ag [.int .i64 (wrap .i64 (n_9+1)),n_1,n_3,.bool (decide (wrap .i64 (n_9-n_8)>=wrap .i64 (Int.tdiv (wrap .i64 (n_1-n)) 8))),b]) else .cl 93 #[.slice datap datan datac,.int .i64 (wrap .i64 (n_9+1)),n_1,n_3] fun v=>.unTup v fun l=>.unNil l (.ag [n_8,n_9,n_3,.bool (decide (wrap .i64 (n_1-n_9)>=wrap .i64 (Int.tdiv (wrap .i64 (n_1-n)) 8))),b]))))) (fun vs=>.pi vs fun n vs=>.unNil vs (.rn [n,n_1,n_3,b,b_1])) fun x x_1=>bif Nat.beq x 1 then .pi x_1 fun n vs=>.unNil vs (.ag [n,n_1,n_3,b,b_1]) else .fail)) (fun vs=>.unNil vs (.rn [n,n_1,n_3,b,b_1])) fun x x_1=>.fail)) (fun vs=>.pi vs fun n_6 vs=>.pi vs fun n_7 vs=>.unNil vs (.rn [n,n_1,n_3,b,b_1])) fun x x_1=>.fail))) (fun vs=>.pi vs fun n_3 vs=>.unNil vs (.rn [n,n_1,n_3,b,b_1])) fun x x_1=>.fail)) (fun vs=>.pi vs fun n vs=>.pi vs fun n vs=>.pi vs fun n vs=>.popB vs fun b vs=>.popB vs fun b vs=>.unNil vs (.rt (.tuple #[]))) (fun vs=>.pi vs fun n vs=>.pi vs fun n vs=>.pi vs fun n vs=>.popB vs fun b vs=>.popB vs fun b vs=>.unNil vs (.rt (.tuple #[]))) fun x x_1=>.fail
theorem w2101(datap:Option Addr)(datan datac:Nat)(a b limit:Int):FX X 93 #[.slice datap datan datac,a,b,limit] h A (n2101 datap datan datac a b limit):=fk [] [⟨0,[(1,.int .i64),(2,.int .i64),(3,.int .i64),(8,.bool),(9,.bool)],[],[],[],[]⟩] [⟨20,[(1,.int .i64)],[],[1],[],[]⟩,⟨17,[],[],[],[],[]⟩,⟨15,[(11,.int .i64),(12,.int .i64)],[],[],[],[]⟩,⟨10,[(3,.int .i64)],[],[],[],[]⟩] Tryz.f93
def n2102(x:Int):T:=.cI 112 #[.int .u64 x] fun n=>.rt (.int .i64 n)
theorem w2102(x:Int):FX X 94 #[.int .u64 x] h A (n2102 x):=fk [] [] [] Tryz.f94
def n2105(datap:Option Addr)(datan datac:Nat)(a b:Int):T:=.loop [.int .i64 (wrap .i64 (a+1))] (fun vs=>.pi vs fun n vs=>.unNil vs (bif decide (n<b) then .loop [n] (fun vs=>.pi vs fun n vs=>.unNil vs (.blk (bif decide (n>a) then .need (0<=n/\n<(↑datan:Int)) (.someA datap fun a_1=>.li (a_1.add (n.toNat*1)) fun n_1=>.need (0<=wrap .i64 (n-1)/\wrap .i64 (n-1)<(↑datan:Int)) (.someA datap fun a_2=>.li (a_2.add ((wrap .i64 (n-1)).toNat*1)) fun n_2=>.cB 108 #[n_1,n_2] fun b=>.need (0<=wrap .i64 (n-1)/\wrap .i64 (n-1)<(↑datan:Int)) (.someA datap fun a_3=>.ne (.pointer (some (a_3.add ((wrap .i64 (n-1)).toNat*1)))) (.pointer (some (a_2.add ((wrap .i64 (n-1)).toNat*1)))) (.nds [.val (.int .i64 (wrap .i64 (n-1))),n,.S datap datan datac] (.need (0<=n/\n<(↑datan:Int)) (.someA datap fun a_4=>.ne (.pointer (some (a_4.add (n.toNat*1)))) (.pointer (some (a_1.add (n.toNat*1)))) (.nds [n,.S datap datan datac,.B (decide (n>a)),a,n] (bif b then .ag [] else .leaf (.out 2 []))))))))) else .nds [.U,.U,.U,.U,.U,.B (decide (n>a)),a,n,.U,.U,.U,.U,.U,.B (decide (n>a)),a,n] (.leaf (.out 2 []))) (fun vs=>.unNil vs (.need (0<=wrap .i64 (n-1)/\wrap .i64 (n-1)<(↑datan:Int)) (.someA datap fun a=>.li (a.add ((wrap .i64 (n-1)).toNat*1)) fun n_1=>.need (0<=n/\n<(↑datan:Int)) (.someA datap fun a=>.li (a.add (n.toNat*1)) fun n_2=>.need (0<=n/\n<(↑datan:Int)) (.someA datap fun a_1=>.store ((a_1.add (n.toNat*1)).add 0) (.int .i64 n_1) (.need (0<=n/\n<(↑datan:Int)) (.someA datap fun a_2=>.ne (.pointer (some (a_2.add (n.toNat*1)))) (.pointer (some (a.add (n.toNat*1)))) (.nds [n,.S datap datan datac,.val (.int .i64 (wrap .i64 (n-1))),n,.S datap datan datac] (.need (0<=wrap .i64 (n-1)/\wrap .i64 (n-1)<(↑datan:Int)) (.someA datap fun a=>.store ((a.add ((wrap .i64 (n-1)).toNat*1)).add 0) (.int .i64 n_2) (.ag [.int .i64 (wrap .i64 (n-1))]))))))))))) (fun vs=>.unNil vs (.rn [n])) fun x x_1=>bif Nat.beq x 2 then .unNil x_1 (.bk [n]) else .fail)) (fun vs=>.pi vs fun n_1 vs=>.unNil vs (.ag [.int .i64 (wrap .i64 (n+1))])) (fun vs=>.pi vs fun n_1 vs=>.unNil vs (.rn [n])) fun x x_1=>.fail else .bk [n])) (fun vs=>.pi vs fun n vs=>.unNil vs (.rt (.tuple #[]))) (fun vs=>.pi vs fun n vs=>.unNil vs (.rt (.tuple #[]))) fun x x_1=>.fail
theorem w2105(datap:Option Addr)(datan datac:Nat)(a b:Int):FX X 102 #[.slice datap datan datac,a,b] h A (n2105 datap datan datac a b):=fk [] [⟨2,[(7,.int .i64)],[],[],[],[]⟩,⟨0,[(6,.int .i64)],[],[],[],[]⟩] [⟨6,[],[],[2],[],[]⟩] Tryz.f102
def n2111(x y:Int):T:=.cB 95 #[x] fun b=>bif b then .cB 95 #[y] fun b=>bif !b then .rt (.bool true) else .rt (.bool (decide (x<y))) else .rt (.bool (decide (x<y)))
theorem w2111(x y:Int):FX X 108 #[x,y] h A (n2111 x y):=fk [] [] [] Tryz.f108
def n2115(x:Int):T:=.blk (bif decide (x>=4294967296) then .need ((0:Int)<=32) (.ag [.int .u64 (Int.fdiv x (2^32)),.int .i64 32]) else .ag [.int .u64 x,.int .i64 0]) (fun vs=>.popI .u64 vs fun n vs=>.pi vs fun n_1 vs=>.unNil vs (.blk (bif decide (n>=65536) then .need ((0:Int)<=16) (.ag [.int .u64 (Int.fdiv n (2^16)),.int .i64 (wrap .i64 (n_1+16))]) else .ag [.int .u64 n,n_1]) (fun vs=>.popI .u64 vs fun n vs=>.pi vs fun n_2 vs=>.unNil vs (bif decide (n>=256) then .need ((0:Int)<=8) (.sem false (Instr.index 9 (.string { data:=List.toArray (List.append (List.append [0,1,2,2,3,3,3,3,4,4,4,4,4,4,4,4,5,5,5,5,5,5,5,5,5,5,5,5,5,5,5,5,6,6,6,6,6,6,6,6,6,6,6,6,6,6,6,6,6,6,6,6,6,6,6,6,6,6,6,6,6,6,6,6] [7,7,7,7,7,7,7,7,7,7,7,7,7,7,7,7,7,7,7,7,7,7,7,7,7,7,7,7,7,7,7,7,7,7,7,7,7,7,7,7,7,7,7,7,7,7,7,7,7,7,7,7,7,7,7,7,7,7,7,7,7,7,7,7]) (List.append [8,8,8,8,8,8,8,8,8,8,8,8,8,8,8,8,8,8,8,8,8,8,8,8,8,8,8,8,8,8,8,8,8,8,8,8,8,8,8,8,8,8,8,8,8,8,8,8,8,8,8,8,8,8,8,8,8,8,8,8,8,8,8,8] [8,8,8,8,8,8,8,8,8,8,8,8,8,8,8,8,8,8,8,8,8,8,8,8,8,8,8,8,8,8,8,8,8,8,8,8,8,8,8,8,8,8,8,8,8,8,8,8,8,8,8,8,8,8,8,8,8,8,8,8,8,8,8,8])) }) (.int .u8 (IntKind.wrap .u8 (Int.fdiv n (2^8))))) fun v=>.unI .u8 v fun n=>.rt (.int .i64 (wrap .i64 (wrap .i64 (n_2+8)+wrap .i64 n)))) else .sem false (Instr.index 9 (.string { data:=List.toArray (List.append (List.append [0,1,2,2,3,3,3,3,4,4,4,4,4,4,4,4,5,5,5,5,5,5,5,5,5,5,5,5,5,5,5,5,6,6,6,6,6,6,6,6,6,6,6,6,6,6,6,6,6,6,6,6,6,6,6,6,6,6,6,6,6,6,6,6] [7,7,7,7,7,7,7,7,7,7,7,7,7,7,7,7,7,7,7,7,7,7,7,7,7,7,7,7,7,7,7,7,7,7,7,7,7,7,7,7,7,7,7,7,7,7,7,7,7,7,7,7,7,7,7,7,7,7,7,7,7,7,7,7]) (List.append [8,8,8,8,8,8,8,8,8,8,8,8,8,8,8,8,8,8,8,8,8,8,8,8,8,8,8,8,8,8,8,8,8,8,8,8,8,8,8,8,8,8,8,8,8,8,8,8,8,8,8,8,8,8,8,8,8,8,8,8,8,8,8,8] [8,8,8,8,8,8,8,8,8,8,8,8,8,8,8,8,8,8,8,8,8,8,8,8,8,8,8,8,8,8,8,8,8,8,8,8,8,8,8,8,8,8,8,8,8,8,8,8,8,8,8,8,8,8,8,8,8,8,8,8,8,8,8,8])) }) (.int .u8 (IntKind.wrap .u8 n))) fun v=>.unI .u8 v fun n=>.rt (.int .i64 (wrap .i64 (n_2+wrap .i64 n))))) (fun vs=>.popI .u64 vs fun n vs=>.pi vs fun n vs=>.unNil vs (.rt (.int .i64 n))) fun x x_1=>.fail)) (fun vs=>.popI .u64 vs fun n vs=>.pi vs fun n vs=>.unNil vs (.rt (.int .i64 n))) fun x x_1=>.fail
theorem w2115(x:Int):FX X 112 #[.int .u64 x] h A (n2115 x):=fk [] [] [⟨7,[(0,.int .u64),(2,.int .i64)],[],[],[],[]⟩,⟨4,[(0,.int .u64),(2,.int .i64)],[],[],[],[]⟩] Tryz.f112
end Go.Y
end
section
namespace Go.TM
variable {P:Program} {X:XP} {Q:Leaf->LH->Prop}
theorem t_indexStr{h:LH}{K:Value->T}{t:TypeId}{s:ByteArray}{i:Nat}(hu:P.underlying t=some .string)(hs:s.size=256)(hi:i<256)(hk:∀ b:Nat,(K (.int .u8 (b:Int))).wp X P Q h):(T.sem false (Instr.index t (.string s) (.int .u8 (i:Int))) K).wp X P Q h:=by
 refine t_sem (A:=fun w h'=>h'=h.get/\∃ b:Nat,w=.int .u8 (b:Int)) ?_ (by rintro w h' ⟨rfl,b,rfl⟩;exact hk b);unfold Instr.index;simp only[asIntOf,lwp_bind,lwp_pure,lwp_underlying hu];have h1:s[(i:Int).toNat]?=some (s[i]'(by omega)):=by
  rw[Int.toNat_natCast];exact getElem?_pos s i (by omega)
 rw[if_pos (by omega),h1];exact⟨rfl,_,rfl⟩
def Reads(cs:Array Value)(l:List Int):Prop:=∀ (i:Nat) y,l[i]?=some y->cs[i]?=some (.int .i64 y)
theorem swap_perm:∀ (m:List Int) (j:Nat) (x y:Int),m[j]?=some y->m[j+1]?=some x->((m.set (j+1) y).set j x).Perm m
 | [],j,x,y,h,_=>by simp at h
 | [a],j,x,y,_,h=>by simp at h
 | a::b::r,0,x,y,h1,h2=>by
  simp at h1 h2;subst h1;subst h2;simp only[List.set_cons_succ,List.set_cons_zero];exact List.Perm.swap _ _ _
 | a::b::r,j+1,x,y,h1,h2=>by
  simp only[List.set_cons_succ];exact(swap_perm (b::r) j x y (by simpa using h1) (by simpa using h2)).cons a
structure Ins(m:List Int)(i j:Nat):Prop where
 rest:∀ a b u v,a<b->b<=i->a≠j->b≠j->m[a]?=some u->m[b]?=some v->u<=v
 small:∀ b u v,j<b->b<=i->m[j]?=some u->m[b]?=some v->u<=v
theorem Ins.swap{m:List Int}{i j:Nat}{x y:Int}(h:Ins m i (j+1))(hj:j+1<=i)(hy:m[j]?=some y)(hx:m[j+1]?=some x)(hlt:x<y):Ins ((m.set (j+1) y).set j x) i j:=by
 have len:j+1<m.length:=(List.getElem?_eq_some_iff.1 hx).1;have get:∀ a,((m.set (j+1) y).set j x)[a]?=if a=j then some x else if a=j+1 then some y else m[a]?:=by
  intro a;rw[List.getElem?_set,List.getElem?_set];by_cases e1:a=j
  ·subst e1;simp;omega
  ·by_cases e2:a=j+1
   ·subst e2;simp;omega
   ·rw[if_neg (Ne.symm e1),if_neg (Ne.symm e2),if_neg e1,if_neg e2]
 refine⟨fun a b u v hab hbi ha hb hu hv=>?_,fun b u v hjb hbi hu hv=>?_⟩
 ·rw[get,if_neg ha]at hu;rw[get,if_neg hb]at hv;by_cases e1:a=j+1
  ·rw[if_pos e1]at hu;cases hu;rw[if_neg (by omega)]at hv;exact h.rest j b y v (by omega) hbi (by omega) (by omega) hy hv
  ·rw[if_neg e1]at hu;by_cases e2:b=j+1
   ·rw[if_pos e2]at hv;cases hv;exact h.rest a j u y (by omega) (by omega) (by omega) (by omega) hu hy
   ·rw[if_neg e2]at hv;exact h.rest a b u v hab hbi e1 e2 hu hv
 ·rw[get,if_pos rfl]at hu;cases hu;rw[get,if_neg (by omega)]at hv;by_cases e2:b=j+1
  ·rw[if_pos e2]at hv;cases hv;omega
  ·rw[if_neg e2]at hv;exact h.small b x v (by omega) hbi hx hv
theorem Ins.done{m:List Int}{i j:Nat}(h:Ins m i j)(hj:j=0\/∃ x y,m[j-1]?=some y/\m[j]?=some x/\y<=x):∀ a b u v,a<b->b<=i->m[a]?=some u->m[b]?=some v->u<=v:=by
 intro a b u v hab hbi hu hv;by_cases ea:a=j
 ·subst ea;exact h.small b u v hab hbi hu hv
 ·by_cases eb:b=j
  ·subst eb;rcases hj with h0|⟨x,y,h1,h2,h3⟩
   ·omega
   ·rw[hv]at h2;cases h2;by_cases e:a=b-1
    ·subst e;rw[hu]at h1;cases h1;exact h3
    ·exact Int.le_trans (h.rest a (b-1) u y (by omega) (by omega) ea (by omega) hu h1) h3
  ·exact h.rest a b u v hab hbi ea eb hu hv
theorem sorted_of{m:List Int}{n:Nat}(hn:m.length<=n)(h:∀ a b u v,a<b->b<n->m[a]?=some u->m[b]?=some v->u<=v):m.Pairwise (·<=·):=by
 rw[List.pairwise_iff_getElem];intro a b ha hb hab;exact h a b _ _ hab (by omega) (List.getElem?_eq_getElem ha) (List.getElem?_eq_getElem hb)
end Go.TM
namespace Go.Y.Tre
open Go.TM.Tr
theorem c2111{h:LH}(x y:Int):Pu Tryz.prog 108 #[x,y] h (.bool (decide (x<y))):=by
 refine w2111 _ _ X0_ok ?_;unfold n2111;refine t_pu (c109 _) ?_;refine yF ?_;exact t_ret ⟨rfl,rfl⟩
theorem c2105{h:LH}{r c:Nat}{el:TypeId}:∀ {cs:Array Value} {l:List Int},Reads cs l->l.length<=12 ->
  FW X0 Tryz.prog 102 #[.slice (some ⟨r,0,none⟩) l.length c,.int .i64 0,.int .i64 (l.length:Int)] { h with get:=h.get.upd r (true,.cells cs el (0,0)) } fun v h'=>v=.tuple #[] /\
   ∃ cs' l',cs'.size=cs.size/\Reads cs' l'/\l'.Perm l/\l'.Pairwise (·<=·)/\h'={ h with get:=h.get.upd r (true,.cells cs' el (0,0)) }:=by
 intro cs l hr hl;have hcell:∀ {cs:Array Value} {m:List Int} {j:Nat} {y:Int},Reads cs m->m[j]?=some y->Cells.cell? (h.get.upd r (true,.cells cs el (0,0))) (Addr.add ⟨r,0,none⟩ ((j:Int).toNat*1))=some (.int .i64 y):=by
  intro cs m j y hm hy;rw[add_plain];have e:0+(j:Int).toNat*1=j:=by simp
  rw[e];exact cell_upd (hm j y hy)
 refine w2105 _ _ _ _ _ X0_ok ?_;unfold n2105;have hw0:wrap .i64 ((0:Int)+1)=((1:Nat):Int):=by rw[wrap_id (by omega) (by omega)];rfl
 rw[hw0];refine t_loop (fun mm vs h'=>∃ (i:Nat) (cs':Array Value) (m:List Int),vs=[.int .i64 i]/\mm=l.length+1-i/\1<=i/\i<=l.length+1/\h'={ h with get:=h.get.upd r (true,.cells cs' el (0,0)) }/\cs'.size=cs.size/\Reads cs' m/\m.Perm l/\∀ a b u v,a<b->b<i->m[a]?=some u->m[b]?=some v->u<=v)
  ⟨1,cs,l,rfl,rfl,Nat.le_refl _,by omega,rfl,rfl,hr,List.Perm.refl _,fun a b u v hab hb=>by omega⟩ ?_
 rintro Y mm vs _ hY ⟨i,cs1,m1,rfl,rfl,hi1,hi2,rfl,hsz1,hr1,hp1,hso1⟩;refine yJ (fun e1=>?_) (fun e1=>?_)
 ·have hlen1:=hp1.length_eq;refine t_loop (fun mm vs h'=>∃ (j:Nat) (cs':Array Value) (m:List Int),vs=[.int .i64 j]/\j=mm/\j<=i/\h'={ h with get:=h.get.upd r (true,.cells cs' el (0,0)) }/\cs'.size=cs.size/\Reads cs' m/\m.Perm l/\Ins m i j)
   ⟨i,cs1,m1,rfl,rfl,Nat.le_refl _,rfl,hsz1,hr1,hp1,fun a b u v hab hbi ha hb hu hv=>hso1 a b u v hab (by omega) hu hv,fun b u v h1 h2=>by omega⟩ ?_
  rintro Y2 mm vs _ hY2 ⟨j,cs2,m2,rfl,rfl,hj,rfl,hsz2,hr2,hp2,hins⟩;have hlen2:=hp2.length_eq;have fin:(∀ a b u v,a<b->b<=i->m2[a]?=some u->m2[b]?=some v->u<=v)->Y [.int .i64 (wrap .i64 ((i:Int)+1))] { h with get:=h.get.upd r (true,.cells cs2 el (0,0)) }:=by
   intro hso;refine hY (l.length+1-(i+1)) _ _ (by omega) ⟨i+1,cs2,m2,?_,rfl,by omega,by omega,rfl,hsz2,hr2,hp2,fun a b u v hab hb=>hso a b u v hab (by omega)⟩;rw[wrap_id (by omega) (by omega)];rfl
  refine gZ ?_;refine t_blk (fun vs h'=>vs=[]/\h'={ h with get:=h.get.upd r (true,.cells cs2 el (0,0)) }/\∃ (j':Nat) (x y:Int),j=j'+1/\m2[j']?=some y/\m2[j'+1]?=some x/\x<y) ?_ ?_
  ·refine t_if (fun e2=>?_) (fun e2=>?_)
   ·obtain⟨j',rfl⟩ : ∃ j',j=j'+1:=⟨j-1,by omega⟩
    obtain⟨y,hy⟩ : ∃ y,m2[j']?=some y:=⟨m2[j']'(by omega),List.getElem?_eq_getElem (by omega)⟩
    obtain⟨x,hx⟩ : ∃ x,m2[j'+1]?=some x:=⟨m2[j'+1]'(by omega),List.getElem?_eq_getElem (by omega)⟩
    have hw:wrap .i64 (((j'+1:Nat):Int)-1)=(j':Int):=by rw[wrap_id (by omega) (by omega)];omega
    rw[hw];have g1:=hcell hr2 hx;have g2:=hcell hr2 hy;refine gT (by omega) (gS2 rfl (gL0 g1 (gT (by omega) (gS2 rfl (gL0 g2 ?_)))));refine t_pu (c2111 _ _) ?_;refine yI (fun e3=>?_) (fun e3=>?_)
    ·exact t_again ⟨rfl,rfl,j',x,y,rfl,hy,hx,by simpa using e3⟩
    ·refine gR ?_;refine yT ?_;refine gZ ?_;have e3:¬ x<y:=by simpa using e3
     exact t_again (fin (hins.done (.inr ⟨x,y,by simpa using hy,hx,by omega⟩)))
   ·refine yT ?_;refine gZ ?_;exact t_again (fin (hins.done (.inl (by omega))))
  ·rintro vs _ ⟨rfl,rfl,j',x,y,rfl,hy,hx,hlt⟩;have hw:wrap .i64 (((j'+1:Nat):Int)-1)=(j':Int):=by rw[wrap_id (by omega) (by omega)];omega
   have g1:=hcell hr2 hx;have g2:=hcell hr2 hy;have hjs:j'+1<cs2.size:=(Array.getElem?_eq_some_iff.1 (hr2 _ _ hx)).1;rw[hw];refine gZ ?_;refine t_storeU (o:=j'+1) (by rw[add_plain,add_plain];simp) rfl hjs ?_;refine gZ ?_;refine t_storeU (o:=j') (by rw[add_plain,add_plain];simp) rfl (by simp;omega) ?_;refine t_again (hY2 j' _ _ (by omega) ⟨j',_,(m2.set (j'+1) y).set j' x,rfl,rfl,by omega,rfl,by simp[hsz2],?_,(swap_perm m2 j' x y hy hx).trans hp2,hins.swap (by omega) hy hx hlt⟩);intro a z hz;rw[List.getElem?_set,List.getElem?_set]at hz;by_cases e4:a=j'
   ·subst e4;rw[Array.getElem?_setIfInBounds_self_of_lt (by simp;omega)];simp at hz;rw[hz.2]
   ·rw[Array.getElem?_setIfInBounds_ne (Ne.symm e4)];rw[if_neg (Ne.symm e4)]at hz;by_cases e5:a=j'+1
    ·subst e5;rw[Array.getElem?_setIfInBounds_self_of_lt (by omega)];simp at hz;rw[hz.2]
    ·rw[Array.getElem?_setIfInBounds_ne (Ne.symm e5)];rw[if_neg (Ne.symm e5)]at hz;exact hr2 a z hz
 ·refine gZ ?_;refine t_ret ⟨rfl,cs1,m1,hsz1,hr1,hp1,sorted_of (n:=i) (by rw[hp1.length_eq];omega) hso1,rfl⟩
theorem c2101{h:LH}{r c:Nat}{el:TypeId}{cs:Array Value}{l:List Int}(hr:Reads cs l)(hl:l.length<=12)(lim:Int) :
  FW X0 Tryz.prog 93 #[.slice (some ⟨r,0,none⟩) l.length c,.int .i64 0,.int .i64 (l.length:Int),lim] { h with get:=h.get.upd r (true,.cells cs el (0,0)) } fun v h'=>v=.tuple #[] /\
   ∃ cs' l',cs'.size=cs.size/\Reads cs' l'/\l'.Perm l/\l'.Pairwise (·<=·)/\h'={ h with get:=h.get.upd r (true,.cells cs' el (0,0)) }:=by
 refine w2101 _ _ _ _ _ _ X0_ok ?_;unfold n2101;refine t_loop (fun mm vs h'=>mm=0/\vs=[.int .i64 0,.int .i64 (l.length:Int),.int .i64 lim,.bool true,.bool true]/\h'={ h with get:=h.get.upd r (true,.cells cs el (0,0)) }) ⟨rfl,rfl,rfl⟩ ?_;rintro Y mm vs _ hY ⟨rfl,rfl,rfl⟩;refine gZ ?_;have hw:wrap .i64 ((l.length:Int)-0)=(l.length:Int):=by rw[wrap_id (by omega) (by omega)];omega
 rw[hw];refine t_if (fun e=>?_) (fun e=>absurd (by omega) e);refine t_call (c2105 hr hl) ?_;rintro _ h2 ⟨rfl,hq⟩;refine gZ ?_;exact t_ret ⟨rfl,hq⟩
theorem c2115{h:LH}{x:Nat}(hx:x<256):FW X0 Tryz.prog 112 #[.int .u64 (x:Int)] h fun v h'=>h'=h/\∃ z,v=.int .i64 z:=by
 refine w2115 _ X0_ok ?_;unfold n2115;refine t_blk (fun vs h'=>vs=[.int .u64 (x:Int),.int .i64 0]/\h=h') ?_ ?_
 ·refine t_if (fun e=>by omega) (fun e=>?_);exact t_again ⟨rfl,rfl⟩
 rintro vs _ ⟨rfl,rfl⟩;refine gZ ?_;refine t_blk (fun vs h'=>vs=[.int .u64 (x:Int),.int .i64 0]/\h=h') ?_ ?_
 ·refine t_if (fun e=>by omega) (fun e=>?_);exact t_again ⟨rfl,rfl⟩
 rintro vs _ ⟨rfl,rfl⟩;refine gZ ?_;refine t_if (fun e=>by omega) (fun e=>?_);have hw:IntKind.wrap .u8 (x:Int)=(x:Int):=by
  have e1:(2^IntKind.u8.bits:Int)=256:=rfl;simp only[IntKind.wrap,e1,show IntKind.u8.signed=false from rfl,Bool.false_and,Bool.false_eq_true,if_false];omega
 rw[hw];refine t_indexStr (by kernel_rfl) (by kernel_rfl) hx fun b=>?_;refine gZ ?_;exact t_ret ⟨rfl,_,rfl⟩
theorem c2102{h:LH}{x:Nat}(hx:x<256):FW X0 Tryz.prog 94 #[.int .u64 (x:Int)] h fun v h'=>h'=h/\∃ z,v=.int .i64 z:=by
 refine w2102 _ X0_ok ?_;unfold n2102;refine t_call (c2115 hx) ?_;rintro _ _ ⟨rfl,z,rfl⟩;refine gZ ?_;exact t_ret ⟨rfl,_,rfl⟩
theorem c2092{h:LH}{r c:Nat}{el:TypeId}{cs:Array Value}{l:List Int}(hr:Reads cs l)(hl:l.length<=12) :
  FW X0 Tryz.prog 73 #[.slice (some ⟨r,0,none⟩) l.length c] { h with get:=h.get.upd r (true,.cells cs el (0,0)) } fun v h'=>v=.tuple #[] /\
   ∃ cs' l',cs'.size=cs.size/\Reads cs' l'/\l'.Perm l/\l'.Pairwise (·<=·)/\h'={ h with get:=h.get.upd r (true,.cells cs' el (0,0)) }:=by
 refine w2092 _ _ _ X0_ok ?_;unfold n2092;have hw:IntKind.wrap .u64 (l.length:Int)=(l.length:Int):=by
  have e1:(2^IntKind.u64.bits:Int)=18446744073709551616:=rfl;simp only[IntKind.wrap,e1,show IntKind.u64.signed=false from rfl,Bool.false_and,Bool.false_eq_true,if_false];omega
 rw[hw];refine t_call (c2102 (by omega)) ?_;rintro _ _ ⟨rfl,z,rfl⟩;refine gZ ?_;refine t_call (c2101 hr hl z) ?_;rintro _ h2 ⟨rfl,hq⟩;refine gZ ?_;exact t_ret ⟨rfl,hq⟩
end Go.Y.Tre
end
section
namespace Go.Y.Tre
open Go.TM.Tr
open Go.TM.Ow (Deed Right Book)
structure Cmps(h0:Cells)(h:LH)(cmp:Value)(lt:Int->Int->Prop)(l:List Int):Prop where
 call:∀ x y h',x∈l->y∈l->Ov h0 h h'->CV X0 Tryz.prog cmp #[.int .i64 x,.int .i64 y] h' fun r h''=>h'.le h''/\∃ z:Int,r=.int .i64 z/\(z<0↔lt x y)
 trans:∀ a b c,lt a b->lt b c->lt a c
 tri:∀ x y,x∈l->y∈l->x≠y->lt x y\/lt y x
 nodup:l.Nodup
theorem c3543{h:LH}{h0:Cells}{r c sz:Nat}{l:List Int}{cmp:Value}{lt:Int->Int->Prop}(row:RowI 3 h0 sz h r l)(hl:l.length<=12)(cm:Cmps h0 h cmp lt l) :
  FW X0 Tryz.prog 121 #[.slice (some ⟨r,0,none⟩) l.length c,.int .i64 0,.int .i64 (l.length:Int),cmp] h fun v h'=>v=.tuple #[]/\Ov h0 h h'/\∃ l',RowI 3 h0 sz h' r l'/\l'.Perm l/\l'.Pairwise lt:=by
 refine w3543 _ _ _ _ _ _ X0_ok ?_;unfold n3543;have hw0:wrap .i64 ((0:Int)+1)=((1:Nat):Int):=by rw[wrap_id (by omega) (by omega)];rfl
 rw[hw0];refine t_loop (fun mm vs h'=>∃ (i:Nat) (m:List Int),vs=[.int .i64 i]/\mm=l.length+1-i/\1<=i/\i<=l.length+1/\Ov h0 h h'/\RowI 3 h0 sz h' r m/\m.Perm l/\∀ a b u v,a<b->b<i->m[a]?=some u->m[b]?=some v->lt u v)
  ⟨1,l,rfl,rfl,Nat.le_refl _,by omega,Ov.refl _ _,row,List.Perm.refl _,fun a b u v hab hb=>by omega⟩ ?_
 rintro Y mm vs h1 hY ⟨i,m1,rfl,rfl,hi1,hi2,ov1,row1,hp1,hso1⟩;refine yJ (fun e1=>?_) (fun e1=>?_)
 ·have hlen1:=hp1.length_eq;refine t_loop (fun mm vs h'=>∃ (j:Nat) (m:List Int),vs=[.int .i64 j]/\j=mm/\j<=i/\Ov h0 h h'/\RowI 3 h0 sz h' r m/\m.Perm l/\InsI lt m i j)
   ⟨i,m1,rfl,rfl,Nat.le_refl _,ov1,row1,hp1,fun a b u v hab hbi ha hb hu hv=>hso1 a b u v hab (by omega) hu hv,fun b u v h1 h2=>by omega⟩ ?_
  rintro Y2 mm vs h2 hY2 ⟨j,m2,rfl,rfl,hj,ov2,row2,hp2,hins⟩;have hlen2:=hp2.length_eq;have fin:∀ h3:LH,Ov h0 h h3->RowI 3 h0 sz h3 r m2->(∀ a b u v,a<b->b<=i->m2[a]?=some u->m2[b]?=some v->lt u v)->Y [.int .i64 (wrap .i64 ((i:Int)+1))] h3:=by
   intro h3 ov3 row3 hso;refine hY (l.length+1-(i+1)) _ _ (by omega) ⟨i+1,m2,?_,rfl,by omega,by omega,ov3,row3,hp2,fun a b u v hab hb=>hso a b u v hab (by omega)⟩;rw[wrap_id (by omega) (by omega)];rfl
  refine gZ ?_;refine t_blk (fun vs h'=>vs=[]/\Ov h0 h h'/\RowI 3 h0 sz h' r m2/\∃ (j':Nat) (x y:Int),j=j'+1/\m2[j']?=some y/\m2[j'+1]?=some x/\lt x y) ?_ ?_
  ·refine t_if (fun e2=>?_) (fun e2=>?_)
   ·obtain⟨j',rfl⟩ : ∃ j',j=j'+1:=⟨j-1,by omega⟩
    obtain⟨y,hy⟩ : ∃ y,m2[j']?=some y:=⟨m2[j']'(by omega),List.getElem?_eq_getElem (by omega)⟩
    obtain⟨x,hx⟩ : ∃ x,m2[j'+1]?=some x:=⟨m2[j'+1]'(by omega),List.getElem?_eq_getElem (by omega)⟩
    have hw:wrap .i64 (((j'+1:Nat):Int)-1)=(j':Int):=by rw[wrap_id (by omega) (by omega)];omega
    rw[hw];have g1:=row2.at hx;have g2:=row2.at hy;have hxl:=hp2.mem_iff.1 (List.mem_of_getElem? hx);have hyl:=hp2.mem_iff.1 (List.mem_of_getElem? hy);have hne:x≠y:=by
     rintro rfl;have:=nodup_ix (hp2.nodup_iff.2 cm.nodup) hx hy;omega
    refine gT (by omega) (gS2 rfl (gL0 g1 (gT (by omega) (gS2 rfl (gL0 g2 ?_)))));refine t_callv (cm.call x y h2 hxl hyl ov2) ?_;rintro _ h3 ⟨le3,z,rfl,hz⟩;have ov3:=ov2.trans (Ov.of_le (h0:=h0) le3);have row3:=row2.le le3;have g3:=row3.at hx;have g4:=row3.at hy;have hin1:0<=(j':Int)/\(j':Int)<(l.length:Int):=by omega
    have hin2:0<=((j'+1:Nat):Int)/\((j'+1:Nat):Int)<(l.length:Int):=by omega
    refine yJ (fun e3=>?_) (fun e3=>?_)
    ·exact t_again ⟨rfl,ov3,row3,j',x,y,rfl,hy,hx,hz.1 e3⟩
    ·refine gR ?_;refine yT ?_;refine gZ ?_;have e4:lt y x:=(cm.tri x y hxl hyl hne).resolve_left fun hh=>e3 (hz.2 hh);exact t_again (fin h3 ov3 row3 (hins.done cm.trans (.inr ⟨x,y,by simpa using hy,hx,e4⟩)))
   ·refine yT ?_;refine gZ ?_;exact t_again (fin h2 ov2 row2 (hins.done cm.trans (.inl (by omega))))
  ·rintro vs h3 ⟨rfl,ov3,row3,j',x,y,rfl,hy,hx,hlt⟩;have hw:wrap .i64 (((j'+1:Nat):Int)-1)=(j':Int):=by rw[wrap_id (by omega) (by omega)];omega
   have g1:=row3.at hx;have g2:=row3.at hy;have hin1:0<=(j':Int)/\(j':Int)<(l.length:Int):=by have:=(List.getElem?_eq_some_iff.1 hx).1;omega
   have hin2:0<=((j'+1:Nat):Int)/\((j'+1:Nat):Int)<(l.length:Int):=by have:=(List.getElem?_eq_some_iff.1 hx).1;omega
   rw[hw];refine gZ ?_;refine t_storeI row3 (i:=j'+1) (by omega) rfl fun h4 ov4 row4=>?_;refine gZ ?_;refine t_storeI row4 (i:=j') (by rw[List.length_set];omega) rfl fun h5 ov5 row5=>?_;exact t_again (hY2 j' _ _ (by omega) ⟨j',_,rfl,rfl,by omega,ov3.trans (ov4.trans ov5),row5,(swapI m2 j' x y hy hx).trans hp2,hins.swap (by omega) hy hx hlt⟩)
 ·refine gZ ?_;refine t_ret ⟨rfl,ov1,m1,row1,hp1,sortedI (n:=i) (by rw[hp1.length_eq];omega) hso1⟩
theorem c3541{h:LH}{h0:Cells}{r c sz:Nat}{l:List Int}{cmp:Value}{lt:Int->Int->Prop}(row:RowI 3 h0 sz h r l)(hl:l.length<=12)(cm:Cmps h0 h cmp lt l)(lim:Int) :
  FW X0 Tryz.prog 114 #[.slice (some ⟨r,0,none⟩) l.length c,.int .i64 0,.int .i64 (l.length:Int),lim,cmp] h fun v h'=>v=.tuple #[]/\Ov h0 h h'/\∃ l',RowI 3 h0 sz h' r l'/\l'.Perm l/\l'.Pairwise lt:=by
 refine w3541 _ _ _ _ _ _ _ X0_ok ?_;unfold n3541;refine t_loop (fun mm vs h'=>mm=0/\vs=[.int .i64 0,.int .i64 (l.length:Int),.int .i64 lim,.bool true,.bool true]/\h=h') ⟨rfl,rfl,rfl⟩ ?_;rintro Y mm vs _ hY ⟨rfl,rfl,rfl⟩;refine gZ ?_;have hw:wrap .i64 ((l.length:Int)-0)=(l.length:Int):=by rw[wrap_id (by omega) (by omega)];omega
 rw[hw];refine t_if (fun e=>?_) (fun e=>absurd (by omega) e);refine t_call (c3543 row hl cm) ?_;rintro _ h2 ⟨rfl,hq⟩;refine gZ ?_;exact t_ret ⟨rfl,hq⟩
theorem c3538{h:LH}{h0:Cells}{r c sz:Nat}{l:List Int}{cmp:Value}{lt:Int->Int->Prop}(row:RowI 3 h0 sz h r l)(hl:l.length<=12)(cm:Cmps h0 h cmp lt l) :
  FW X0 Tryz.prog 100 #[.slice (some ⟨r,0,none⟩) l.length c,cmp] h fun v h'=>v=.tuple #[]/\Ov h0 h h'/\∃ l',RowI 3 h0 sz h' r l'/\l'.Perm l/\l'.Pairwise lt:=by
 refine w3538 _ _ _ _ X0_ok ?_;unfold n3538;have hw:IntKind.wrap .u64 (l.length:Int)=(l.length:Int):=by
  have e1:(2^IntKind.u64.bits:Int)=18446744073709551616:=rfl;simp only[IntKind.wrap,e1,show IntKind.u64.signed=false from rfl,Bool.false_and,Bool.false_eq_true,if_false];omega
 rw[hw];refine t_call (c2102 (by omega)) ?_;rintro _ _ ⟨rfl,z,rfl⟩;refine gZ ?_;refine t_call (c3541 row hl cm z) ?_;rintro _ h2 ⟨rfl,hq⟩;refine gZ ?_;exact t_ret ⟨rfl,hq⟩
theorem c3528{h:LH}{h0:Cells}{r c sz:Nat}{l:List Int}{cmp:Value}{lt:Int->Int->Prop}(row:RowI 3 h0 sz h r l)(hl:l.length<=12)(cm:Cmps h0 h cmp lt l) :
  FW X0 Tryz.prog 85 #[.slice (some ⟨r,0,none⟩) l.length c,cmp] h fun v h'=>v=.slice (some ⟨r,0,none⟩) l.length c/\Ov h0 h h'/\∃ l',RowI 3 h0 sz h' r l'/\l'.Perm l/\l'.Pairwise lt:=by
 refine w3528 _ _ _ _ X0_ok ?_;unfold n3528;refine t_call (c3538 row hl cm) ?_;rintro _ h2 ⟨rfl,hq⟩;refine gZ ?_;exact t_ret ⟨rfl,hq⟩
end Go.Y.Tre
end
section
namespace Go.TM
variable {P:Program} {X:XP} {Q:Leaf->LH->Prop}
theorem t_makeSlice0{h:LH}{K:Value->T}{t el:TypeId}{n b:Nat}{z:Value}(hu:P.underlying t=some (.slice el))(hi:(P.info? el).map (fun i=>(i.size,i.bytes,i.zero))=some (1,b,some z))(hz:z.cells=#[z])(hb:b<=1024)(hn:n<=2^30)
 (hk:∀ r cs,h.get r=none->cs.size=n->(∀ j,j<n->cs[j]?=some z)->(K (.slice (some ⟨r,0,none⟩) 0 n)).wp X P Q { h with get:=h.get.upd r (true,.cells cs el (0,0)) }):(T.sem false (Instr.makeSlice t (.int .i64 0) (.int .i64 (n:Int))) K).wp X P Q h:=by
 obtain⟨inf,g1,g2,g3,g4⟩:=info_of hi;refine t_sem (A:=fun v h'=>∃ r cs,h.get r=none/\cs.size=n/\(∀ j,j<n->cs[j]?=some z)/\v=.slice (some ⟨r,0,none⟩) 0 n/\h'=h.get.upd r (true,.cells cs el (0,0))) ?_ (by rintro v h' ⟨r,cs,h1,h2,h3,rfl,rfl⟩;exact hk r cs h1 h2 h3);unfold Instr.makeSlice;have hw:IntKind.i64.wrap (n:Int)=n:=wrap_id (by omega) (by omega);have hw0:IntKind.i64.wrap 0=0:=wrap_id (by omega) (by omega);simp only[lwp_bind,lwp_underlying hu,asInt,asIntOf,lwp_pure,lwp_typeInfo g1,hw,hw0,g3];have hbn:b*n<=1024*2^30:=Nat.mul_le_mul hb hn;have hle:((b:Int)*(n:Int))<=1024*2^30:=by
  have:((b*n:Nat):Int)<=((1024*2^30:Nat):Int):=Int.ofNat_le.2 hbn;simpa using this
 have e1:(((decide ((n:Int)<0)||decide (((b:Int)*(n:Int))>2^48))||decide ((0:Int)<0))||decide ((0:Int)>(n:Int)))=false:=by
  simp;omega
 rw[if_neg (by simpa using e1)];have hroom':∀ {K:Unit->Cells->Prop},K () h.get->Sem.lwp P (askRoom ((n:Int).toNat*b)) K (fun _ _=>False) h.get:=by
  intro K hK;unfold askRoom;split
  ·exact⟨rfl,hK⟩
  ·exact hK
 simp only[lwp_bind];refine hroom' ?_;simp only[lwp_sizeOf g1,g2,Nat.mul_one,Int.toNat_natCast,Int.toNat_zero];have fin:∀ zs:Array Value,(n≠0->zs=#[z])->Sem.lwp P (newRow el ((Array.range n).map fun x=>zs[x%zs.size]!)) (fun a h'=>Sem.lwp P (pure (Value.slice (some a) 0 n)) (fun v h'=>∃ r cs,h.get r=none/\cs.size=n/\(∀ j,j<n->cs[j]?=some z)/\v=.slice (some ⟨r,0,none⟩) 0 n/\h'=h.get.upd r (true,.cells cs el (0,0))) (fun _ _=>False) h') (fun _ _=>False) h.get:=by
  intro zs hzs;refine lwp_newRow fun r hr=>?_;rw[lwp_pure];refine⟨r,_,hr,by simp,fun j hj=>?_,rfl,rfl⟩;have:=hzs (by omega);subst this;simp[hj,Nat.mod_one]
 by_cases h0:n=0
 ·simp only[h0,if_true,lwp_pure];subst h0;exact fin #[] (fun e=>absurd rfl e)
 ·simp only[if_neg h0,lwp_bind,lwp_zeroValue g1 g4,lwp_pure,hz];exact fin #[z] (fun _=>rfl)
end Go.TM
namespace Go.Y.Tre
open Go.TM.Tr
open Go.TM.Ow (Deed Right Book less_tri)
theorem cmpI_neg{x y:Int}:cmpI x y<0↔x<y:=by
 unfold cmpI;split
 ·simp;assumption
 ·split<;>simp<;>omega
theorem cmpI_is0{x y:Int}:cmpI x y=0↔x=y:=by
 unfold cmpI;split
 ·simp;omega
 ·split<;>simp<;>omega
theorem c3529{h:LH}{f:BookC}{x:Book}(hr:BookR h.get f x){z:Addr}(hz:h.get.cell? ((z.add 0).add 3)=some (.slice f.p3 f.n3 f.c3)){i k:Nat}{a b:Deed}(ha:x.deeds[i]?=some a)(hb:x.deeds[k]?=some b) :
  FW X0 Tryz.prog 86 #[.int .i64 i,.int .i64 k,.pointer (some z)] h fun r h'=>h.le h'/\∃ w:Int,r=.int .i64 w/\(w<0↔Ow.Before a b):=by
 refine w3529 _ _ _ X0_ok ?_;unfold n3529;have hn:=hr.deeds.1;have hil:=(List.getElem?_eq_some_iff.1 ha).1;have hkl:=(List.getElem?_eq_some_iff.1 hb).1;obtain⟨a',ad,ha',hp,g0,g1,g2,g3,g4,⟨q,n,c,g5,_⟩,g6,g7⟩:=hr.deeds.at (i:=i) (by omega);rw[ha]at ha';cases ha';obtain⟨b',bd,hb',hp2,k0,k1,k2,k3,k4,⟨q2,n2,c2,k5,_⟩,k6,k7⟩:=hr.deeds.at (i:=k) (by omega);rw[hb]at hb';cases hb';cases hp.symm.trans hp2;have hin:0<=(i:Int)/\(i:Int)<(f.n3:Int):=by omega
 have hin2:0<=(k:Int)/\(k:Int)<(f.n3:Int):=by omega
 refine t_blk (fun vs h'=>vs=[.string a.name,.int .i64 a.kind,.int .i64 a.right,.int .i64 a.from_,.int .i64 a.to,.slice q n c,.int .i64 a.first,.int .i64 a.last,.string b.name,.int .i64 b.kind,.int .i64 b.right,.int .i64 b.from_,.int .i64 b.to,.slice q2 n2 c2,.int .i64 b.first,.int .i64 b.last]/\h=h') ?_ ?_
 ·refine gZ ?_
  repeat (first
   | refine t_both ?_ ?_
   | (refine t_loadStr g0 ?_;refine gZ ?_)
   | (refine t_loadStr k0 ?_;refine gZ ?_)
   | exact t_again ⟨rfl,rfl⟩)
  all_goals
   repeat (first
    | (refine t_loadStr g0 ?_;refine gZ ?_)
    | (refine t_loadStr k0 ?_;refine gZ ?_)
    | (refine gZ ?_;refine t_loadStr g0 ?_;refine gZ ?_)
    | (refine t_both ?_ ?_)
    | exact t_again ⟨rfl,rfl⟩)
 rintro vs _ ⟨rfl,rfl⟩;refine gZ ?_;refine t_pu (c105 _ _) ?_;refine gZ ?_;refine t_call (c3531 a.name b.name) ?_;rintro _ _ ⟨rfl,w,rfl,w1,w2,hw⟩;refine gZ ?_;refine t_buildR [.int .i64 (cmpI a.first b.first),.int .i64 w] und50 inf3 (by decide) (by decide) (by kernel_rfl) fun r h1 le1 _ hc=>?_;refine gZ ?_;have hsl:Sl IntE 1 h1.get (some ⟨r,0,none⟩) 2 [cmpI a.first b.first,w]:=by
  refine⟨rfl,by simp,fun i v hv=>⟨_,rfl,?_⟩⟩;have:=hc i (.int .i64 v) (by
   match i,hv with
   | 0,hv=>simp at hv;subst hv;rfl
   | 1,hv=>simp at hv;subst hv;rfl)
  unfold IntE;rw[add_zero',Nat.mul_one];exact this
 refine t_pu (c3530 hsl) ?_;refine gZ ?_;refine t_ret ⟨le1,_,rfl,?_⟩;unfold Ow.Before;split
 ·rename_i e;have e':=cmpI_is0.1 e;rw[hw];constructor
  ·intro hh;exact .inr ⟨e',hh⟩
  ·rintro(hh|⟨_,hh⟩)
   ·omega
   ·exact hh
 ·rename_i e;have e':a.first≠b.first:=fun hh=>e (cmpI_is0.2 hh);rw[cmpI_neg];constructor
  ·exact .inl
  ·rintro(hh|⟨hh,_⟩)
   ·exact hh
   ·exact absurd hh e'
end Go.Y.Tre
end
section
namespace Go.TM
theorem rows_ints{vs:List Value}{l:List Int}(r:Go.TM.Rows IntEnc vs l):vs=l.map (Value.int .i64):=by
 induction r with
 | nil=>rfl
 | snoc r he ih=>rw[he,ih];simp
theorem Growing.rowI{el:TypeId}{h0:Cells}{h:LH}{r n c:Nat}{l:List Int}(g:Growing IntEnc el 1 h0 h.get (some ⟨r,0,none⟩) n c l):RowI el h0 c h r l/\n=l.length:=by
 obtain⟨vs,⟨h1,h2⟩,h3⟩:=g.row;have hv:=rows_ints h3;rcases h2 with⟨e,_⟩|⟨b,cs,e,hr,hcs,hnc,hread⟩
 ·cases e
 ·cases e;refine⟨⟨⟨cs,hr,by omega,fun i y hy=>hread i _ (by rw[hv,List.getElem?_map,hy];rfl)⟩,g.new _ rfl⟩,?_⟩;rw[hv,List.length_map]at h1;omega
def noDeed:Ow.Deed:=⟨⟨#[]⟩,0,0,0,0,[],0,0⟩
def deedAt(l:List Ow.Deed)(v:Int):Ow.Deed:=(l[v.toNat]?).getD noDeed
def zero2(n:Nat):List Int:=(List.range n).map fun j:Nat=>(j:Int)
theorem zero2_deeds(l:List Ow.Deed):(zero2 l.length).map (deedAt l)=l:=by
 refine List.ext_getElem? fun i=>?_;unfold zero2;rw[List.getElem?_map,List.getElem?_map];by_cases h:i<l.length
 ·rw[List.getElem?_range h];simp[deedAt,h]
 ·rw[List.getElem?_eq_none (by simpa using h),List.getElem?_eq_none (by omega)];rfl
theorem zero2_mem{n:Nat}{v:Int}:v∈zero2 n↔∃ j:Nat,j<n/\v=(j:Int):=by
 unfold zero2;simp only[List.mem_map,List.mem_range];constructor
 ·rintro⟨j,h,rfl⟩;exact⟨j,h,rfl⟩
 ·rintro⟨j,h,rfl⟩;exact⟨j,h,rfl⟩
theorem zero2_nodup(n:Nat):(zero2 n).Nodup:=by
 unfold zero2;refine List.Pairwise.map _ (fun a b h=>?_) List.nodup_range;intro e;exact h (by omega)
theorem zero2_succ(n:Nat):zero2 (n+1)=zero2 n++[(n:Int)]:=by
 unfold zero2;rw[List.range_succ,List.map_append];rfl
theorem zero2_len(n:Nat):(zero2 n).length=n:=by unfold zero2;simp
end Go.TM
namespace Go.Y.Tre
open Go.TM.Tr
open Go.TM.Ow (Deed Right Book less_tri)
theorem before_tri{l:List Deed}(hnd:(l.map (·.name)).Nodup){i j:Nat}{a b:Deed}(ha:l[i]?=some a)(hb:l[j]?=some b)(hne:i≠j):Ow.Before a b\/Ow.Before b a:=by
 have hn:a.name.toList≠b.name.toList:=by
  intro e;have e':a.name=b.name:=(str_list _ _).1 (by rw[e];simp);have h1:(l.map (·.name))[i]?=some a.name:=by rw[List.getElem?_map,ha];rfl
  have h2:(l.map (·.name))[j]?=some a.name:=by rw[List.getElem?_map,hb,e'];rfl
  exact hne (nodup_ix hnd h1 h2)
 unfold Ow.Before;rcases Int.lt_trichotomy a.first b.first with h|h|h
 ·exact .inl (.inl h)
 ·rcases less_tri hn with h2|h2
  ·exact .inl (.inr ⟨h,h2⟩)
  ·exact .inr (.inr ⟨h.symm,h2⟩)
 ·exact .inr (.inl h)
theorem c3520{h:LH}{f:BookC}{x:Book}(hr:BookR h.get f x)(ok:BookOk x):FW X0 Tryz.prog 67 #[bookV f] h fun v h'=>h.le h'/\∃ (r c sz:Nat) (l:List Int),v=.slice (some ⟨r,0,none⟩) l.length c/\RowI 3 h.get sz h' r l/\l.Perm (zero2 x.deeds.length)/\(l.map (deedAt x.deeds)).Pairwise Ow.Before:=by
 refine w3520 _ _ _ _ _ _ _ _ _ _ _ _ X0_ok ?_;unfold n3520;have hn:=hr.deeds.1;have h8:=ok.deeds8;refine t_newG fun r h1 le1 hr0 hr1=>?_;have z3:h1.get.cell? (Addr.add (Addr.add ⟨r,0,none⟩ 0) 3)=some (.slice f.p3 f.n3 f.c3):=by rw[add_plain,add_plain];exact cell_blk hr1 rfl
 refine gZ ?_;refine t_makeSlice0 und50 inf3 rfl (by decide) (by omega) fun r2 cs hr2 hcs _=>?_;have le2:h1.le _:=LH.upd_le (x:=(true,.cells cs 3 (0,0))) hr2;have g0:Growing IntEnc 3 1 h1.get (h1.get.upd r2 (true,.cells cs 3 (0,0))) (some ⟨r2,0,none⟩) 0 f.n3 (zero2 0) :=
  ⟨⟨[],⟨by simp,.inr ⟨r2,cs,rfl,Cells.upd_self _ _ _,by omega,Nat.zero_le _,by simp⟩⟩,.nil⟩,fun a e=>by cases e;exact hr2⟩
 have z3':=Cells.cell?_le le2.1 z3;generalize hh:({ h1 with get:=h1.get.upd r2 (true,.cells cs 3 (0,0)) }:LH)=h2 at le2 z3' ⊢;have g0':Growing IntEnc 3 1 h1.get h2.get (some ⟨r2,0,none⟩) 0 f.n3 (zero2 0):=by rw[<- hh];exact g0
 clear g0 hh;refine gZ ?_;refine t_loop (fun mm vs h'=>h1.le h'/\∃ (rr c i:Nat),vs=[.slice (some ⟨rr,0,none⟩) i c,.int .i64 i]/\i<=f.n3/\mm=f.n3-i/\Growing IntEnc 3 1 h1.get h'.get (some ⟨rr,0,none⟩) i c (zero2 i)) ⟨le2,r2,f.n3,0,rfl,Nat.zero_le _,rfl,g0'⟩ ?_;rintro Y mm vs h3 hY ⟨le3,rr,c,i,rfl,hi,rfl,g⟩;refine yJ (fun e1=>?_) (fun e1=>?_)
 ·refine t_push (i:Int) [.int .i64 i] rfl rfl und50 inf3 rfl (by decide) (by decide) (by kernel_rfl) rfl (by intro w hw;simp at hw;subst hw;rfl) (by omega) g le3 rfl fun p' c' h4 le4 _ g4=>?_;rw[<- zero2_succ]at g4;obtain⟨rr',rfl⟩ : ∃ rr',p'=some ⟨rr',0,none⟩:=by
   obtain⟨vs,⟨q1,q2⟩,_⟩:=g4.row;rcases q2 with⟨_,e,_⟩|⟨b,_,e,_⟩
   ·omega
   ·exact⟨b,e⟩
  refine gZ ?_;refine t_again (hY (f.n3-(i+1)) _ _ (by omega) ⟨le4,rr',c',i+1,?_,by omega,rfl,g4⟩);rw[wrap_id (by omega) (by omega)];rfl
 refine gH ?_;have ei:i=x.deeds.length:=by omega
 subst ei;obtain⟨row,hlen⟩:=g.rowI;refine gZ ?_;have hll:(x.deeds.length:Nat)=(zero2 x.deeds.length).length:=(zero2_len _).symm;have cm:Cmps h1.get h3 (.func (.func 86) #[] #[.pointer (some ⟨r,0,none⟩)]) (fun u v=>Ow.Before (deedAt x.deeds u) (deedAt x.deeds v)) (zero2 x.deeds.length):=by
  refine⟨fun u v h' hu hv ov=>?_,fun a b c h1 h2=>h1.trans h2,fun u v hu hv hne=>?_,zero2_nodup _⟩
  ·obtain⟨i,hi,rfl⟩:=zero2_mem.1 hu;obtain⟨j,hj,rfl⟩:=zero2_mem.1 hv;have le':=ov.le_of le3;have ha:=List.getElem?_eq_getElem hi;have hb:=List.getElem?_eq_getElem hj;have ea:deedAt x.deeds (i:Int)=x.deeds[i]:=by unfold deedAt;rw[Int.toNat_natCast,ha];rfl
   have eb:deedAt x.deeds (j:Int)=x.deeds[j]:=by unfold deedAt;rw[Int.toNat_natCast,hb];rfl
   rw[ea,eb];exact cv_fw X0_ok (by rfl) (c3529 (hr.le (LH.le_trans le1 le').1) (Cells.cell?_le le'.1 z3) ha hb)
  ·obtain⟨i,hi,rfl⟩:=zero2_mem.1 hu;obtain⟨j,hj,rfl⟩:=zero2_mem.1 hv;have ha:=List.getElem?_eq_getElem hi;have hb:=List.getElem?_eq_getElem hj;have ea:deedAt x.deeds (i:Int)=x.deeds[i]:=by unfold deedAt;rw[Int.toNat_natCast,ha];rfl
   have eb:deedAt x.deeds (j:Int)=x.deeds[j]:=by unfold deedAt;rw[Int.toNat_natCast,hb];rfl
   show Ow.Before _ _\/Ow.Before _ _;rw[ea,eb];exact before_tri ok.deedOnce ha hb (fun e=>hne (by rw[e]))
 have c28:=c3528 (c:=c) row (by rw[zero2_len];omega) cm;rw[zero2_len]at c28;refine t_call c28 ?_;rintro _ h4 ⟨rfl,ov,l',row',hp,hso⟩;refine gZ ?_;refine t_ret ⟨LH.le_trans le1 (ov.le_of le3),rr,c,_,l',?_,⟨row'.cells,?_⟩,hp,List.pairwise_map.2 hso⟩
 ·rw[hp.length_eq,zero2_len]
 ·cases e:h.get rr with
  | none=>rfl
  | some y=>exact absurd row'.new (by rw[le1.1 _ _ e];simp)
end Go.Y.Tre
end
section
namespace Go.TM
open Go.TM.Ow (Piece St Deed Right Book Heirs)
structure IRow(el:TypeId)(k:Nat)(h0 h:Cells)(p:Option Addr)(n c:Nat):Prop where
 row:∃ vs,OwnRow el k h p n c vs/\∀ v∈vs,∃ z:Int,v=.int .i64 z
 new:NewIn h0 p
variable {el:TypeId} {kk:Nat} {h0:Cells} {h h':LH} {p:Option Addr} {n c:Nat}
theorem IRow.nil{g:Cells}:IRow el kk h0 g none 0 0:=⟨⟨[],OwnRow.nil,by simp⟩,NewIn.none⟩
theorem IRow.turn{g g':Cells}(hk:∀ a x,p=some a->g a.block=some x->g' a.block=some x)(s:IRow el kk h0 g p n c):IRow el kk h0 g' p n c:=by
 obtain⟨vs,⟨h1,h2⟩,h3⟩:=s.row;refine⟨⟨vs,⟨h1,?_⟩,h3⟩,s.new⟩;rcases h2 with h2|⟨r,cs,e1,e2,e3⟩
 ·exact .inl h2
 ·exact .inr ⟨r,cs,e1,hk _ _ e1 e2,e3⟩
theorem IRow.block{g:Cells}(s:IRow el kk h0 g p n c){a:Addr}(ha:p=some a):∃ cs,g a.block=some (true,.cells cs el (0,0)):=by
 obtain⟨vs,⟨h1,h2⟩,h3⟩:=s.row;rcases h2 with⟨e,_⟩|⟨r,cs,e1,e2,_⟩
 ·rw[ha]at e;cases e
 ·rw[ha]at e1;cases e1;exact⟨cs,e2⟩
section
variable {P:Program} {X:XP} {Q:Leaf->LH->Prop}
end
structure StA where
 sb:Nat
 mo:Nat
 mh:Nat
 mp:Nat
 mb:Nat
def pieceV(p:Piece):Value:=.agg #[.int .i64 p.1,.int .i64 p.2]
def holdV(x:Int×Int×Int):Value:=.agg #[.int .i64 x.1,.int .i64 x.2.1,.int .i64 x.2.2]
theorem pieceInj(a b:Piece)(h:pieceV a=pieceV b):a=b:=by
 unfold pieceV at h;simp at h;exact Prod.ext h.1 h.2
theorem holdInj(a b:Int×Int×Int)(h:holdV a=holdV b):a=b:=by
 unfold holdV at h;simp at h;exact Prod.ext h.1 (Prod.ext h.2.1 h.2.2)
theorem intInj(a b:Int)(h:Value.int .i64 a=.int .i64 b):a=b:=by simpa using h
def stCells(f:BookC)(k:StA)(hs:Nat->Nat)(p:Option Addr)(n c:Nat):List Value :=
 [.slice f.p0 f.n0 f.c0,.slice f.p1 f.n1 f.c1,.slice f.p2 f.n2 f.c2,.slice f.p3 f.n3 f.c3,.map (some k.mo),.map (some k.mh),.map (some k.mp),
  .int .i64 (hs 0:Nat),.int .i64 (hs 1:Nat),.int .i64 (hs 2:Nat),.int .i64 (hs 3:Nat),.int .i64 (hs 4:Nat),.int .i64 (hs 5:Nat),.map (some k.mb),.slice p n c]
structure StR(tS tP:TypeId)(N:Nat)(h0:Cells)(h:LH)(k:StA)(f:BookC)(b:Book)(s:St)(hs:Nat->Nat):Prop where
 heirs:Heirs hs s.root
 blk:∃ p n c,h.get k.sb=some (true,.cells (stCells f k hs p n c).toArray tS (0,0))/\IRow tP 5 h0 h.get p n c/\n<=N
 owns:HoldsO pieceV h.get k.mo fun p=>(s.owns p).map (Value.int .i64)
 had:∃ F,HoldsO holdV h.get k.mh F/\∀ x v,F x=some v->∃ t:Bool,v=.bool t
 pledge:∃ g:Piece->Option Nat,HoldsO pieceV h.get k.mp (fun p=>(g p).map fun i=>Value.int .i64 (i:Nat))/\∀ p,(g p=none/\s.pledge p=none)\/∃ i d,g p=some i/\b.deeds[i]?=some d/\s.pledge p=some d
 begun:HoldsO (Value.int .i64) h.get k.mb fun i=>if 0<=i/\s.begun i.toNat=true then some (.bool true) else none
 new:h0 k.sb=none/\h0 k.mo=none/\h0 k.mh=none/\h0 k.mp=none/\h0 k.mb=none
 apart:k.mo≠k.mh/\k.mo≠k.mp/\k.mo≠k.mb/\k.mh≠k.mp/\k.mh≠k.mb/\k.mp≠k.mb
 dom:∀ r,h.get r=none->h0 r=none
 types:tS≠tP
end Go.TM
end
section
namespace Go.Y
set_option maxHeartbeats 0
set_option linter.unusedVariables false
variable {X:XP} {h:LH} {A:Value->LH->Prop}
def n3515(s:Option Addr)(p_0 p_1:Int):T:=.someA s fun a=>.loadM (a.add 4) fun p=>.sem false (Instr.lookup 139 (.map p) (.agg #[p_0,p_1]) true) fun v=>.unTup v fun l=>.unCons l fun v vs=>.ui v fun n=>.unCons vs fun v vs=>.unB v fun b=>.unNil vs (.nO (a.add 4) (.someA s fun a_1=>.nq a_1 a (.nds [.val (.pointer s),b] (bif b then .rt (.int .i64 n) else .rt (.int .i64 (-1))))))
theorem w3515(s:Option Addr)(p_0 p_1:Int):FX X 51 #[.pointer s,.agg #[p_0,p_1]] h A (n3515 s p_0 p_1):=fk [3] [] [] Tryz.f51
def n3519(b_0p:Option Addr)(b_0n b_0c:Nat)(b_1p:Option Addr)(b_1n b_1c:Nat)(b_2p:Option Addr)(b_2n b_2c:Nat)(b_3p:Option Addr)(b_3n b_3c:Nat):T:=.sem false (Instr.makeMap 139 none) fun v=>.unM v fun a=>.sem false (Instr.makeMap 140 none) fun v=>.unM v fun a_1=>.sem false (Instr.makeMap 139 none) fun v=>.unM v fun a_2=>.sem false (Instr.makeMap 88 none) fun v=>.unM v fun a_3=>.new 145 #[.slice b_0p b_0n b_0c,.slice b_1p b_1n b_1c,.slice b_2p b_2n b_2c,.slice b_3p b_3n b_3c,.map a,.map a_1,.map a_2,.int .i64 0,.int .i64 0,.int .i64 0,.int .i64 0,.int .i64 0,.int .i64 0,.map a_3,.slice none 0 0] fun r=>.loop [.int .i64 0] (fun vs=>.pi vs fun n vs=>.unNil vs (bif decide (n<6) then .someA (some ⟨r,0,none⟩) fun a=>.need (0<=n/\n<(↑6:Int)) (.store (((a.add 7).add (n.toNat*1)).add 0) (.int .i64 n) (.ag [.int .i64 (wrap .i64 (n+1))])) else .bk [n])) (fun vs=>.pi vs fun n vs=>.unNil vs (.rt (.pointer (some ⟨r,0,none⟩)))) (fun vs=>.pi vs fun n vs=>.unNil vs (.rt (.pointer none))) fun x x_1=>.fail
theorem w3519(b_0p:Option Addr)(b_0n b_0c:Nat)(b_1p:Option Addr)(b_1n b_1c:Nat)(b_2p:Option Addr)(b_2n b_2c:Nat)(b_3p:Option Addr)(b_3n b_3c:Nat):FX X 66 #[.agg #[.slice b_0p b_0n b_0c,.slice b_1p b_1n b_1c,.slice b_2p b_2n b_2c,.slice b_3p b_3n b_3c]] h A (n3519 b_0p b_0n b_0c b_1p b_1n b_1c b_2p b_2n b_2c b_3p b_3n b_3c):=fk [1] [⟨0,[(12,.int .i64)],[1],[],[],[]⟩] [] Tryz.f66
def n3521(s:Option Addr)(day:Int):T:=.someA s fun a=>.loadS (((a.add 0).add 0).add 2) fun p n c=>.loop [.int .i64 0] (fun vs=>.pi vs fun n_1 vs=>.unNil vs (bif decide (n_1<(↑n:Int)) then .need (0<=n_1/\n_1<(↑n:Int)) (.someA p fun a=>.loadStr ((a.add (n_1.toNat*4)).add 0) fun s_1=>.li ((a.add (n_1.toNat*4)).add 1) fun n=>.li ((a.add (n_1.toNat*4)).add 2) fun n_2=>.loadS ((a.add (n_1.toNat*4)).add 3) fun p n_3 c=>.blk (.someA s fun a=>.loadM (a.add 13) fun p=>.sem false (Instr.lookup 88 (.map p) (.int .i64 n_1) false) fun v=>.unB v fun b=>bif b then .leaf (.out 1 []) else bif decide (n_2>day) then .leaf (.out 1 []) else .ag []) (fun vs=>.unNil vs (.someA s fun a=>.loadM (a.add 13) fun p_1=>.sem false (Sem.bind (Instr.mapUpdate 88 (.map p_1) (.int .i64 n_1) (.bool true)) fun __r=>pure (.tuple #[])) fun x=>.loop [.int .i64 0] (fun vs=>.pi vs fun n_4 vs=>.unNil vs (bif decide (n_4<(↑n_3:Int)) then .need (0<=n_4/\n_4<(↑n_3:Int)) (.someA p fun a=>.li (a.add (n_4.toNat*1)) fun n_5=>.cI 90 #[.pointer s,n] fun n=>.cl 89 #[.pointer s,.agg #[n_1,n_5],n] fun v=>.unTup v fun l=>.unNil l (.ag [.int .i64 (wrap .i64 (n_4+1))])) else .bk [n_4])) (fun vs=>.pi vs fun n vs=>.unNil vs (.ag [.int .i64 (wrap .i64 (n_1+1))])) (fun vs=>.pi vs fun n vs=>.unNil vs (.rn [n_1])) fun x x_1=>.fail)) (fun vs=>.unNil vs (.rn [n_1])) fun x x_1=>bif Nat.beq x 1 then .unNil x_1 (.ag [.int .i64 (wrap .i64 (n_1+1))]) else .fail) else .bk [n_1])) (fun vs=>.pi vs fun n vs=>.unNil vs (.rt (.tuple #[]))) (fun vs=>.pi vs fun n vs=>.unNil vs (.rt (.tuple #[]))) fun x x_1=>.fail
theorem w3521(s:Option Addr)(day:Int):FX X 68 #[.pointer s,day] h A (n3521 s day):=fk [5] [⟨2,[(40,.int .i64)],[5],[],[],[]⟩,⟨0,[(15,.int .i64)],[],[],[],[]⟩] [⟨4,[],[5],[1],[],[]⟩] Tryz.f68
def n3532(s:Option Addr)(p_0 p_1 to:Int):T:=.someA s fun a=>.loadM (a.add 4) fun p=>.sem false (Sem.bind (Instr.mapUpdate 139 (.map p) (.agg #[p_0,p_1]) (.int .i64 to)) fun __r=>pure (.tuple #[])) fun x=>.someA s fun a=>.loadM (a.add 5) fun p=>.sem false (Sem.bind (Instr.mapUpdate 140 (.map p) (.agg #[p_0,p_1,to]) (.bool true)) fun __r=>pure (.tuple #[])) fun x=>.rt (.tuple #[])
theorem w3532(s:Option Addr)(p_0 p_1 to:Int):FX X 89 #[.pointer s,.agg #[p_0,p_1],to] h A (n3532 s p_0 p_1 to):=fk [4] [] [] Tryz.f89
def n3533(s:Option Addr)(owner:Int):T:=.someA s fun a=>.li ((a.add 7).add 0) fun n=>.li ((a.add 7).add 1) fun n_1=>.li ((a.add 7).add 2) fun n_2=>.li ((a.add 7).add 3) fun n_3=>.li ((a.add 7).add 4) fun n_4=>.li ((a.add 7).add 5) fun n_5=>.new 142 #[.int .i64 0,.int .i64 0,.int .i64 0,.int .i64 0,.int .i64 0,.int .i64 0] fun r=>.store (Addr.add ⟨r,0,none⟩ 0) (.int .i64 n) (.store (Addr.add ⟨r,0,none⟩ 1) (.int .i64 n_1) (.store (Addr.add ⟨r,0,none⟩ 2) (.int .i64 n_2) (.store (Addr.add ⟨r,0,none⟩ 3) (.int .i64 n_3) (.store (Addr.add ⟨r,0,none⟩ 4) (.int .i64 n_4) (.store (Addr.add ⟨r,0,none⟩ 5) (.int .i64 n_5) (.loop [.int .i64 0,.pointer (some ⟨r,0,none⟩)] (fun vs=>.pi vs fun n vs=>.popA vs fun a vs=>.unNil vs (.li (a.add 0) fun n_6=>.li (a.add 1) fun n_7=>.li (a.add 2) fun n_8=>.li (a.add 3) fun n_9=>.li (a.add 4) fun n_10=>.li (a.add 5) fun n_11=>.loop [.int .i64 0] (fun vs=>.pi vs fun n vs=>.unNil vs (bif decide (n<6) then .sem false (Instr.index 142 (.agg #[n_6,n_7,n_8,n_9,n_10,n_11]) (.int .i64 n)) fun v=>.ui v fun n_12=>.someA s fun a_1=>.need (0<=n_12/\n_12<(↑6:Int)) (.li ((a_1.add 7).add (n_12.toNat*1)) fun n_13=>.need (0<=n/\n<(↑6:Int)) (.store ((a.add (n.toNat*1)).add 0) (.int .i64 n_13) (.ag [.int .i64 (wrap .i64 (n+1))]))) else .bk [n])) (fun vs=>.pi vs fun n_12 vs=>.unNil vs (.li (a.add 0) fun n_13=>.li (a.add 1) fun n_14=>.li (a.add 2) fun n_15=>.li (a.add 3) fun n_16=>.li (a.add 4) fun n_17=>.li (a.add 5) fun n_18=>.someA s fun a_1=>.li ((a_1.add 7).add 0) fun n_19=>.li ((a_1.add 7).add 1) fun n_20=>.li ((a_1.add 7).add 2) fun n_21=>.li ((a_1.add 7).add 3) fun n_22=>.li ((a_1.add 7).add 4) fun n_23=>.li ((a_1.add 7).add 5) fun n_24=>.sem false (Sem.bind (eqGuard BinOp.eql 142 (Operand.tmp 26) (Operand.tmp 30) (.agg #[n_13,n_14,n_15,n_16,n_17,n_18]) (.agg #[n_19,n_20,n_21,n_22,n_23,n_24])) fun __r=>binOp BinOp.eql 142 (.agg #[n_13,n_14,n_15,n_16,n_17,n_18]) (.agg #[n_19,n_20,n_21,n_22,n_23,n_24])) fun v=>.unB v fun b=>.nO (a_1.add 7) (.someA s fun a_2=>.nq a_2 a_1 (.nd (.pointer s) (bif b then .need (0<=owner/\owner<(↑6:Int)) (.li (a.add (owner.toNat*1)) fun n=>.rn [n,.pointer (some a)]) else .li (a.add 0) fun n_25=>.li (a.add 1) fun n_26=>.li (a.add 2) fun n_27=>.li (a.add 3) fun n_28=>.li (a.add 4) fun n_29=>.li (a.add 5) fun n_30=>.someA s fun a_3=>.store ((a_3.add 7).add 0) (.int .i64 n_25) (.store ((a_3.add 7).add 1) (.int .i64 n_26) (.store ((a_3.add 7).add 2) (.int .i64 n_27) (.store ((a_3.add 7).add 3) (.int .i64 n_28) (.store ((a_3.add 7).add 4) (.int .i64 n_29) (.store ((a_3.add 7).add 5) (.int .i64 n_30) (.li (a.add 0) fun n_31=>.li (a.add 1) fun n_32=>.li (a.add 2) fun n_33=>.li (a.add 3) fun n_34=>.li (a.add 4) fun n_35=>.li (a.add 5) fun n_36=>.new 142 #[.int .i64 0,.int .i64 0,.int .i64 0,.int .i64 0,.int .i64 0,.int .i64 0] fun r=>.store (Addr.add ⟨r,0,none⟩ 0) (.int .i64 n_31) (.store (Addr.add ⟨r,0,none⟩ 1) (.int .i64 n_32) (.store (Addr.add ⟨r,0,none⟩ 2) (.int .i64 n_33) (.store (Addr.add ⟨r,0,none⟩ 3) (.int .i64 n_34) (.store (Addr.add ⟨r,0,none⟩ 4) (.int .i64 n_35) (.store (Addr.add ⟨r,0,none⟩ 5) (.int .i64 n_36) (.ag [n,.pointer (some ⟨r,0,none⟩)]))))))))))))))))) (fun vs=>.pi vs fun n_12 vs=>.unNil vs (.rn [n,.pointer (some a)])) fun x x_1=>.fail)) (fun vs=>.pi vs fun n vs=>.popA vs fun a vs=>.unNil vs (.rt (.int .i64 n))) (fun vs=>.pi vs fun n vs=>.popA vs fun a vs=>.unNil vs (.rt (.int .i64 n))) fun x x_1=>.fail))))))
theorem w3533(s:Option Addr)(owner:Int):FX X 90 #[.pointer s,owner] h A (n3533 s owner):=fk [] [⟨2,[(13,.int .i64)],[],[],[],[]⟩,⟨0,[(4,.int .i64),(5,.adr)],[],[],[],[]⟩] [] Tryz.f90
def n3576(s:Option Addr)(deed:Int):T:=.new 106 #[.pointer s] fun r=>.new 3 #[deed] fun r_1=>.loadP ⟨r,0,none⟩ fun p=>.li ⟨r_1,0,none⟩ fun n=>.cl 179 #[.pointer p,n,.func (Fn.func 180) #[] #[.pointer (some ⟨r,0,none⟩),.pointer (some ⟨r_1,0,none⟩)]] fun v=>.unTup v fun l=>.unNil l (.rt (.tuple #[]))
theorem w3576(s:Option Addr)(deed:Int):FX X 175 #[.pointer s,deed] h A (n3576 s deed):=fk [] [] [] Tryz.f175
def n3577(s:Option Addr)(deed:Int):T:=.blk (.someA s fun a=>.loadS (((a.add 0).add 0).add 3) fun p n c=>.need (0<=deed/\deed<(↑n:Int)) (.someA p fun a_1=>.li ((a_1.add (deed.toNat*8)).add 3) fun n_1=>.someA s fun a_2=>.loadS (((a_2.add 0).add 0).add 3) fun p_1 n_2 c_1=>.need (0<=deed/\deed<(↑n_2:Int)) (.someA p_1 fun a_3=>.li ((a_3.add (deed.toNat*8)).add 4) fun n_3=>.both (.cI 90 #[.pointer s,n_1] fun n_4=>.li ((a_3.add (deed.toNat*8)).add 4) fun n_5=>.ne n_5 n_3 (.nd (.pointer (some ((a_3.add (deed.toNat*8)).add 4))) (.need (0<=deed/\deed<(↑n_2:Int)) (.someA p_1 fun a_4=>.ne (.pointer (some (a_4.add (deed.toNat*8)))) (.pointer (some (a_3.add (deed.toNat*8)))) (.nd deed (.loadS (((a_2.add 0).add 0).add 3) fun p_2 n_6 c_2=>.ne (.slice p_2 n_6 c_2) (.slice p_1 n_2 c_1) (.nds [.val (.pointer (some (((a_2.add 0).add 0).add 3))),.O ((a_2.add 0).add 0),.O (a_2.add 0)] (.someA s fun a_5=>.nq a_5 a_2 (.nds [.val (.pointer s),.val (.pointer s),.val (.pointer (some ((a_1.add (deed.toNat*8)).add 3)))] (.need (0<=deed/\deed<(↑n:Int)) (.someA p fun a_6=>.ne (.pointer (some (a_6.add (deed.toNat*8)))) (.pointer (some (a_1.add (deed.toNat*8)))) (.nd deed (.loadS (((a.add 0).add 0).add 3) fun p_3 n_7 c_3=>.ne (.slice p_3 n_7 c_3) (.slice p n c) (.nds [.val (.pointer (some (((a.add 0).add 0).add 3))),.O ((a.add 0).add 0),.O (a.add 0)] (.someA s fun a_7=>.nq a_7 a (.nd (.pointer s) (.both (.cI 90 #[.pointer s,n_3] fun n_8=>.nd (.pointer (some ((a_3.add (deed.toNat*8)).add 4))) (.need (0<=deed/\deed<(↑n_2:Int)) (.someA p_1 fun a_8=>.ne (.pointer (some (a_8.add (deed.toNat*8)))) (.pointer (some (a_3.add (deed.toNat*8)))) (.nd deed (.loadS (((a_2.add 0).add 0).add 3) fun p_4 n_9 c_4=>.ne (.slice p_4 n_9 c_4) (.slice p_1 n_2 c_1) (.nds [.val (.pointer (some (((a_2.add 0).add 0).add 3))),.O ((a_2.add 0).add 0),.O (a_2.add 0)] (.someA s fun a_9=>.nq a_9 a_2 (.nds [.val (.pointer s),.val (.pointer (some ((a_1.add (deed.toNat*8)).add 3)))] (.need (0<=deed/\deed<(↑n:Int)) (.someA p fun a_10=>.ne (.pointer (some (a_10.add (deed.toNat*8)))) (.pointer (some (a_1.add (deed.toNat*8)))) (.nd deed (.loadS (((a.add 0).add 0).add 3) fun p_5 n_10 c_5=>.ne (.slice p_5 n_10 c_5) (.slice p n c) (.nds [.val (.pointer (some (((a.add 0).add 0).add 3))),.O ((a.add 0).add 0),.O (a.add 0)] (.someA s fun a_11=>.nq a_11 a (.nd (.pointer s) (.both (.nd (.pointer (some ((a_3.add (deed.toNat*8)).add 4))) (.need (0<=deed/\deed<(↑n_2:Int)) (.someA p_1 fun a_12=>.ne (.pointer (some (a_12.add (deed.toNat*8)))) (.pointer (some (a_3.add (deed.toNat*8)))) (.nd deed (.loadS (((a_2.add 0).add 0).add 3) fun p_6 n_11 c_6=>.ne (.slice p_6 n_11 c_6) (.slice p_1 n_2 c_1) (.nds [.val (.pointer (some (((a_2.add 0).add 0).add 3))),.O ((a_2.add 0).add 0),.O (a_2.add 0)] (.someA s fun a_13=>.nq a_13 a_2 (.nds [.val (.pointer s),.val (.pointer (some ((a_1.add (deed.toNat*8)).add 3)))] (.need (0<=deed/\deed<(↑n:Int)) (.someA p fun a_14=>.ne (.pointer (some (a_14.add (deed.toNat*8)))) (.pointer (some (a_1.add (deed.toNat*8)))) (.nd deed (.loadS (((a.add 0).add 0).add 3) fun p_7 n_12 c_7=>.ne (.slice p_7 n_12 c_7) (.slice p n c) (.nds [.val (.pointer (some (((a.add 0).add 0).add 3))),.O ((a.add 0).add 0),.O (a.add 0)] (.someA s fun a_15=>.nq a_15 a (.nds [.val (.pointer s),.val (.pointer (some ((a_3.add (deed.toNat*8)).add 4)))] (.need (0<=deed/\deed<(↑n_2:Int)) (.someA p_1 fun a_16=>.ne (.pointer (some (a_16.add (deed.toNat*8)))) (.pointer (some (a_3.add (deed.toNat*8)))) (.nd deed (.loadS (((a_2.add 0).add 0).add 3) fun p_8 n_13 c_8=>.ne (.slice p_8 n_13 c_8) (.slice p_1 n_2 c_1) (.nds [.val (.pointer (some (((a_2.add 0).add 0).add 3))),.O ((a_2.add 0).add 0),.O (a_2.add 0)] (.someA s fun a_17=>.nq a_17 a_2 (.nds [.val (.pointer s),.val (.pointer (some ((a_1.add (deed.toNat*8)).add 3)))] (.need (0<=deed/\deed<(↑n:Int)) (.someA p fun a_18=>.ne (.pointer (some (a_18.add (deed.toNat*8)))) (.pointer (some (a_1.add (deed.toNat*8)))) (.nd deed (.loadS (((a.add 0).add 0).add 3) fun p_9 n_14 c_9=>.ne (.slice p_9 n_14 c_9) (.slice p n c) (.nds [.val (.pointer (some (((a.add 0).add 0).add 3))),.O ((a.add 0).add 0),.O (a.add 0)] (.someA s fun a_19=>.nq a_19 a (.nds [.val (.pointer s),.val (.pointer (some ((a_3.add (deed.toNat*8)).add 4)))] (.need (0<=deed/\deed<(↑n_2:Int)) (.someA p_1 fun a=>.ne (.pointer (some (a.add (deed.toNat*8)))) (.pointer (some (a_3.add (deed.toNat*8)))) (.nd deed (.loadS (((a_2.add 0).add 0).add 3) fun p n c=>.ne (.slice p n c) (.slice p_1 n_2 c_1) (.nds [.val (.pointer (some (((a_2.add 0).add 0).add 3))),.O ((a_2.add 0).add 0),.O (a_2.add 0)] (.someA s fun a=>.nq a a_2 (.nd (.pointer s) (.ag [n_4,n_8]))))))))))))))))))))))))))))))))))))) (.nd (.pointer (some ((a_3.add (deed.toNat*8)).add 4))) (.need (0<=deed/\deed<(↑n_2:Int)) (.someA p_1 fun a_12=>.ne (.pointer (some (a_12.add (deed.toNat*8)))) (.pointer (some (a_3.add (deed.toNat*8)))) (.nd deed (.loadS (((a_2.add 0).add 0).add 3) fun p_6 n_11 c_6=>.ne (.slice p_6 n_11 c_6) (.slice p_1 n_2 c_1) (.nds [.val (.pointer (some (((a_2.add 0).add 0).add 3))),.O ((a_2.add 0).add 0),.O (a_2.add 0)] (.someA s fun a_13=>.nq a_13 a_2 (.nds [.val (.pointer s),.val (.pointer (some ((a_1.add (deed.toNat*8)).add 3)))] (.need (0<=deed/\deed<(↑n:Int)) (.someA p fun a_14=>.ne (.pointer (some (a_14.add (deed.toNat*8)))) (.pointer (some (a_1.add (deed.toNat*8)))) (.nd deed (.loadS (((a.add 0).add 0).add 3) fun p_7 n_12 c_7=>.ne (.slice p_7 n_12 c_7) (.slice p n c) (.nds [.val (.pointer (some (((a.add 0).add 0).add 3))),.O ((a.add 0).add 0),.O (a.add 0)] (.someA s fun a_15=>.nq a_15 a (.nds [.val (.pointer s),.val (.pointer (some ((a_3.add (deed.toNat*8)).add 4)))] (.need (0<=deed/\deed<(↑n_2:Int)) (.someA p_1 fun a_16=>.ne (.pointer (some (a_16.add (deed.toNat*8)))) (.pointer (some (a_3.add (deed.toNat*8)))) (.nd deed (.loadS (((a_2.add 0).add 0).add 3) fun p_8 n_13 c_8=>.ne (.slice p_8 n_13 c_8) (.slice p_1 n_2 c_1) (.nds [.val (.pointer (some (((a_2.add 0).add 0).add 3))),.O ((a_2.add 0).add 0),.O (a_2.add 0)] (.someA s fun a_17=>.nq a_17 a_2 (.nds [.val (.pointer s),.val (.pointer (some ((a_1.add (deed.toNat*8)).add 3)))] (.need (0<=deed/\deed<(↑n:Int)) (.someA p fun a_18=>.ne (.pointer (some (a_18.add (deed.toNat*8)))) (.pointer (some (a_1.add (deed.toNat*8)))) (.nd deed (.loadS (((a.add 0).add 0).add 3) fun p_9 n_14 c_9=>.ne (.slice p_9 n_14 c_9) (.slice p n c) (.nds [.val (.pointer (some (((a.add 0).add 0).add 3))),.O ((a.add 0).add 0),.O (a.add 0)] (.someA s fun a_19=>.nq a_19 a (.nds [.val (.pointer s),.val (.pointer (some ((a_3.add (deed.toNat*8)).add 4)))] (.need (0<=deed/\deed<(↑n_2:Int)) (.someA p_1 fun a=>.ne (.pointer (some (a.add (deed.toNat*8)))) (.pointer (some (a_3.add (deed.toNat*8)))) (.nd deed (.loadS (((a_2.add 0).add 0).add 3) fun p n c=>.ne (.slice p n c) (.slice p_1 n_2 c_1) (.nds [.val (.pointer (some (((a_2.add 0).add 0).add 3))),.O ((a_2.add 0).add 0),.O (a_2.add 0)] (.someA s fun a=>.nq a a_2 (.nd (.pointer s) (.ag [n_4,n_8]))))))))))))))))))))))))))))))))))))))))))))))))))))) (.both (.li ((a_3.add (deed.toNat*8)).add 4) fun n_8=>.ne n_8 n_3 (.nd (.pointer (some ((a_3.add (deed.toNat*8)).add 4))) (.need (0<=deed/\deed<(↑n_2:Int)) (.someA p_1 fun a_8=>.ne (.pointer (some (a_8.add (deed.toNat*8)))) (.pointer (some (a_3.add (deed.toNat*8)))) (.nd deed (.loadS (((a_2.add 0).add 0).add 3) fun p_4 n_9 c_4=>.ne (.slice p_4 n_9 c_4) (.slice p_1 n_2 c_1) (.nds [.val (.pointer (some (((a_2.add 0).add 0).add 3))),.O ((a_2.add 0).add 0),.O (a_2.add 0)] (.someA s fun a_9=>.nq a_9 a_2 (.nds [.val (.pointer s),.val (.pointer s),.val (.pointer (some ((a_1.add (deed.toNat*8)).add 3)))] (.need (0<=deed/\deed<(↑n:Int)) (.someA p fun a_10=>.ne (.pointer (some (a_10.add (deed.toNat*8)))) (.pointer (some (a_1.add (deed.toNat*8)))) (.nd deed (.loadS (((a.add 0).add 0).add 3) fun p_5 n_10 c_5=>.ne (.slice p_5 n_10 c_5) (.slice p n c) (.nds [.val (.pointer (some (((a.add 0).add 0).add 3))),.O ((a.add 0).add 0),.O (a.add 0)] (.someA s fun a_11=>.nq a_11 a (.nd (.pointer s) (.both (.cI 90 #[.pointer s,n_3] fun n_11=>.nd (.pointer (some ((a_3.add (deed.toNat*8)).add 4))) (.need (0<=deed/\deed<(↑n_2:Int)) (.someA p_1 fun a_12=>.ne (.pointer (some (a_12.add (deed.toNat*8)))) (.pointer (some (a_3.add (deed.toNat*8)))) (.nd deed (.loadS (((a_2.add 0).add 0).add 3) fun p_6 n_12 c_6=>.ne (.slice p_6 n_12 c_6) (.slice p_1 n_2 c_1) (.nds [.val (.pointer (some (((a_2.add 0).add 0).add 3))),.O ((a_2.add 0).add 0),.O (a_2.add 0)] (.someA s fun a_13=>.nq a_13 a_2 (.nds [.val (.pointer s),.val (.pointer (some ((a_1.add (deed.toNat*8)).add 3)))] (.need (0<=deed/\deed<(↑n:Int)) (.someA p fun a_14=>.ne (.pointer (some (a_14.add (deed.toNat*8)))) (.pointer (some (a_1.add (deed.toNat*8)))) (.nd deed (.loadS (((a.add 0).add 0).add 3) fun p_7 n_13 c_7=>.ne (.slice p_7 n_13 c_7) (.slice p n c) (.nds [.val (.pointer (some (((a.add 0).add 0).add 3))),.O ((a.add 0).add 0),.O (a.add 0)] (.someA s fun a_15=>.nq a_15 a (.nds [.val (.pointer s),.val (.pointer (some ((a_3.add (deed.toNat*8)).add 4)))] (.need (0<=deed/\deed<(↑n_2:Int)) (.someA p_1 fun a_16=>.ne (.pointer (some (a_16.add (deed.toNat*8)))) (.pointer (some (a_3.add (deed.toNat*8)))) (.nd deed (.loadS (((a_2.add 0).add 0).add 3) fun p_8 n_14 c_8=>.ne (.slice p_8 n_14 c_8) (.slice p_1 n_2 c_1) (.nds [.val (.pointer (some (((a_2.add 0).add 0).add 3))),.O ((a_2.add 0).add 0),.O (a_2.add 0)] (.someA s fun a_17=>.nq a_17 a_2 (.nds [.val (.pointer s),.val (.pointer (some ((a_1.add (deed.toNat*8)).add 3)))] (.need (0<=deed/\deed<(↑n:Int)) (.someA p fun a_18=>.ne (.pointer (some (a_18.add (deed.toNat*8)))) (.pointer (some (a_1.add (deed.toNat*8)))) (.nd deed (.loadS (((a.add 0).add 0).add 3) fun p_9 n_15 c_9=>.ne (.slice p_9 n_15 c_9) (.slice p n c) (.nds [.val (.pointer (some (((a.add 0).add 0).add 3))),.O ((a.add 0).add 0),.O (a.add 0)] (.someA s fun a_19=>.nq a_19 a (.nds [.val (.pointer s),.val (.pointer (some ((a_3.add (deed.toNat*8)).add 4)))] (.need (0<=deed/\deed<(↑n_2:Int)) (.someA p_1 fun a=>.ne (.pointer (some (a.add (deed.toNat*8)))) (.pointer (some (a_3.add (deed.toNat*8)))) (.nd deed (.loadS (((a_2.add 0).add 0).add 3) fun p n c=>.ne (.slice p n c) (.slice p_1 n_2 c_1) (.nds [.val (.pointer (some (((a_2.add 0).add 0).add 3))),.O ((a_2.add 0).add 0),.O (a_2.add 0)] (.someA s fun a=>.nq a a_2 (.nd (.pointer s) (.ag [n_4,n_11]))))))))))))))))))))))))))))))))))))) (.li ((a_3.add (deed.toNat*8)).add 4) fun n_11=>.ne n_11 n_3 (.nd (.pointer (some ((a_3.add (deed.toNat*8)).add 4))) (.need (0<=deed/\deed<(↑n_2:Int)) (.someA p_1 fun a_12=>.ne (.pointer (some (a_12.add (deed.toNat*8)))) (.pointer (some (a_3.add (deed.toNat*8)))) (.nd deed (.loadS (((a_2.add 0).add 0).add 3) fun p_6 n_12 c_6=>.ne (.slice p_6 n_12 c_6) (.slice p_1 n_2 c_1) (.nds [.val (.pointer (some (((a_2.add 0).add 0).add 3))),.O ((a_2.add 0).add 0),.O (a_2.add 0)] (.someA s fun a_13=>.nq a_13 a_2 (.nds [.val (.pointer s),.val (.pointer s),.val (.pointer (some ((a_1.add (deed.toNat*8)).add 3)))] (.need (0<=deed/\deed<(↑n:Int)) (.someA p fun a_14=>.ne (.pointer (some (a_14.add (deed.toNat*8)))) (.pointer (some (a_1.add (deed.toNat*8)))) (.nd deed (.loadS (((a.add 0).add 0).add 3) fun p_7 n_13 c_7=>.ne (.slice p_7 n_13 c_7) (.slice p n c) (.nds [.val (.pointer (some (((a.add 0).add 0).add 3))),.O ((a.add 0).add 0),.O (a.add 0)] (.someA s fun a_15=>.nq a_15 a (.nd (.pointer s) (.cI 90 #[.pointer s,n_3] fun n_14=>.nd (.pointer (some ((a_3.add (deed.toNat*8)).add 4))) (.need (0<=deed/\deed<(↑n_2:Int)) (.someA p_1 fun a_16=>.ne (.pointer (some (a_16.add (deed.toNat*8)))) (.pointer (some (a_3.add (deed.toNat*8)))) (.nd deed (.loadS (((a_2.add 0).add 0).add 3) fun p_8 n_15 c_8=>.ne (.slice p_8 n_15 c_8) (.slice p_1 n_2 c_1) (.nds [.val (.pointer (some (((a_2.add 0).add 0).add 3))),.O ((a_2.add 0).add 0),.O (a_2.add 0)] (.someA s fun a_17=>.nq a_17 a_2 (.nds [.val (.pointer s),.val (.pointer (some ((a_1.add (deed.toNat*8)).add 3)))] (.need (0<=deed/\deed<(↑n:Int)) (.someA p fun a_18=>.ne (.pointer (some (a_18.add (deed.toNat*8)))) (.pointer (some (a_1.add (deed.toNat*8)))) (.nd deed (.loadS (((a.add 0).add 0).add 3) fun p_9 n_16 c_9=>.ne (.slice p_9 n_16 c_9) (.slice p n c) (.nds [.val (.pointer (some (((a.add 0).add 0).add 3))),.O ((a.add 0).add 0),.O (a.add 0)] (.someA s fun a_19=>.nq a_19 a (.nds [.val (.pointer s),.val (.pointer (some ((a_3.add (deed.toNat*8)).add 4)))] (.need (0<=deed/\deed<(↑n_2:Int)) (.someA p_1 fun a=>.ne (.pointer (some (a.add (deed.toNat*8)))) (.pointer (some (a_3.add (deed.toNat*8)))) (.nd deed (.loadS (((a_2.add 0).add 0).add 3) fun p n c=>.ne (.slice p n c) (.slice p_1 n_2 c_1) (.nds [.val (.pointer (some (((a_2.add 0).add 0).add 3))),.O ((a_2.add 0).add 0),.O (a_2.add 0)] (.someA s fun a=>.nq a a_2 (.nd (.pointer s) (.ag [n_4,n_14])))))))))))))))))))))))))))))))))))))))))))))))))))))))) (.li ((a_3.add (deed.toNat*8)).add 4) fun n_8=>.ne n_8 n_3 (.nd (.pointer (some ((a_3.add (deed.toNat*8)).add 4))) (.need (0<=deed/\deed<(↑n_2:Int)) (.someA p_1 fun a_8=>.ne (.pointer (some (a_8.add (deed.toNat*8)))) (.pointer (some (a_3.add (deed.toNat*8)))) (.nd deed (.loadS (((a_2.add 0).add 0).add 3) fun p_4 n_9 c_4=>.ne (.slice p_4 n_9 c_4) (.slice p_1 n_2 c_1) (.nds [.val (.pointer (some (((a_2.add 0).add 0).add 3))),.O ((a_2.add 0).add 0),.O (a_2.add 0)] (.someA s fun a_9=>.nq a_9 a_2 (.nds [.val (.pointer s),.val (.pointer s),.val (.pointer (some ((a_1.add (deed.toNat*8)).add 3)))] (.need (0<=deed/\deed<(↑n:Int)) (.someA p fun a_10=>.ne (.pointer (some (a_10.add (deed.toNat*8)))) (.pointer (some (a_1.add (deed.toNat*8)))) (.nd deed (.loadS (((a.add 0).add 0).add 3) fun p_5 n_10 c_5=>.ne (.slice p_5 n_10 c_5) (.slice p n c) (.nds [.val (.pointer (some (((a.add 0).add 0).add 3))),.O ((a.add 0).add 0),.O (a.add 0)] (.someA s fun a_11=>.nq a_11 a (.nd (.pointer s) (.both (.cI 90 #[.pointer s,n_3] fun n_11=>.nd (.pointer (some ((a_3.add (deed.toNat*8)).add 4))) (.need (0<=deed/\deed<(↑n_2:Int)) (.someA p_1 fun a_12=>.ne (.pointer (some (a_12.add (deed.toNat*8)))) (.pointer (some (a_3.add (deed.toNat*8)))) (.nd deed (.loadS (((a_2.add 0).add 0).add 3) fun p_6 n_12 c_6=>.ne (.slice p_6 n_12 c_6) (.slice p_1 n_2 c_1) (.nds [.val (.pointer (some (((a_2.add 0).add 0).add 3))),.O ((a_2.add 0).add 0),.O (a_2.add 0)] (.someA s fun a_13=>.nq a_13 a_2 (.nds [.val (.pointer s),.val (.pointer (some ((a_1.add (deed.toNat*8)).add 3)))] (.need (0<=deed/\deed<(↑n:Int)) (.someA p fun a_14=>.ne (.pointer (some (a_14.add (deed.toNat*8)))) (.pointer (some (a_1.add (deed.toNat*8)))) (.nd deed (.loadS (((a.add 0).add 0).add 3) fun p_7 n_13 c_7=>.ne (.slice p_7 n_13 c_7) (.slice p n c) (.nds [.val (.pointer (some (((a.add 0).add 0).add 3))),.O ((a.add 0).add 0),.O (a.add 0)] (.someA s fun a_15=>.nq a_15 a (.nds [.val (.pointer s),.val (.pointer (some ((a_3.add (deed.toNat*8)).add 4)))] (.need (0<=deed/\deed<(↑n_2:Int)) (.someA p_1 fun a_16=>.ne (.pointer (some (a_16.add (deed.toNat*8)))) (.pointer (some (a_3.add (deed.toNat*8)))) (.nd deed (.loadS (((a_2.add 0).add 0).add 3) fun p_8 n_14 c_8=>.ne (.slice p_8 n_14 c_8) (.slice p_1 n_2 c_1) (.nds [.val (.pointer (some (((a_2.add 0).add 0).add 3))),.O ((a_2.add 0).add 0),.O (a_2.add 0)] (.someA s fun a_17=>.nq a_17 a_2 (.nds [.val (.pointer s),.val (.pointer (some ((a_1.add (deed.toNat*8)).add 3)))] (.need (0<=deed/\deed<(↑n:Int)) (.someA p fun a_18=>.ne (.pointer (some (a_18.add (deed.toNat*8)))) (.pointer (some (a_1.add (deed.toNat*8)))) (.nd deed (.loadS (((a.add 0).add 0).add 3) fun p_9 n_15 c_9=>.ne (.slice p_9 n_15 c_9) (.slice p n c) (.nds [.val (.pointer (some (((a.add 0).add 0).add 3))),.O ((a.add 0).add 0),.O (a.add 0)] (.someA s fun a_19=>.nq a_19 a (.nds [.val (.pointer s),.val (.pointer (some ((a_3.add (deed.toNat*8)).add 4)))] (.need (0<=deed/\deed<(↑n_2:Int)) (.someA p_1 fun a=>.ne (.pointer (some (a.add (deed.toNat*8)))) (.pointer (some (a_3.add (deed.toNat*8)))) (.nd deed (.loadS (((a_2.add 0).add 0).add 3) fun p n c=>.ne (.slice p n c) (.slice p_1 n_2 c_1) (.nds [.val (.pointer (some (((a_2.add 0).add 0).add 3))),.O ((a_2.add 0).add 0),.O (a_2.add 0)] (.someA s fun a=>.nq a a_2 (.nd (.pointer s) (.ag [n_4,n_11]))))))))))))))))))))))))))))))))))))) (.li ((a_3.add (deed.toNat*8)).add 4) fun n_11=>.ne n_11 n_3 (.nd (.pointer (some ((a_3.add (deed.toNat*8)).add 4))) (.need (0<=deed/\deed<(↑n_2:Int)) (.someA p_1 fun a_12=>.ne (.pointer (some (a_12.add (deed.toNat*8)))) (.pointer (some (a_3.add (deed.toNat*8)))) (.nd deed (.loadS (((a_2.add 0).add 0).add 3) fun p_6 n_12 c_6=>.ne (.slice p_6 n_12 c_6) (.slice p_1 n_2 c_1) (.nds [.val (.pointer (some (((a_2.add 0).add 0).add 3))),.O ((a_2.add 0).add 0),.O (a_2.add 0)] (.someA s fun a_13=>.nq a_13 a_2 (.nds [.val (.pointer s),.val (.pointer s),.val (.pointer (some ((a_1.add (deed.toNat*8)).add 3)))] (.need (0<=deed/\deed<(↑n:Int)) (.someA p fun a_14=>.ne (.pointer (some (a_14.add (deed.toNat*8)))) (.pointer (some (a_1.add (deed.toNat*8)))) (.nd deed (.loadS (((a.add 0).add 0).add 3) fun p_7 n_13 c_7=>.ne (.slice p_7 n_13 c_7) (.slice p n c) (.nds [.val (.pointer (some (((a.add 0).add 0).add 3))),.O ((a.add 0).add 0),.O (a.add 0)] (.someA s fun a_15=>.nq a_15 a (.nd (.pointer s) (.cI 90 #[.pointer s,n_3] fun n_14=>.nd (.pointer (some ((a_3.add (deed.toNat*8)).add 4))) (.need (0<=deed/\deed<(↑n_2:Int)) (.someA p_1 fun a_16=>.ne (.pointer (some (a_16.add (deed.toNat*8)))) (.pointer (some (a_3.add (deed.toNat*8)))) (.nd deed (.loadS (((a_2.add 0).add 0).add 3) fun p_8 n_15 c_8=>.ne (.slice p_8 n_15 c_8) (.slice p_1 n_2 c_1) (.nds [.val (.pointer (some (((a_2.add 0).add 0).add 3))),.O ((a_2.add 0).add 0),.O (a_2.add 0)] (.someA s fun a_17=>.nq a_17 a_2 (.nds [.val (.pointer s),.val (.pointer (some ((a_1.add (deed.toNat*8)).add 3)))] (.need (0<=deed/\deed<(↑n:Int)) (.someA p fun a_18=>.ne (.pointer (some (a_18.add (deed.toNat*8)))) (.pointer (some (a_1.add (deed.toNat*8)))) (.nd deed (.loadS (((a.add 0).add 0).add 3) fun p_9 n_16 c_9=>.ne (.slice p_9 n_16 c_9) (.slice p n c) (.nds [.val (.pointer (some (((a.add 0).add 0).add 3))),.O ((a.add 0).add 0),.O (a.add 0)] (.someA s fun a_19=>.nq a_19 a (.nds [.val (.pointer s),.val (.pointer (some ((a_3.add (deed.toNat*8)).add 4)))] (.need (0<=deed/\deed<(↑n_2:Int)) (.someA p_1 fun a=>.ne (.pointer (some (a.add (deed.toNat*8)))) (.pointer (some (a_3.add (deed.toNat*8)))) (.nd deed (.loadS (((a_2.add 0).add 0).add 3) fun p n c=>.ne (.slice p n c) (.slice p_1 n_2 c_1) (.nds [.val (.pointer (some (((a_2.add 0).add 0).add 3))),.O ((a_2.add 0).add 0),.O (a_2.add 0)] (.someA s fun a=>.nq a a_2 (.nd (.pointer s) (.ag [n_4,n_14])))))))))))))))))))))))))))))))))))))))))))))))))))))))))))))))))))))))))) (.both (.li ((a_3.add (deed.toNat*8)).add 4) fun n_4=>.ne n_4 n_3 (.nd (.pointer (some ((a_3.add (deed.toNat*8)).add 4))) (.need (0<=deed/\deed<(↑n_2:Int)) (.someA p_1 fun a_4=>.ne (.pointer (some (a_4.add (deed.toNat*8)))) (.pointer (some (a_3.add (deed.toNat*8)))) (.nd deed (.loadS (((a_2.add 0).add 0).add 3) fun p_2 n_5 c_2=>.ne (.slice p_2 n_5 c_2) (.slice p_1 n_2 c_1) (.nds [.val (.pointer (some (((a_2.add 0).add 0).add 3))),.O ((a_2.add 0).add 0),.O (a_2.add 0)] (.someA s fun a_5=>.nq a_5 a_2 (.nds [.val (.pointer s),.val (.pointer s)] (.li ((a_1.add (deed.toNat*8)).add 3) fun n_6=>.ne n_6 n_1 (.nd (.pointer (some ((a_1.add (deed.toNat*8)).add 3))) (.need (0<=deed/\deed<(↑n:Int)) (.someA p fun a_6=>.ne (.pointer (some (a_6.add (deed.toNat*8)))) (.pointer (some (a_1.add (deed.toNat*8)))) (.nd deed (.loadS (((a.add 0).add 0).add 3) fun p_3 n_7 c_3=>.ne (.slice p_3 n_7 c_3) (.slice p n c) (.nds [.val (.pointer (some (((a.add 0).add 0).add 3))),.O ((a.add 0).add 0),.O (a.add 0)] (.someA s fun a_7=>.nq a_7 a (.nds [.val (.pointer s),.val (.pointer s)] (.both (.cI 90 #[.pointer s,n_1] fun n_8=>.li ((a_3.add (deed.toNat*8)).add 4) fun n_9=>.ne n_9 n_3 (.nd (.pointer (some ((a_3.add (deed.toNat*8)).add 4))) (.need (0<=deed/\deed<(↑n_2:Int)) (.someA p_1 fun a_8=>.ne (.pointer (some (a_8.add (deed.toNat*8)))) (.pointer (some (a_3.add (deed.toNat*8)))) (.nd deed (.loadS (((a_2.add 0).add 0).add 3) fun p_4 n_10 c_4=>.ne (.slice p_4 n_10 c_4) (.slice p_1 n_2 c_1) (.nds [.val (.pointer (some (((a_2.add 0).add 0).add 3))),.O ((a_2.add 0).add 0),.O (a_2.add 0)] (.someA s fun a_9=>.nq a_9 a_2 (.nds [.val (.pointer s),.val (.pointer s),.val (.pointer (some ((a_1.add (deed.toNat*8)).add 3)))] (.need (0<=deed/\deed<(↑n:Int)) (.someA p fun a_10=>.ne (.pointer (some (a_10.add (deed.toNat*8)))) (.pointer (some (a_1.add (deed.toNat*8)))) (.nd deed (.loadS (((a.add 0).add 0).add 3) fun p_5 n_11 c_5=>.ne (.slice p_5 n_11 c_5) (.slice p n c) (.nds [.val (.pointer (some (((a.add 0).add 0).add 3))),.O ((a.add 0).add 0),.O (a.add 0)] (.someA s fun a_11=>.nq a_11 a (.nd (.pointer s) (.both (.cI 90 #[.pointer s,n_3] fun n_12=>.nd (.pointer (some ((a_3.add (deed.toNat*8)).add 4))) (.need (0<=deed/\deed<(↑n_2:Int)) (.someA p_1 fun a_12=>.ne (.pointer (some (a_12.add (deed.toNat*8)))) (.pointer (some (a_3.add (deed.toNat*8)))) (.nd deed (.loadS (((a_2.add 0).add 0).add 3) fun p_6 n_13 c_6=>.ne (.slice p_6 n_13 c_6) (.slice p_1 n_2 c_1) (.nds [.val (.pointer (some (((a_2.add 0).add 0).add 3))),.O ((a_2.add 0).add 0),.O (a_2.add 0)] (.someA s fun a_13=>.nq a_13 a_2 (.nds [.val (.pointer s),.val (.pointer (some ((a_1.add (deed.toNat*8)).add 3)))] (.need (0<=deed/\deed<(↑n:Int)) (.someA p fun a_14=>.ne (.pointer (some (a_14.add (deed.toNat*8)))) (.pointer (some (a_1.add (deed.toNat*8)))) (.nd deed (.loadS (((a.add 0).add 0).add 3) fun p_7 n_14 c_7=>.ne (.slice p_7 n_14 c_7) (.slice p n c) (.nds [.val (.pointer (some (((a.add 0).add 0).add 3))),.O ((a.add 0).add 0),.O (a.add 0)] (.someA s fun a_15=>.nq a_15 a (.nds [.val (.pointer s),.val (.pointer (some ((a_3.add (deed.toNat*8)).add 4)))] (.need (0<=deed/\deed<(↑n_2:Int)) (.someA p_1 fun a_16=>.ne (.pointer (some (a_16.add (deed.toNat*8)))) (.pointer (some (a_3.add (deed.toNat*8)))) (.nd deed (.loadS (((a_2.add 0).add 0).add 3) fun p_8 n_15 c_8=>.ne (.slice p_8 n_15 c_8) (.slice p_1 n_2 c_1) (.nds [.val (.pointer (some (((a_2.add 0).add 0).add 3))),.O ((a_2.add 0).add 0),.O (a_2.add 0)] (.someA s fun a_17=>.nq a_17 a_2 (.nds [.val (.pointer s),.val (.pointer (some ((a_1.add (deed.toNat*8)).add 3)))] (.need (0<=deed/\deed<(↑n:Int)) (.someA p fun a_18=>.ne (.pointer (some (a_18.add (deed.toNat*8)))) (.pointer (some (a_1.add (deed.toNat*8)))) (.nd deed (.loadS (((a.add 0).add 0).add 3) fun p_9 n_16 c_9=>.ne (.slice p_9 n_16 c_9) (.slice p n c) (.nds [.val (.pointer (some (((a.add 0).add 0).add 3))),.O ((a.add 0).add 0),.O (a.add 0)] (.someA s fun a_19=>.nq a_19 a (.nds [.val (.pointer s),.val (.pointer (some ((a_3.add (deed.toNat*8)).add 4)))] (.need (0<=deed/\deed<(↑n_2:Int)) (.someA p_1 fun a=>.ne (.pointer (some (a.add (deed.toNat*8)))) (.pointer (some (a_3.add (deed.toNat*8)))) (.nd deed (.loadS (((a_2.add 0).add 0).add 3) fun p n c=>.ne (.slice p n c) (.slice p_1 n_2 c_1) (.nds [.val (.pointer (some (((a_2.add 0).add 0).add 3))),.O ((a_2.add 0).add 0),.O (a_2.add 0)] (.someA s fun a=>.nq a a_2 (.nd (.pointer s) (.ag [n_8,n_12]))))))))))))))))))))))))))))))))))))) (.li ((a_3.add (deed.toNat*8)).add 4) fun n_12=>.ne n_12 n_3 (.nd (.pointer (some ((a_3.add (deed.toNat*8)).add 4))) (.need (0<=deed/\deed<(↑n_2:Int)) (.someA p_1 fun a_12=>.ne (.pointer (some (a_12.add (deed.toNat*8)))) (.pointer (some (a_3.add (deed.toNat*8)))) (.nd deed (.loadS (((a_2.add 0).add 0).add 3) fun p_6 n_13 c_6=>.ne (.slice p_6 n_13 c_6) (.slice p_1 n_2 c_1) (.nds [.val (.pointer (some (((a_2.add 0).add 0).add 3))),.O ((a_2.add 0).add 0),.O (a_2.add 0)] (.someA s fun a_13=>.nq a_13 a_2 (.nds [.val (.pointer s),.val (.pointer s),.val (.pointer (some ((a_1.add (deed.toNat*8)).add 3)))] (.need (0<=deed/\deed<(↑n:Int)) (.someA p fun a_14=>.ne (.pointer (some (a_14.add (deed.toNat*8)))) (.pointer (some (a_1.add (deed.toNat*8)))) (.nd deed (.loadS (((a.add 0).add 0).add 3) fun p_7 n_14 c_7=>.ne (.slice p_7 n_14 c_7) (.slice p n c) (.nds [.val (.pointer (some (((a.add 0).add 0).add 3))),.O ((a.add 0).add 0),.O (a.add 0)] (.someA s fun a_15=>.nq a_15 a (.nd (.pointer s) (.cI 90 #[.pointer s,n_3] fun n_15=>.nd (.pointer (some ((a_3.add (deed.toNat*8)).add 4))) (.need (0<=deed/\deed<(↑n_2:Int)) (.someA p_1 fun a_16=>.ne (.pointer (some (a_16.add (deed.toNat*8)))) (.pointer (some (a_3.add (deed.toNat*8)))) (.nd deed (.loadS (((a_2.add 0).add 0).add 3) fun p_8 n_16 c_8=>.ne (.slice p_8 n_16 c_8) (.slice p_1 n_2 c_1) (.nds [.val (.pointer (some (((a_2.add 0).add 0).add 3))),.O ((a_2.add 0).add 0),.O (a_2.add 0)] (.someA s fun a_17=>.nq a_17 a_2 (.nds [.val (.pointer s),.val (.pointer (some ((a_1.add (deed.toNat*8)).add 3)))] (.need (0<=deed/\deed<(↑n:Int)) (.someA p fun a_18=>.ne (.pointer (some (a_18.add (deed.toNat*8)))) (.pointer (some (a_1.add (deed.toNat*8)))) (.nd deed (.loadS (((a.add 0).add 0).add 3) fun p_9 n_17 c_9=>.ne (.slice p_9 n_17 c_9) (.slice p n c) (.nds [.val (.pointer (some (((a.add 0).add 0).add 3))),.O ((a.add 0).add 0),.O (a.add 0)] (.someA s fun a_19=>.nq a_19 a (.nds [.val (.pointer s),.val (.pointer (some ((a_3.add (deed.toNat*8)).add 4)))] (.need (0<=deed/\deed<(↑n_2:Int)) (.someA p_1 fun a=>.ne (.pointer (some (a.add (deed.toNat*8)))) (.pointer (some (a_3.add (deed.toNat*8)))) (.nd deed (.loadS (((a_2.add 0).add 0).add 3) fun p n c=>.ne (.slice p n c) (.slice p_1 n_2 c_1) (.nds [.val (.pointer (some (((a_2.add 0).add 0).add 3))),.O ((a_2.add 0).add 0),.O (a_2.add 0)] (.someA s fun a=>.nq a a_2 (.nd (.pointer s) (.ag [n_8,n_15])))))))))))))))))))))))))))))))))))))))))))))))))))))))) (.li ((a_3.add (deed.toNat*8)).add 4) fun n_8=>.ne n_8 n_3 (.nd (.pointer (some ((a_3.add (deed.toNat*8)).add 4))) (.need (0<=deed/\deed<(↑n_2:Int)) (.someA p_1 fun a_8=>.ne (.pointer (some (a_8.add (deed.toNat*8)))) (.pointer (some (a_3.add (deed.toNat*8)))) (.nd deed (.loadS (((a_2.add 0).add 0).add 3) fun p_4 n_9 c_4=>.ne (.slice p_4 n_9 c_4) (.slice p_1 n_2 c_1) (.nds [.val (.pointer (some (((a_2.add 0).add 0).add 3))),.O ((a_2.add 0).add 0),.O (a_2.add 0)] (.someA s fun a_9=>.nq a_9 a_2 (.nds [.val (.pointer s),.val (.pointer s)] (.li ((a_1.add (deed.toNat*8)).add 3) fun n_10=>.ne n_10 n_1 (.nd (.pointer (some ((a_1.add (deed.toNat*8)).add 3))) (.need (0<=deed/\deed<(↑n:Int)) (.someA p fun a_10=>.ne (.pointer (some (a_10.add (deed.toNat*8)))) (.pointer (some (a_1.add (deed.toNat*8)))) (.nd deed (.loadS (((a.add 0).add 0).add 3) fun p_5 n_11 c_5=>.ne (.slice p_5 n_11 c_5) (.slice p n c) (.nds [.val (.pointer (some (((a.add 0).add 0).add 3))),.O ((a.add 0).add 0),.O (a.add 0)] (.someA s fun a_11=>.nq a_11 a (.nds [.val (.pointer s),.val (.pointer s)] (.cI 90 #[.pointer s,n_1] fun n_12=>.li ((a_3.add (deed.toNat*8)).add 4) fun n_13=>.ne n_13 n_3 (.nd (.pointer (some ((a_3.add (deed.toNat*8)).add 4))) (.need (0<=deed/\deed<(↑n_2:Int)) (.someA p_1 fun a_12=>.ne (.pointer (some (a_12.add (deed.toNat*8)))) (.pointer (some (a_3.add (deed.toNat*8)))) (.nd deed (.loadS (((a_2.add 0).add 0).add 3) fun p_6 n_14 c_6=>.ne (.slice p_6 n_14 c_6) (.slice p_1 n_2 c_1) (.nds [.val (.pointer (some (((a_2.add 0).add 0).add 3))),.O ((a_2.add 0).add 0),.O (a_2.add 0)] (.someA s fun a_13=>.nq a_13 a_2 (.nds [.val (.pointer s),.val (.pointer s),.val (.pointer (some ((a_1.add (deed.toNat*8)).add 3)))] (.need (0<=deed/\deed<(↑n:Int)) (.someA p fun a_14=>.ne (.pointer (some (a_14.add (deed.toNat*8)))) (.pointer (some (a_1.add (deed.toNat*8)))) (.nd deed (.loadS (((a.add 0).add 0).add 3) fun p_7 n_15 c_7=>.ne (.slice p_7 n_15 c_7) (.slice p n c) (.nds [.val (.pointer (some (((a.add 0).add 0).add 3))),.O ((a.add 0).add 0),.O (a.add 0)] (.someA s fun a_15=>.nq a_15 a (.nd (.pointer s) (.cI 90 #[.pointer s,n_3] fun n_16=>.nd (.pointer (some ((a_3.add (deed.toNat*8)).add 4))) (.need (0<=deed/\deed<(↑n_2:Int)) (.someA p_1 fun a_16=>.ne (.pointer (some (a_16.add (deed.toNat*8)))) (.pointer (some (a_3.add (deed.toNat*8)))) (.nd deed (.loadS (((a_2.add 0).add 0).add 3) fun p_8 n_17 c_8=>.ne (.slice p_8 n_17 c_8) (.slice p_1 n_2 c_1) (.nds [.val (.pointer (some (((a_2.add 0).add 0).add 3))),.O ((a_2.add 0).add 0),.O (a_2.add 0)] (.someA s fun a_17=>.nq a_17 a_2 (.nds [.val (.pointer s),.val (.pointer (some ((a_1.add (deed.toNat*8)).add 3)))] (.need (0<=deed/\deed<(↑n:Int)) (.someA p fun a_18=>.ne (.pointer (some (a_18.add (deed.toNat*8)))) (.pointer (some (a_1.add (deed.toNat*8)))) (.nd deed (.loadS (((a.add 0).add 0).add 3) fun p_9 n_18 c_9=>.ne (.slice p_9 n_18 c_9) (.slice p n c) (.nds [.val (.pointer (some (((a.add 0).add 0).add 3))),.O ((a.add 0).add 0),.O (a.add 0)] (.someA s fun a_19=>.nq a_19 a (.nds [.val (.pointer s),.val (.pointer (some ((a_3.add (deed.toNat*8)).add 4)))] (.need (0<=deed/\deed<(↑n_2:Int)) (.someA p_1 fun a=>.ne (.pointer (some (a.add (deed.toNat*8)))) (.pointer (some (a_3.add (deed.toNat*8)))) (.nd deed (.loadS (((a_2.add 0).add 0).add 3) fun p n c=>.ne (.slice p n c) (.slice p_1 n_2 c_1) (.nds [.val (.pointer (some (((a_2.add 0).add 0).add 3))),.O ((a_2.add 0).add 0),.O (a_2.add 0)] (.someA s fun a=>.nq a a_2 (.nd (.pointer s) (.ag [n_12,n_16])))))))))))))))))))))))))))))))))))))))))))))))))))))))))))))))))))))))))))) (.li ((a_3.add (deed.toNat*8)).add 4) fun n_4=>.ne n_4 n_3 (.nd (.pointer (some ((a_3.add (deed.toNat*8)).add 4))) (.need (0<=deed/\deed<(↑n_2:Int)) (.someA p_1 fun a_4=>.ne (.pointer (some (a_4.add (deed.toNat*8)))) (.pointer (some (a_3.add (deed.toNat*8)))) (.nd deed (.loadS (((a_2.add 0).add 0).add 3) fun p_2 n_5 c_2=>.ne (.slice p_2 n_5 c_2) (.slice p_1 n_2 c_1) (.nds [.val (.pointer (some (((a_2.add 0).add 0).add 3))),.O ((a_2.add 0).add 0),.O (a_2.add 0)] (.someA s fun a_5=>.nq a_5 a_2 (.nds [.val (.pointer s),.val (.pointer s)] (.li ((a_1.add (deed.toNat*8)).add 3) fun n_6=>.ne n_6 n_1 (.nd (.pointer (some ((a_1.add (deed.toNat*8)).add 3))) (.need (0<=deed/\deed<(↑n:Int)) (.someA p fun a_6=>.ne (.pointer (some (a_6.add (deed.toNat*8)))) (.pointer (some (a_1.add (deed.toNat*8)))) (.nd deed (.loadS (((a.add 0).add 0).add 3) fun p_3 n_7 c_3=>.ne (.slice p_3 n_7 c_3) (.slice p n c) (.nds [.val (.pointer (some (((a.add 0).add 0).add 3))),.O ((a.add 0).add 0),.O (a.add 0)] (.someA s fun a_7=>.nq a_7 a (.nds [.val (.pointer s),.val (.pointer s)] (.both (.cI 90 #[.pointer s,n_1] fun n_8=>.li ((a_3.add (deed.toNat*8)).add 4) fun n_9=>.ne n_9 n_3 (.nd (.pointer (some ((a_3.add (deed.toNat*8)).add 4))) (.need (0<=deed/\deed<(↑n_2:Int)) (.someA p_1 fun a_8=>.ne (.pointer (some (a_8.add (deed.toNat*8)))) (.pointer (some (a_3.add (deed.toNat*8)))) (.nd deed (.loadS (((a_2.add 0).add 0).add 3) fun p_4 n_10 c_4=>.ne (.slice p_4 n_10 c_4) (.slice p_1 n_2 c_1) (.nds [.val (.pointer (some (((a_2.add 0).add 0).add 3))),.O ((a_2.add 0).add 0),.O (a_2.add 0)] (.someA s fun a_9=>.nq a_9 a_2 (.nds [.val (.pointer s),.val (.pointer s),.val (.pointer (some ((a_1.add (deed.toNat*8)).add 3)))] (.need (0<=deed/\deed<(↑n:Int)) (.someA p fun a_10=>.ne (.pointer (some (a_10.add (deed.toNat*8)))) (.pointer (some (a_1.add (deed.toNat*8)))) (.nd deed (.loadS (((a.add 0).add 0).add 3) fun p_5 n_11 c_5=>.ne (.slice p_5 n_11 c_5) (.slice p n c) (.nds [.val (.pointer (some (((a.add 0).add 0).add 3))),.O ((a.add 0).add 0),.O (a.add 0)] (.someA s fun a_11=>.nq a_11 a (.nd (.pointer s) (.both (.cI 90 #[.pointer s,n_3] fun n_12=>.nd (.pointer (some ((a_3.add (deed.toNat*8)).add 4))) (.need (0<=deed/\deed<(↑n_2:Int)) (.someA p_1 fun a_12=>.ne (.pointer (some (a_12.add (deed.toNat*8)))) (.pointer (some (a_3.add (deed.toNat*8)))) (.nd deed (.loadS (((a_2.add 0).add 0).add 3) fun p_6 n_13 c_6=>.ne (.slice p_6 n_13 c_6) (.slice p_1 n_2 c_1) (.nds [.val (.pointer (some (((a_2.add 0).add 0).add 3))),.O ((a_2.add 0).add 0),.O (a_2.add 0)] (.someA s fun a_13=>.nq a_13 a_2 (.nds [.val (.pointer s),.val (.pointer (some ((a_1.add (deed.toNat*8)).add 3)))] (.need (0<=deed/\deed<(↑n:Int)) (.someA p fun a_14=>.ne (.pointer (some (a_14.add (deed.toNat*8)))) (.pointer (some (a_1.add (deed.toNat*8)))) (.nd deed (.loadS (((a.add 0).add 0).add 3) fun p_7 n_14 c_7=>.ne (.slice p_7 n_14 c_7) (.slice p n c) (.nds [.val (.pointer (some (((a.add 0).add 0).add 3))),.O ((a.add 0).add 0),.O (a.add 0)] (.someA s fun a_15=>.nq a_15 a (.nds [.val (.pointer s),.val (.pointer (some ((a_3.add (deed.toNat*8)).add 4)))] (.need (0<=deed/\deed<(↑n_2:Int)) (.someA p_1 fun a_16=>.ne (.pointer (some (a_16.add (deed.toNat*8)))) (.pointer (some (a_3.add (deed.toNat*8)))) (.nd deed (.loadS (((a_2.add 0).add 0).add 3) fun p_8 n_15 c_8=>.ne (.slice p_8 n_15 c_8) (.slice p_1 n_2 c_1) (.nds [.val (.pointer (some (((a_2.add 0).add 0).add 3))),.O ((a_2.add 0).add 0),.O (a_2.add 0)] (.someA s fun a_17=>.nq a_17 a_2 (.nds [.val (.pointer s),.val (.pointer (some ((a_1.add (deed.toNat*8)).add 3)))] (.need (0<=deed/\deed<(↑n:Int)) (.someA p fun a_18=>.ne (.pointer (some (a_18.add (deed.toNat*8)))) (.pointer (some (a_1.add (deed.toNat*8)))) (.nd deed (.loadS (((a.add 0).add 0).add 3) fun p_9 n_16 c_9=>.ne (.slice p_9 n_16 c_9) (.slice p n c) (.nds [.val (.pointer (some (((a.add 0).add 0).add 3))),.O ((a.add 0).add 0),.O (a.add 0)] (.someA s fun a_19=>.nq a_19 a (.nds [.val (.pointer s),.val (.pointer (some ((a_3.add (deed.toNat*8)).add 4)))] (.need (0<=deed/\deed<(↑n_2:Int)) (.someA p_1 fun a=>.ne (.pointer (some (a.add (deed.toNat*8)))) (.pointer (some (a_3.add (deed.toNat*8)))) (.nd deed (.loadS (((a_2.add 0).add 0).add 3) fun p n c=>.ne (.slice p n c) (.slice p_1 n_2 c_1) (.nds [.val (.pointer (some (((a_2.add 0).add 0).add 3))),.O ((a_2.add 0).add 0),.O (a_2.add 0)] (.someA s fun a=>.nq a a_2 (.nd (.pointer s) (.ag [n_8,n_12]))))))))))))))))))))))))))))))))))))) (.li ((a_3.add (deed.toNat*8)).add 4) fun n_12=>.ne n_12 n_3 (.nd (.pointer (some ((a_3.add (deed.toNat*8)).add 4))) (.need (0<=deed/\deed<(↑n_2:Int)) (.someA p_1 fun a_12=>.ne (.pointer (some (a_12.add (deed.toNat*8)))) (.pointer (some (a_3.add (deed.toNat*8)))) (.nd deed (.loadS (((a_2.add 0).add 0).add 3) fun p_6 n_13 c_6=>.ne (.slice p_6 n_13 c_6) (.slice p_1 n_2 c_1) (.nds [.val (.pointer (some (((a_2.add 0).add 0).add 3))),.O ((a_2.add 0).add 0),.O (a_2.add 0)] (.someA s fun a_13=>.nq a_13 a_2 (.nds [.val (.pointer s),.val (.pointer s),.val (.pointer (some ((a_1.add (deed.toNat*8)).add 3)))] (.need (0<=deed/\deed<(↑n:Int)) (.someA p fun a_14=>.ne (.pointer (some (a_14.add (deed.toNat*8)))) (.pointer (some (a_1.add (deed.toNat*8)))) (.nd deed (.loadS (((a.add 0).add 0).add 3) fun p_7 n_14 c_7=>.ne (.slice p_7 n_14 c_7) (.slice p n c) (.nds [.val (.pointer (some (((a.add 0).add 0).add 3))),.O ((a.add 0).add 0),.O (a.add 0)] (.someA s fun a_15=>.nq a_15 a (.nd (.pointer s) (.cI 90 #[.pointer s,n_3] fun n_15=>.nd (.pointer (some ((a_3.add (deed.toNat*8)).add 4))) (.need (0<=deed/\deed<(↑n_2:Int)) (.someA p_1 fun a_16=>.ne (.pointer (some (a_16.add (deed.toNat*8)))) (.pointer (some (a_3.add (deed.toNat*8)))) (.nd deed (.loadS (((a_2.add 0).add 0).add 3) fun p_8 n_16 c_8=>.ne (.slice p_8 n_16 c_8) (.slice p_1 n_2 c_1) (.nds [.val (.pointer (some (((a_2.add 0).add 0).add 3))),.O ((a_2.add 0).add 0),.O (a_2.add 0)] (.someA s fun a_17=>.nq a_17 a_2 (.nds [.val (.pointer s),.val (.pointer (some ((a_1.add (deed.toNat*8)).add 3)))] (.need (0<=deed/\deed<(↑n:Int)) (.someA p fun a_18=>.ne (.pointer (some (a_18.add (deed.toNat*8)))) (.pointer (some (a_1.add (deed.toNat*8)))) (.nd deed (.loadS (((a.add 0).add 0).add 3) fun p_9 n_17 c_9=>.ne (.slice p_9 n_17 c_9) (.slice p n c) (.nds [.val (.pointer (some (((a.add 0).add 0).add 3))),.O ((a.add 0).add 0),.O (a.add 0)] (.someA s fun a_19=>.nq a_19 a (.nds [.val (.pointer s),.val (.pointer (some ((a_3.add (deed.toNat*8)).add 4)))] (.need (0<=deed/\deed<(↑n_2:Int)) (.someA p_1 fun a=>.ne (.pointer (some (a.add (deed.toNat*8)))) (.pointer (some (a_3.add (deed.toNat*8)))) (.nd deed (.loadS (((a_2.add 0).add 0).add 3) fun p n c=>.ne (.slice p n c) (.slice p_1 n_2 c_1) (.nds [.val (.pointer (some (((a_2.add 0).add 0).add 3))),.O ((a_2.add 0).add 0),.O (a_2.add 0)] (.someA s fun a=>.nq a a_2 (.nd (.pointer s) (.ag [n_8,n_15])))))))))))))))))))))))))))))))))))))))))))))))))))))))) (.li ((a_3.add (deed.toNat*8)).add 4) fun n_8=>.ne n_8 n_3 (.nd (.pointer (some ((a_3.add (deed.toNat*8)).add 4))) (.need (0<=deed/\deed<(↑n_2:Int)) (.someA p_1 fun a_8=>.ne (.pointer (some (a_8.add (deed.toNat*8)))) (.pointer (some (a_3.add (deed.toNat*8)))) (.nd deed (.loadS (((a_2.add 0).add 0).add 3) fun p_4 n_9 c_4=>.ne (.slice p_4 n_9 c_4) (.slice p_1 n_2 c_1) (.nds [.val (.pointer (some (((a_2.add 0).add 0).add 3))),.O ((a_2.add 0).add 0),.O (a_2.add 0)] (.someA s fun a_9=>.nq a_9 a_2 (.nds [.val (.pointer s),.val (.pointer s)] (.li ((a_1.add (deed.toNat*8)).add 3) fun n_10=>.ne n_10 n_1 (.nd (.pointer (some ((a_1.add (deed.toNat*8)).add 3))) (.need (0<=deed/\deed<(↑n:Int)) (.someA p fun a_10=>.ne (.pointer (some (a_10.add (deed.toNat*8)))) (.pointer (some (a_1.add (deed.toNat*8)))) (.nd deed (.loadS (((a.add 0).add 0).add 3) fun p_5 n_11 c_5=>.ne (.slice p_5 n_11 c_5) (.slice p n c) (.nds [.val (.pointer (some (((a.add 0).add 0).add 3))),.O ((a.add 0).add 0),.O (a.add 0)] (.someA s fun a_11=>.nq a_11 a (.nds [.val (.pointer s),.val (.pointer s)] (.cI 90 #[.pointer s,n_1] fun n_12=>.li ((a_3.add (deed.toNat*8)).add 4) fun n_13=>.ne n_13 n_3 (.nd (.pointer (some ((a_3.add (deed.toNat*8)).add 4))) (.need (0<=deed/\deed<(↑n_2:Int)) (.someA p_1 fun a_12=>.ne (.pointer (some (a_12.add (deed.toNat*8)))) (.pointer (some (a_3.add (deed.toNat*8)))) (.nd deed (.loadS (((a_2.add 0).add 0).add 3) fun p_6 n_14 c_6=>.ne (.slice p_6 n_14 c_6) (.slice p_1 n_2 c_1) (.nds [.val (.pointer (some (((a_2.add 0).add 0).add 3))),.O ((a_2.add 0).add 0),.O (a_2.add 0)] (.someA s fun a_13=>.nq a_13 a_2 (.nds [.val (.pointer s),.val (.pointer s),.val (.pointer (some ((a_1.add (deed.toNat*8)).add 3)))] (.need (0<=deed/\deed<(↑n:Int)) (.someA p fun a_14=>.ne (.pointer (some (a_14.add (deed.toNat*8)))) (.pointer (some (a_1.add (deed.toNat*8)))) (.nd deed (.loadS (((a.add 0).add 0).add 3) fun p_7 n_15 c_7=>.ne (.slice p_7 n_15 c_7) (.slice p n c) (.nds [.val (.pointer (some (((a.add 0).add 0).add 3))),.O ((a.add 0).add 0),.O (a.add 0)] (.someA s fun a_15=>.nq a_15 a (.nd (.pointer s) (.cI 90 #[.pointer s,n_3] fun n_16=>.nd (.pointer (some ((a_3.add (deed.toNat*8)).add 4))) (.need (0<=deed/\deed<(↑n_2:Int)) (.someA p_1 fun a_16=>.ne (.pointer (some (a_16.add (deed.toNat*8)))) (.pointer (some (a_3.add (deed.toNat*8)))) (.nd deed (.loadS (((a_2.add 0).add 0).add 3) fun p_8 n_17 c_8=>.ne (.slice p_8 n_17 c_8) (.slice p_1 n_2 c_1) (.nds [.val (.pointer (some (((a_2.add 0).add 0).add 3))),.O ((a_2.add 0).add 0),.O (a_2.add 0)] (.someA s fun a_17=>.nq a_17 a_2 (.nds [.val (.pointer s),.val (.pointer (some ((a_1.add (deed.toNat*8)).add 3)))] (.need (0<=deed/\deed<(↑n:Int)) (.someA p fun a_18=>.ne (.pointer (some (a_18.add (deed.toNat*8)))) (.pointer (some (a_1.add (deed.toNat*8)))) (.nd deed (.loadS (((a.add 0).add 0).add 3) fun p_9 n_18 c_9=>.ne (.slice p_9 n_18 c_9) (.slice p n c) (.nds [.val (.pointer (some (((a.add 0).add 0).add 3))),.O ((a.add 0).add 0),.O (a.add 0)] (.someA s fun a_19=>.nq a_19 a (.nds [.val (.pointer s),.val (.pointer (some ((a_3.add (deed.toNat*8)).add 4)))] (.need (0<=deed/\deed<(↑n_2:Int)) (.someA p_1 fun a=>.ne (.pointer (some (a.add (deed.toNat*8)))) (.pointer (some (a_3.add (deed.toNat*8)))) (.nd deed (.loadS (((a_2.add 0).add 0).add 3) fun p n c=>.ne (.slice p n c) (.slice p_1 n_2 c_1) (.nds [.val (.pointer (some (((a_2.add 0).add 0).add 3))),.O ((a_2.add 0).add 0),.O (a_2.add 0)] (.someA s fun a=>.nq a a_2 (.nd (.pointer s) (.ag [n_12,n_16])))))))))))))))))))))))))))))))))))))))))))))))))))))))))))))))))))))))))))))))) (fun vs=>.pi vs fun n vs=>.pi vs fun n_1 vs=>.unNil vs (bif n==n_1 then .someA s fun a=>.loadS (a.add 14) fun p n c=>.sem false (Instr.buildSlice 143 1 #[(0,.agg #[deed,.int .i64 0,.int .i64 (-1),.int .i64 2,.int .i64 (-1)])]) fun v=>.unS v fun a_1 n_2 c_1=>.nds [.val (.agg #[.int .i64 0,.int .i64 (-1)]),deed] (.loadS (a.add 14) fun p_1 n_3 c_2=>.ne (.slice p_1 n_3 c_2) (.slice p n c) (.nO (a.add 14) (.someA s fun a_2=>.nq a_2 a (.nds [.val (.pointer s),.val (.pointer s)] (.sem false (Builtin.append_ #[143,143] 143 #[.slice p n c,.slice a_1 n_2 c_1]) fun v=>.unS v fun a_3 n c=>.nds [.val (.agg #[.int .i64 0,.int .i64 (-1)]),deed,.O (a.add 14)] (.someA s fun a_4=>.nq a_4 a (.nds [.val (.pointer s),.val (.pointer s)] (.someA s fun a=>.store ((a.add 14).add 0) (.slice a_3 n c) (.someA s fun a_5=>.nq a_5 a (.rt (.tuple #[]))))))))))) else .someA s fun a=>.loadS ((a.add 0).add 0) fun p n_2 c=>.loadS ((a.add 0).add 1) fun p_1 n_3 c_1=>.loadS ((a.add 0).add 2) fun p_2 n_4 c_2=>.loadS ((a.add 0).add 3) fun p_3 n_5 c_3=>.cl 181 #[.agg #[.slice p n_2 c,.slice p_1 n_3 c_1,.slice p_2 n_4 c_2,.slice p_3 n_5 c_3]] fun v=>.each v [] (fun xs vs=>.unCons xs fun v vs_1=>.unAgg v fun l=>.pi l fun n_6 vs_2=>.pi vs_2 fun n_7 vs_3=>.unNil vs_3 (.unNil vs_1 (.unNil vs (.cI 51 #[.pointer s,.agg #[n_6,n_7]] fun n_8=>.nd n (bif n_8==n then .someA s fun a=>.loadS (a.add 14) fun p n_9 c=>.sem false (Instr.buildSlice 143 1 #[(0,.agg #[deed,n_6,n_7,.int .i64 0,n])]) fun v=>.unS v fun a_1 n_10 c_4=>.nds [n,.val (.agg #[n_6,n_7]),deed] (.loadS (a.add 14) fun p_4 n_11 c_5=>.ne (.slice p_4 n_11 c_5) (.slice p n_9 c) (.nO (a.add 14) (.someA s fun a_2=>.nq a_2 a (.nds [.val (.pointer s),.val (.pointer s)] (.sem false (Builtin.append_ #[143,143] 143 #[.slice p n_9 c,.slice a_1 n_10 c_4]) fun v=>.unS v fun a_3 n_12 c=>.nds [n,.val (.agg #[n_6,n_7]),deed,.O (a.add 14)] (.someA s fun a_4=>.nq a_4 a (.nds [.val (.pointer s),.val (.pointer s)] (.someA s fun a=>.store ((a.add 14).add 0) (.slice a_3 n_12 c) (.someA s fun a_5=>.nq a_5 a (.cl 89 #[.pointer s,.agg #[n_6,n_7],n_1] fun v=>.unTup v fun l=>.unNil l (.ag []))))))))))) else .ag []))))) (fun vs=>.unNil vs (.someA s fun a=>.need (0<=n/\n<(↑6:Int)) (.store (((a.add 7).add (n.toNat*1)).add 0) (.int .i64 n_1) (.nO (a.add 7) (.someA s fun a_1=>.nq a_1 a (.rt (.tuple #[]))))))) (fun vs=>.unNil vs (.someA s fun a=>.need (0<=n/\n<(↑6:Int)) (.store (((a.add 7).add (n.toNat*1)).add 0) (.int .i64 n_1) (.nO (a.add 7) (.someA s fun a_1=>.nq a_1 a (.rt (.tuple #[]))))))) (fun vs=>.unNil vs (.rt (.tuple #[]))) fun x x_1=>.fail)) (fun vs=>.pi vs fun n vs=>.pi vs fun n vs=>.unNil vs (.rt (.tuple #[]))) fun x x_1=>.fail
theorem w3577(s:Option Addr)(deed:Int):FX X 176 #[.pointer s,deed] h A (n3577 s deed):=fk [2,3,4,5,6] [{ id:=0,slots:=[],ro:=[2,3,4,5],outs:=[],ps:=[.agg [.int .i64,.int .i64]] }] [{ id:=2,slots:=[(20480,.int .i64),(24576,.int .i64)],ro:=[2,3],outs:=[],pps:=[4,5] }] Tryz.f176
def n3578(s:Option Addr)(deed:Int):T:=.new 106 #[.pointer s] fun r=>.new 3 #[deed] fun r_1=>.loadP ⟨r,0,none⟩ fun p=>.li ⟨r_1,0,none⟩ fun n=>.cl 179 #[.pointer p,n,.func (Fn.func 182) #[] #[.pointer (some ⟨r_1,0,none⟩),.pointer (some ⟨r,0,none⟩)]] fun v=>.unTup v fun l=>.unNil l (.rt (.tuple #[]))
theorem w3578(s:Option Addr)(deed:Int):FX X 177 #[.pointer s,deed] h A (n3578 s deed):=fk [] [] [] Tryz.f177
def n3579(a0:Option Addr)(a1:Int):T:=.rt (.tuple #[])
theorem w3579(a0:Option Addr)(a1:Int):FX X 178 #[.pointer a0,a1] h A (n3579 a0 a1):=fk [] [] [] Tryz.f178
def n3580(s:Option Addr)(deed:Int)(do0:Value):T:=.someA s fun a=>.loadS (((a.add 0).add 0).add 3) fun p n c=>.need (0<=deed/\deed<(↑n:Int)) (.someA p fun a=>.loadStr ((a.add (deed.toNat*8)).add 0) fun s_1=>.li ((a.add (deed.toNat*8)).add 1) fun n=>.li ((a.add (deed.toNat*8)).add 2) fun n_1=>.li ((a.add (deed.toNat*8)).add 3) fun n_2=>.li ((a.add (deed.toNat*8)).add 4) fun n_3=>.loadS ((a.add (deed.toNat*8)).add 5) fun p n_4 c=>.li ((a.add (deed.toNat*8)).add 6) fun n_5=>.li ((a.add (deed.toNat*8)).add 7) fun n_6=>.loop [.int .i64 0] (fun vs=>.pi vs fun n_7 vs=>.unNil vs (bif decide (n_7<(↑n_4:Int)) then .need (0<=n_7/\n_7<(↑n_4:Int)) (.someA p fun a=>.li (a.add (n_7.toNat*1)) fun n_8=>.blk (.both (.cI 183 #[.pointer s,.agg #[.string s_1,n,n_1,n_2,n_3,.slice p n_4 c,n_5,n_6],.agg #[n_1,n_8]] fun n=>.nds [.val (.agg #[n_1,n_8]),.val (.pointer s),.val (.agg #[n_1,n_8]),deed] (.both (.cI 51 #[.pointer s,.agg #[n_1,n_8]] fun n_9=>.nds [.val (.agg #[n_1,n_8]),deed,.val (.agg #[deed,n_1,n_8,n,n_9]),.val (.agg #[n_1,n_8]),deed] (.ag [deed,n_1,n_8,n,n_9])) (.nds [.val (.agg #[n_1,n_8]),.val (.pointer s),.val (.agg #[n_1,n_8]),deed] (.cI 51 #[.pointer s,.agg #[n_1,n_8]] fun n_9=>.nds [.val (.agg #[n_1,n_8]),deed] (.ag [deed,n_1,n_8,n,n_9]))))) (.nds [.val (.agg #[n_1,n_8]),.val (.pointer s),.val (.agg #[n_1,n_8]),.val (.agg #[.string s_1,n,n_1,n_2,n_3,.slice p n_4 c,n_5,n_6]),.val (.pointer s),.val (.agg #[n_1,n_8]),deed] (.cI 183 #[.pointer s,.agg #[.string s_1,n,n_1,n_2,n_3,.slice p n_4 c,n_5,n_6],.agg #[n_1,n_8]] fun n=>.nds [.val (.agg #[n_1,n_8]),.val (.pointer s),.val (.agg #[n_1,n_8]),deed] (.cI 51 #[.pointer s,.agg #[n_1,n_8]] fun n_9=>.nds [.val (.agg #[n_1,n_8]),deed] (.ag [deed,n_1,n_8,n,n_9]))))) (fun vs=>.pi vs fun n vs=>.pi vs fun n_9 vs=>.pi vs fun n_10 vs=>.pi vs fun n_11 vs=>.pi vs fun n_12 vs=>.unNil vs (.blk (bif n_11==0 then .callv false do0 #[.agg #[n_1,n_8]] fun v=>.unTup v fun l=>.unNil l (.ag []) else .ag []) (fun vs=>.unNil vs (.someA s fun a=>.loadS (a.add 14) fun p n_13 c=>.sem false (Instr.buildSlice 143 1 #[(0,.agg #[n,n_9,n_10,n_11,n_12])]) fun v=>.unS v fun a_1 n c_1=>.loadS (a.add 14) fun p_1 n_14 c_2=>.ne (.slice p_1 n_14 c_2) (.slice p n_13 c) (.nO (a.add 14) (.someA s fun a_2=>.nq a_2 a (.nds [.val (.pointer s),.val (.pointer s)] (.sem false (Builtin.append_ #[143,143] 143 #[.slice p n_13 c,.slice a_1 n c_1]) fun v=>.unS v fun a_3 n c=>.nO (a.add 14) (.someA s fun a_4=>.nq a_4 a (.nds [.val (.pointer s),.val (.pointer s)] (.someA s fun a=>.store ((a.add 14).add 0) (.slice a_3 n c) (.someA s fun a_5=>.nq a_5 a (.ag [.int .i64 (wrap .i64 (n_7+1))]))))))))))) (fun vs=>.unNil vs (.rn [n_7])) fun x x_1=>.fail)) (fun vs=>.pi vs fun n vs=>.pi vs fun n vs=>.pi vs fun n vs=>.pi vs fun n vs=>.pi vs fun n vs=>.unNil vs (.rn [n_7])) fun x x_1=>.fail) else .bk [n_7])) (fun vs=>.pi vs fun n vs=>.unNil vs (.rt (.tuple #[]))) (fun vs=>.pi vs fun n vs=>.unNil vs (.rt (.tuple #[]))) fun x x_1=>.fail)
theorem w3580(s:Option Addr)(deed:Int)(do0:Value):FX X 179 #[.pointer s,deed,do0] h A (n3580 s deed do0):=fk [6,9,10] [⟨0,[(23,.int .i64)],[6],[],[],[]⟩] [⟨8,[],[6,9,10],[],[],[]⟩,{ id:=6,slots:=[(45056,.int .i64),(45057,.int .i64),(45058,.int .i64),(45059,.int .i64),(45060,.int .i64)],ro:=[6,9],outs:=[],pps:=[10] }] Tryz.f179
def n3581(p_0 p_1:Int)(z0 z1:Addr):T:=.loadP z0 fun p=>.loadP z0 fun p_2=>.loadP z0 fun p_3=>.someA p_3 fun a=>.loadS (((a.add 0).add 0).add 3) fun p_4 n c=>.li z1 fun n_1=>.need (0<=n_1/\n_1<(↑n:Int)) (.someA p_4 fun a_1=>.li ((a_1.add (n_1.toNat*8)).add 4) fun n_2=>.cI 90 #[.pointer p_2,n_2] fun n_3=>.nd (.pointer (some ((a_1.add (n_1.toNat*8)).add 4))) (.need (0<=n_1/\n_1<(↑n:Int)) (.someA p_4 fun a_2=>.ne (.pointer (some (a_2.add (n_1.toNat*8)))) (.pointer (some (a_1.add (n_1.toNat*8)))) (.li z1 fun n_4=>.ne n_4 n_1 (.loadS (((a.add 0).add 0).add 3) fun p_5 n_5 c_1=>.ne (.slice p_5 n_5 c_1) (.slice p_4 n c) (.nds [.val (.pointer (some (((a.add 0).add 0).add 3))),.O ((a.add 0).add 0),.O (a.add 0)] (.someA p_3 fun a_3=>.nq a_3 a (.loadP z0 fun p_6=>.ne (.pointer p_6) (.pointer p_3) (.nd (.agg #[p_0,p_1]) (.loadP z0 fun p_7=>.ne (.pointer p_7) (.pointer p) (.cl 89 #[.pointer p,.agg #[p_0,p_1],n_3] fun v=>.unTup v fun l=>.unNil l (.nd (.pointer (some ((a_1.add (n_1.toNat*8)).add 4))) (.need (0<=n_1/\n_1<(↑n:Int)) (.someA p_4 fun a_4=>.ne (.pointer (some (a_4.add (n_1.toNat*8)))) (.pointer (some (a_1.add (n_1.toNat*8)))) (.li z1 fun n_6=>.ne n_6 n_1 (.loadS (((a.add 0).add 0).add 3) fun p n_7 c_2=>.ne (.slice p n_7 c_2) (.slice p_4 n c) (.nds [.val (.pointer (some (((a.add 0).add 0).add 3))),.O ((a.add 0).add 0),.O (a.add 0)] (.someA p_3 fun a_5=>.nq a_5 a (.loadP z0 fun p=>.ne (.pointer p) (.pointer p_3) (.rt (.tuple #[])))))))))))))))))))))
theorem w3581(p_0 p_1:Int)(z0 z1:Addr):FX X 180 #[.agg #[p_0,p_1],.pointer (some z0),.pointer (some z1)] h A (n3581 p_0 p_1 z0 z1):=fk [3] [] [] Tryz.f180
def n3582(b_0p:Option Addr)(b_0n b_0c:Nat)(b_1p:Option Addr)(b_1n b_1c:Nat)(b_2p:Option Addr)(b_2n b_2c:Nat)(b_3p:Option Addr)(b_3n b_3c:Nat):T:=.new 101 #[.slice b_0p b_0n b_0c,.slice b_1p b_1n b_1c,.slice b_2p b_2n b_2c,.slice b_3p b_3n b_3c] fun r=>.rt (.func (Fn.func 184) #[] #[.pointer (some ⟨r,0,none⟩)])
theorem w3582(b_0p:Option Addr)(b_0n b_0c:Nat)(b_1p:Option Addr)(b_1n b_1c:Nat)(b_2p:Option Addr)(b_2n b_2c:Nat)(b_3p:Option Addr)(b_3n b_3c:Nat):FX X 181 #[.agg #[.slice b_0p b_0n b_0c,.slice b_1p b_1n b_1c,.slice b_2p b_2n b_2c,.slice b_3p b_3n b_3c]] h A (n3582 b_0p b_0n b_0c b_1p b_1n b_1c b_2p b_2n b_2c b_3p b_3n b_3c):=fk [] [] [] Tryz.f181
def n3583(p_0 p_1:Int)(z0 z1:Addr):T:=.loadP z1 fun p=>.someA p fun a=>.loadM (a.add 6) fun p=>.li z0 fun n=>.sem false (Sem.bind (Instr.mapUpdate 139 (.map p) (.agg #[p_0,p_1]) (.int .i64 n)) fun __r=>pure (.tuple #[])) fun x=>.rt (.tuple #[])
theorem w3583(p_0 p_1:Int)(z0 z1:Addr):FX X 182 #[.agg #[p_0,p_1],.pointer (some z0),.pointer (some z1)] h A (n3583 p_0 p_1 z0 z1):=fk [3] [] [] Tryz.f182
def n3584(s:Option Addr)(d_0:ByteArray)(d_1 d_2 d_3 d_4:Int)(d_5p:Option Addr)(d_5n d_5c:Nat)(d_6 d_7 p_0 p_1:Int):T:=.cI 90 #[.pointer s,d_3] fun n=>.nds [.val (.agg #[p_0,p_1]),.val (.pointer s),d_4,.pp 4 4,.val (.pointer s),.pp 4 3] (.cI 90 #[.pointer s,d_4] fun n_1=>.nds [.val (.agg #[p_0,p_1]),.val (.pointer s),.pp 4 4,.pp 4 3] (.cI 51 #[.pointer s,.agg #[p_0,p_1]] fun n_2=>.nds [.pp 4 4,.pp 4 3,.pp 4 4] (.someA s fun a=>.loadM (a.add 6) fun p=>.sem false (Instr.lookup 139 (.map p) (.agg #[p_0,p_1]) true) fun v=>.unTup v fun l=>.unCons l fun v vs=>.ui v fun n_3=>.unCons vs fun v vs=>.unB v fun b=>.unNil vs (.nO (a.add 6) (.someA s fun a_1=>.nq a_1 a (.nds [.val (.pointer s),b] (.blk (bif b then .someA s fun a=>.loadS (((a.add 0).add 0).add 3) fun p n c=>.need (0<=n_3/\n_3<(↑n:Int)) (.someA p fun a=>.li (((a.add (n_3.toNat*8)).add 6).add 1) fun n=>.ag [.bool (decide (d_6<=n))]) else .nds [.U,.U,.U,.U,.U,.U,.U,.U,.U,.U,.U,.U,b] (.ag [false])) (fun vs=>.popB vs fun b vs=>.unNil vs (bif decide (n_2<0) then .rt (.int .i64 1) else bif n==n_1 then .rt (.int .i64 2) else .blk (bif n_2 != n then .someA s fun a=>.loadM (a.add 5) fun p=>.sem false (Instr.lookup 140 (.map p) (.agg #[p_0,p_1,n]) false) fun v=>.unB v fun b=>.nds [n,.val (.agg #[p_0,p_1]),.O (a.add 5)] (.someA s fun a_2=>.nq a_2 a (.nds [.val (.pointer s),.B (n_2 != n),n,n_2,n,.val (.agg #[p_0,p_1]),.O (a.add 5)] (.someA s fun a_3=>.nq a_3 a (.nds [.val (.pointer s),.B (n_2 != n),n,n_2] (.ag [b]))))) else .nds [.U,.U,.U,.U,.U,.B (n_2 != n),n,n_2,.U,.U,.U,.U,.U,.B (n_2 != n),n,n_2] (.ag [false])) (fun vs=>.popB vs fun b_1 vs=>.unNil vs (bif b_1 then .rt (.int .i64 3) else bif n_2 != n then .rt (.int .i64 4) else bif b then bif d_1==2 then .rt (.int .i64 5) else .someA s fun a=>.loadS (((a.add 0).add 0).add 3) fun p n c=>.need (0<=n_3/\n_3<(↑n:Int)) (.someA p fun a=>.li ((a.add (n_3.toNat*8)).add 4) fun n=>.cI 90 #[.pointer s,n] fun n=>bif n != n_1 then .rt (.int .i64 5) else .rt (.int .i64 0)) else .rt (.int .i64 0))) (fun vs=>.popB vs fun b vs=>.unNil vs (.rt (.int .i64 0))) fun x x_1=>.fail)) (fun vs=>.popB vs fun b vs=>.unNil vs (.rt (.int .i64 0))) fun x x_1=>.fail)))))))
theorem w3584(s:Option Addr)(d_0:ByteArray)(d_1 d_2 d_3 d_4:Int)(d_5p:Option Addr)(d_5n d_5c:Nat)(d_6 d_7 p_0 p_1:Int):FX X 183 #[.pointer s,.agg #[.string d_0,d_1,d_2,d_3,d_4,.slice d_5p d_5n d_5c,d_6,d_7],.agg #[p_0,p_1]] h A (n3584 s d_0 d_1 d_2 d_3 d_4 d_5p d_5n d_5c d_6 d_7 p_0 p_1):=fk [4,5] [] [⟨2000057,[(57,.bool)],[4,5],[],[],[]⟩,⟨4,[(11,.bool)],[4,5],[],[],[]⟩] Tryz.f183
def n3585(yield:Value)(z0:Addr):T:=.loadS ((z0.add 0).add 2) fun p n c=>.loop [.int .i64 0] (fun vs=>.pi vs fun n_1 vs=>.unNil vs (bif decide (n_1<(↑n:Int)) then .loadS ((z0.add 0).add 1) fun p n c=>.loop [.int .i64 0] (fun vs=>.pi vs fun n_2 vs=>.unNil vs (bif decide (n_2<(↑n:Int)) then .callv false yield #[.agg #[n_1,n_2]] fun v=>.unB v fun b=>bif !b then .rn [n_2] else .ag [.int .i64 (wrap .i64 (n_2+1))] else .bk [n_2])) (fun vs=>.pi vs fun n vs=>.unNil vs (.ag [.int .i64 (wrap .i64 (n_1+1))])) (fun vs=>.pi vs fun n vs=>.unNil vs (.rn [n_1])) fun x x_1=>.fail else .bk [n_1])) (fun vs=>.pi vs fun n vs=>.unNil vs (.rt (.tuple #[]))) (fun vs=>.pi vs fun n vs=>.unNil vs (.rt (.tuple #[]))) fun x x_1=>.fail
theorem w3585(yield:Value)(z0:Addr):FX X 184 #[yield,.pointer (some z0)] h A (n3585 yield z0):=fk [] [⟨2,[(16,.int .i64)],[],[],[],[]⟩,⟨0,[(9,.int .i64)],[],[],[],[]⟩] [] Tryz.f184
end Go.Y
end
section
namespace Go.TM
open Go.TM.Ow (Piece St Deed Right Book Heirs)
structure SixS(el:TypeId)(f:Nat->Nat)(h:LH)(r i:Nat):Prop where
 cells:∃ cs,h.get r=some (true,.cells cs el (0,0))/\cs.size=6/\∀ j,j<i->cs[j]?=some (.int .i64 (f j:Nat))
theorem SixS.at{el:TypeId}{f:Nat->Nat}{h:LH}{r i:Nat}(s:SixS el f h r i){j:Nat}(hj:j<i):h.get.cell? (Addr.add ⟨r,0,none⟩ j)=some (.int .i64 (f j:Nat)):=by
 obtain⟨cs,h1,h2,h3⟩:=s.cells;rw[add_plain,Nat.zero_add];exact cell_blk h1 (h3 j hj)
section
variable {P:Program} {X:XP} {Q:Leaf->LH->Prop}
end
variable {tS tP:TypeId} {N:Nat} {h0:Cells} {h h':LH} {k:StA} {f:BookC} {b:Book} {s:St} {hs hs':Nat->Nat}
theorem StR.keep(ho:∀ r x,h.get r=some x->h'.get r=some x)(st:StR tS tP N h0 h k f b s hs):StR tS tP N h0 h' k f b s hs:=by
 obtain⟨p,n,c,h1,h2,h3⟩:=st.blk;obtain⟨F,hF,hF2⟩:=st.had;obtain⟨g,hg,hg2⟩:=st.pledge;exact⟨st.heirs,⟨p,n,c,ho _ _ h1,h2.turn fun _ _ _ hx=>ho _ _ hx,h3⟩,st.owns.le fun x hx=>ho _ _ hx,⟨F,hF.le fun x hx=>ho _ _ hx,hF2⟩,⟨g,hg.le fun x hx=>ho _ _ hx,hg2⟩,st.begun.le fun x hx=>ho _ _ hx,st.new,st.apart,
  fun r hr=>st.dom r (by cases e:h.get r with|none=>rfl|some x=>rw[ho _ _ e]at hr;cases hr),st.types⟩
theorem HoldsO.ne{κ:Type}{enc:κ->Value}{g:Cells}{m r:Nat}{F:κ->Option Value}(x:HoldsO enc g m F){cs:Array Value}{el:TypeId}(hr:g r=some (true,.cells cs el (0,0))):m≠r:=by
 rintro rfl;obtain⟨es,c,h1,_⟩:=x;rw[h1]at hr;cases hr
theorem StR.heir{p:Option Addr}{n c:Nat}(st:StR tS tP N h0 h k f b s hs)(hblk:h.get k.sb=some (true,.cells (stCells f k hs p n c).toArray tS (0,0)))(hb:But k.sb h h')(hnew:h'.get k.sb=some (true,.cells (stCells f k hs' p n c).toArray tS (0,0)))(hh:Heirs hs' s.root):StR tS tP N h0 h' k f b s hs':=by
 obtain⟨p',n',c',h1,h2,h3⟩:=st.blk;rw[hblk]at h1;have e:p=p'/\n=n'/\c=c':=by
  have:(stCells f k hs p n c)=stCells f k hs p' n' c':=by simpa using h1
  unfold stCells at this;simp at this;exact this
 obtain⟨rfl,rfl,rfl⟩:=e;obtain⟨F,hF,hF2⟩:=st.had;obtain⟨g,hg,hg2⟩:=st.pledge;have turn:∀ {m:Nat},m≠k.sb->∀ x,h.get m=some x->h'.get m=some x:=fun hm x hx=>by rw[hb.1 _ hm];exact hx
 refine⟨hh,⟨p,n,c,hnew,h2.turn fun a x ha hx=>turn (fun e=>?_) x hx,h3⟩,st.owns.le (turn (st.owns.ne hblk)),⟨F,hF.le (turn (hF.ne hblk)),hF2⟩,⟨g,hg.le (turn (hg.ne hblk)),hg2⟩,st.begun.le (turn (st.begun.ne hblk)),st.new,st.apart,fun r hr=>?_,st.types⟩
 ·obtain⟨cs,hcs⟩:=h2.block ha;rw[e,hblk]at hcs;have:tS=tP:=by injection hcs with hcs;injection hcs with _ hcs;injection hcs
  exact st.types this
 ·by_cases e:r=k.sb
  ·subst e;exact st.new.1
  ·rw[hb.1 r e]at hr;exact st.dom r hr
end Go.TM
end
section
namespace Go.TM
open Go.TM.Ow (Piece St Deed Right Book Heirs)
variable {tS tP:TypeId} {N:Nat} {h0:Cells} {h h':LH} {k:StA} {f:BookC} {b:Book} {s:St} {hs hs':Nat->Nat}
theorem stCells_heir{p:Option Addr}{n c j:Nat}(hj:j<6):(stCells f k hs p n c).toArray[7+j]?=some (.int .i64 (hs j:Nat)):=by
 match j,hj with
 | 0,_=>rfl
 | 1,_=>rfl
 | 2,_=>rfl
 | 3,_=>rfl
 | 4,_=>rfl
 | 5,_=>rfl
theorem StR.heirAt(st:StR tS tP N h0 h k f b s hs){j:Nat}(hj:j<6):h.get.cell? (Addr.add (Addr.add ⟨k.sb,0,none⟩ 7) j)=some (.int .i64 (hs j:Nat)):=by
 obtain⟨p,n,c,h1,_⟩:=st.blk;rw[add_plain,add_plain,Nat.zero_add];exact cell_blk h1 (stCells_heir hj)
theorem stCells_set{p:Option Addr}{n c j v:Nat}(hj:j<6):(stCells f k hs p n c).toArray.setIfInBounds (7+j) (.int .i64 (v:Nat))=(stCells f k (fun i=>if i=j then v else hs i) p n c).toArray:=by
 match j,hj with
 | 0,_=>simp[stCells]
 | 1,_=>simp[stCells]
 | 2,_=>simp[stCells]
 | 3,_=>simp[stCells]
 | 4,_=>simp[stCells]
 | 5,_=>simp[stCells]
theorem stCells_same{p:Option Addr}{n c:Nat}(hh:∀ j,j<6->hs j=hs' j):stCells f k hs p n c=stCells f k hs' p n c:=by
 unfold stCells;rw[hh 0 (by omega),hh 1 (by omega),hh 2 (by omega),hh 3 (by omega),hh 4 (by omega),hh 5 (by omega)]
structure Blk(tS:TypeId)(g:Cells)(k:StA)(f:BookC)(hs:Nat->Nat)(p:Option Addr)(n c:Nat):Prop where
 is:g k.sb=some (true,.cells (stCells f k hs p n c).toArray tS (0,0))
section
variable {P:Program} {X:XP} {Q:Leaf->LH->Prop}
theorem t_storeHeir{p:Option Addr}{n c j v:Nat}{a:Addr}{kk:T}(bl:Blk tS h.get k f hs p n c)(hj:j<6)(ha:a=Addr.add (Addr.add (Addr.add ⟨k.sb,0,none⟩ 7) j) 0)(hk:∀ h1,But k.sb h h1->Blk tS h1.get k f (fun i=>if i=j then v else hs i) p n c->kk.wp X P Q h1):(T.store a (.int .i64 (v:Nat)) kk).wp X P Q h:=by
 have ea:a=⟨k.sb,7+j,none⟩:=by rw[ha,add_plain,add_plain,add_plain];simp
 subst ea;refine t_storeB bl.is rfl (stCells_heir hj) fun h1 b1 hb1=>hk h1 b1 ⟨?_⟩;rw[hb1,stCells_set hj]
theorem t_storeHeir'{p:Option Addr}{n c j v:Nat}{a:Addr}{kk:T}(bl:Blk tS h.get k f hs p n c)(hj:j<6)(ha:a=Addr.add (Addr.add ⟨k.sb,0,none⟩ 7) j)(hk:∀ h1,But k.sb h h1->Blk tS h1.get k f (fun i=>if i=j then v else hs i) p n c->kk.wp X P Q h1):(T.store a (.int .i64 (v:Nat)) kk).wp X P Q h:=by
 refine t_storeHeir bl hj ?_ hk;rw[ha,add_plain,add_plain,add_plain];simp
theorem t_storeY{el:TypeId}{g g':Nat->Nat}{hB h:LH}{r i m v:Nat}{a:Addr}{kk:T}(sx:SixS el g h r m)(hi:i<6)(ha:a=Addr.add ⟨r,0,none⟩ i)(hB0:hB.get r=none)(hl:hB.le h)(hg:∀ j,j<m->j≠i->g' j=g j)(hgi:g' i=v)(hk:∀ h1,hB.le h1->(∀ m',m'<=m+1->(∀ j,j<m'->j<m\/j=i)->SixS el g' h1 r m')->kk.wp X P Q h1):(T.store a (.int .i64 (v:Nat)) kk).wp X P Q h:=by
 obtain⟨cs,h1,h2,h3⟩:=sx.cells;rw[ha,add_plain,Nat.zero_add];refine t_storeB h1 rfl (Array.getElem?_eq_getElem (by omega:i<cs.size)) fun h2' b hb=>?_;refine hk h2' ⟨fun q x hq=>?_,b.2.1.trans hl.2.1,b.2.2.1.trans hl.2.2.1,b.2.2.2.trans hl.2.2.2⟩ fun m' _ hm=>⟨_,hb,by simpa using h2,fun j hj=>?_⟩
 ·rw[b.1 q (fun e=>by rw[e,hB0]at hq;cases hq)];exact hl.1 q x hq
 ·by_cases e:j=i
  ·subst e;rw[Array.getElem?_setIfInBounds_self_of_lt (by omega),hgi]
  ·rw[Array.getElem?_setIfInBounds_ne (Ne.symm e),hg j ((hm j hj).resolve_right e) e];exact h3 j ((hm j hj).resolve_right e)
theorem t_fill{el:TypeId}{g:Nat->Nat}{hB h:LH}{r i:Nat}{a:Addr}{kk:T}(sx:SixS el g h r i)(hi:i<6)(ha:a=Addr.add ⟨r,0,none⟩ i)(hB0:hB.get r=none)(hl:hB.le h)(hk:∀ h1,hB.le h1->SixS el g h1 r (i+1)->kk.wp X P Q h1):(T.store a (.int .i64 (g i:Nat)) kk).wp X P Q h :=
 t_storeY (g':=g) sx hi ha hB0 hl (fun _ _ _=>rfl) rfl fun h1 l1 s1=>hk h1 l1 (s1 (i+1) (Nat.le_refl _) fun j hj=>by omega)
end
theorem But.trans{m:Nat}{a b c:LH}(h1:But m a b)(h2:But m b c):But m a c:=⟨fun r hr=>(h2.1 r hr).trans (h1.1 r hr),h2.2.1.trans h1.2.1,h2.2.2.1.trans h1.2.2.1,h2.2.2.2.trans h1.2.2.2⟩
end Go.TM
namespace Go.Y.Tre
open Go.TM.Tr
open Go.TM.Ow (Piece St Deed Right Book Heirs)
theorem und1536:Tryz.prog.underlying 142=some (.array 6 3):=by kernel_rfl
theorem inf3':Tryz.prog.underlying 3=some (.int .i64):=by kernel_rfl
theorem flat6(a0 a1 a2 a3 a4 a5:Int):FlatAgg Tryz.prog 142 [.int .i64 a0,.int .i64 a1,.int .i64 a2,.int .i64 a3,.int .i64 a4,.int .i64 a5]:=by
 obtain⟨i,g1,g2,_,_⟩:=info_of inf3;exact .arr 6 3 i und1536 g1 g2 rfl fun v hv=>by
  simp at hv;rcases hv with rfl|rfl|rfl|rfl|rfl|rfl<;>exact .inl ⟨inf3',_,rfl⟩
abbrev StO(N:Nat)(h0:Cells)(h:LH)(k:StA)(f:BookC)(b:Book)(s:St)(hs:Nat->Nat):Prop:=StR 145 235 N h0 h k f b s hs
theorem six_at(g:Nat->Nat){j:Nat}(hj:j<6):(#[Value.int .i64 (g 0:Nat),.int .i64 (g 1:Nat),.int .i64 (g 2:Nat),.int .i64 (g 3:Nat),.int .i64 (g 4:Nat),.int .i64 (g 5:Nat)]:Array Value)[j]?=some (.int .i64 (g j:Nat)):=by
 match j,hj with
 | 0,_=>rfl
 | 1,_=>rfl
 | 2,_=>rfl
 | 3,_=>rfl
 | 4,_=>rfl
 | 5,_=>rfl
theorem c3533{h:LH}{h0:Cells}{N:Nat}{k:StA}{f:BookC}{b:Book}{s:St}{hs:Nat->Nat}(st:StO N h0 h k f b s hs){o:Nat}(ho:o<6) :
  FW X0 Tryz.prog 90 #[.pointer (some ⟨k.sb,0,none⟩),.int .i64 o] h fun r h'=>r=.int .i64 (s.root o:Nat)/\StO N h0 h' k f b s s.root/\Ov h0 h h':=by
 refine w3533 _ _ X0_ok ?_;unfold n3533;refine gS2 rfl ?_
 repeat (refine gL0 (st.heirAt (by decide)) ?_)
 refine t_newG fun r h1 le1 hr0 hr1=>?_;have sx:SixS 142 hs h1 r 0:=⟨_,hr1,rfl,fun j hj=>absurd hj (Nat.not_lt_zero _)⟩
 clear hr1
 repeat (refine t_fill sx (by decide) rfl hr0 le1 ?_;clear sx le1;intro h1 le1 sx)
 refine t_loop (fun mm vs h'=>∃ (hs':Nat->Nat) (r:Nat) (hB:LH),vs=[.int .i64 0,.pointer (some ⟨r,0,none⟩)]/\StO N h0 hB k f b s hs'/\Ov h0 h hB/\hB.get r=none/\hB.le h'/\SixS 142 hs' h' r 6/\(mm=1\/(mm=0/\∀ j,j<6->hs' j=s.root j)))
  ⟨hs,r,h,rfl,st,Ov.refl _ _,hr0,le1,sx,.inl rfl⟩ ?_
 rintro Y mm vs h2 hY ⟨hs',r',hB,rfl,stB,ovB,hrB,leB,sx2,hmm⟩;have hh:=stB.heirs;refine gZ ?_
 repeat (refine gL0 (sx2.at (by decide)) ?_)
 refine t_loopB (fun mm vs h'=>hB.le h'/\∃ i:Nat,vs=[.int .i64 i]/\i<=6/\mm=6-i/\SixS 142 (fun j=>if j<i then s.root j else hs' j) h' r' 6) (fun vs h'=>hB.le h'/\∃ i:Nat,vs=[.int .i64 i]/\SixS 142 s.root h' r' 6)
  ⟨leB,0,rfl,Nat.zero_le _,rfl,by simpa using sx2⟩ ?_ ?_
 ·rintro Y2 mm vs h3 hY2 ⟨le3,i,rfl,hi,rfl,sx3⟩;refine yJ (fun e1=>?_) (fun e1=>?_)
  ·have hi6:i<6:=by omega
   have hsm:=hh.small i hi6;refine t_index (v:=.int .i64 (hs' i:Nat)) und1536 inf3 inf3' (by kernel_rfl) hi6 (six_at hs' hi6) ?_;refine gZ ?_;have hl:=(stB.keep (h':=h3) fun q x hx=>le3.1 q x hx).heirAt hsm;rw[show (hs' i:Int).toNat*1=hs' i by simp];refine gL0 hl ?_;rw[hh.two i hi6];refine gT (by omega) ?_;rw[Int.toNat_natCast,Nat.mul_one];refine t_storeY (g':=fun j=>if j<i+1 then s.root j else hs' j) sx3 hi6 (by rw[add_plain,add_plain];simp[add_plain]) hrB le3 (fun j _ hne=>?_) (by simp) fun h4 le4 s4=>?_
   ·by_cases e:j<i
    ·simp[e,show j<i+1 by omega]
    ·simp[e,show ¬ j<i+1 by omega]
   refine t_again (hY2 (6-(i+1)) _ _ (by omega) ⟨le4,i+1,?_,by omega,rfl,s4 6 (by omega) fun j hj=>.inl hj⟩);rw[wrap_id (by omega) (by omega)];rfl
  ·refine gH ⟨le3,i,rfl,?_⟩;obtain⟨cs,q1,q2,q3⟩:=sx3.cells;refine⟨cs,q1,q2,fun j hj=>?_⟩;have:=q3 j hj;simp only[show j<i by omega,if_true]at this;exact this
 rintro vs h3 ⟨le3,i,rfl,sx3⟩;have st3:=stB.keep (h':=h3) fun q x hx=>le3.1 q x hx;refine gZ ?_
 repeat (refine gL0 (sx3.at (by decide)) ?_)
 refine gS2 rfl ?_
 repeat (refine gL0 (st3.heirAt (by decide)) ?_)
 refine t_eqK (flat6 _ _ _ _ _ _) (flat6 _ _ _ _ _ _) (by kernel_rfl) fun c hc=>?_;have hc':c=true↔∀ j,j<6->s.root j=hs' j:=by
  rw[hc];simp only[List.cons.injEq,Value.int.injEq,true_and,and_true];constructor
  ·rintro⟨a0,a1,a2,a3,a4,a5⟩ j hj
   match j,hj with
   | 0,_=>omega
   | 1,_=>omega
   | 2,_=>omega
   | 3,_=>omega
   | 4,_=>omega
   | 5,_=>omega
  ·intro hj;exact⟨by rw[hj 0 (by omega)],by rw[hj 1 (by omega)],by rw[hj 2 (by omega)],by rw[hj 3 (by omega)],by rw[hj 4 (by omega)],by rw[hj 5 (by omega)]⟩
 refine gZ ?_;have ov3:=ovB.trans (Ov.of_le (h0:=h0) le3);refine t_cond (fun e1=>?_) (fun e1=>?_)
 ·have hsame:=hc'.1 e1;have hl:=sx3.at ho;refine gT (by omega) ?_;rw[Int.toNat_natCast,Nat.mul_one];refine gL0 hl ?_;refine gZ ?_;refine t_ret ⟨rfl,?_,ov3⟩;obtain⟨p,n,c2,q1,q2,q3⟩:=st3.blk;exact { st3 with heirs:=hh.flat,blk:=⟨p,n,c2,by rw[stCells_same (hs:=s.root) (hs':=hs') hsame];exact q1,q2,q3⟩ }
 ·have hne:¬ ∀ j,j<6->s.root j=hs' j:=fun hj=>by rw[hc'.2 hj]at e1;cases e1
  have hm1:mm=1:=hmm.resolve_right fun hj=>hne fun j hj'=>(hj.2 j hj').symm;subst hm1
  repeat (refine gL0 (sx3.at (by decide)) ?_)
  refine gS2 rfl ?_;obtain⟨p,n,c2,q1,q2,q3⟩:=st3.blk;have bl:Blk 145 h3.get k f hs' p n c2:=⟨q1⟩
  refine t_storeHeir' bl (j:=0) (by decide) rfl fun h4 b4 bl4=>?_;refine t_storeHeir' bl4 (j:=1) (by decide) rfl fun h5 b5 bl5=>?_;refine t_storeHeir' bl5 (j:=2) (by decide) rfl fun h6 b6 bl6=>?_;refine t_storeHeir' bl6 (j:=3) (by decide) rfl fun h7 b7 bl7=>?_;refine t_storeHeir' bl7 (j:=4) (by decide) rfl fun h8 b8 bl8=>?_;refine t_storeHeir' bl8 (j:=5) (by decide) rfl fun h9 b9 bl9=>?_;have bb:But k.sb h3 h9:=b4.trans (b5.trans (b6.trans (b7.trans (b8.trans b9))));have hnew:h9.get k.sb=some (true,.cells (stCells f k s.root p n c2).toArray 145 (0,0)):=by
   rw[bl9.is];congr 4
  have st9:StO N h0 h9 k f b s s.root:=st3.heir q1 bb hnew hh.flat;have hrs:r'≠k.sb:=by
   rintro rfl;obtain⟨_,_,_,e,_⟩:=stB.blk;rw[hrB]at e;cases e
  have sx9:SixS 142 s.root h9 r' 6:=by
   obtain⟨cs,w1,w2,w3⟩:=sx3.cells;exact⟨cs,by rw[bb.1 _ hrs];exact w1,w2,w3⟩
  have ov9:=ov3.trans (bb.ov st.new.1);clear b4 b5 b6 b7 b8 b9 bl bl4 bl5 bl6 bl7 bl8 bl9
  repeat (refine gL0 (sx9.at (by decide)) ?_)
  refine t_newG fun r2 h10 le10 hr2 hr20=>?_;have sy:SixS 142 s.root h10 r2 0:=⟨_,hr20,rfl,fun j hj=>absurd hj (Nat.not_lt_zero _)⟩
  clear hr20
  repeat (refine t_fill sy (by decide) rfl hr2 le10 ?_;clear sy le10;intro h10 le10 sy)
  exact t_again (hY 0 _ _ (by omega) ⟨s.root,r2,h9,rfl,st9,ov9,hr2,le10,sy,.inr ⟨rfl,fun _ _=>rfl⟩⟩)
end Go.Y.Tre
end
section
namespace Go.TM
open Go.TM.Ow (Piece St Deed Right Book Heirs)
variable {tS tP:TypeId} {N:Nat} {h0:Cells} {h h':LH} {k:StA} {f:BookC} {b:Book} {s s':St} {hs:Nat->Nat}
theorem StR.cellAt(st:StR tS tP N h0 h k f b s hs){j:Nat}{v:Value}(hv:∀ p n c,(stCells f k hs p n c)[j]?=some v):h.get.cell? (Addr.add ⟨k.sb,0,none⟩ j)=some v:=by
 obtain⟨p,n,c,h1,_⟩:=st.blk;rw[add_plain,Nat.zero_add];exact cell_blk h1 (by simpa using hv p n c)
theorem StR.mapTurn{m:Nat}{es:Array MapEntry}{c':Nat}(st:StR tS tP N h0 h k f b s hs)(hm:∃ es c,h.get m=some (true,.map es c))(hm0:h0 m=none)(hr:s'.root=s.root)
 (ho:HoldsO pieceV (h.get.upd m (true,.map es c')) k.mo fun p=>(s'.owns p).map (Value.int .i64))
 (hh:∃ F,HoldsO holdV (h.get.upd m (true,.map es c')) k.mh F/\∀ x v,F x=some v->∃ t:Bool,v=.bool t)
 (hp:∃ g:Piece->Option Nat,HoldsO pieceV (h.get.upd m (true,.map es c')) k.mp (fun p=>(g p).map fun i=>Value.int .i64 (i:Nat))/\∀ p,(g p=none/\s'.pledge p=none)\/∃ i d,g p=some i/\b.deeds[i]?=some d/\s'.pledge p=some d)
 (hb:HoldsO (Value.int .i64) (h.get.upd m (true,.map es c')) k.mb fun i=>if 0<=i/\s'.begun i.toNat=true then some (.bool true) else none) :
  StR tS tP N h0 { h with get:=h.get.upd m (true,.map es c') } k f b s' hs/\Ov h0 h { h with get:=h.get.upd m (true,.map es c') }:=by
 obtain⟨es0,c0,hm⟩:=hm;obtain⟨p,n,c,h1,h2,h3⟩:=st.blk;have ne:∀ {r:Nat} {cs:Array Value} {el:TypeId},h.get r=some (true,.cells cs el (0,0))->r≠m:=fun hr e=>by rw[e,hm]at hr;cases hr
 refine⟨⟨by rw[hr];exact st.heirs,⟨p,n,c,?_,h2.turn fun a x ha hx=>?_,h3⟩,ho,hh,hp,hb,st.new,st.apart,fun r hr=>?_,st.types⟩,fun r x hr hx=>?_,rfl,rfl,rfl⟩
 ·show Cells.upd _ _ _ _=_;rw[Cells.upd_ne _ _ (ne h1)];exact h1
 ·obtain⟨cs,hcs⟩:=h2.block ha;show Cells.upd _ _ _ _=_;rw[Cells.upd_ne _ _ (ne hcs)];exact hx
 ·by_cases e:r=m
  ·rw[e];exact hm0
  ·have hr':Cells.upd h.get m (true,.map es c') r=none:=hr;rw[Cells.upd_ne _ _ e]at hr';exact st.dom r hr'
 ·show Cells.upd _ _ _ _=_;rw[Cells.upd_ne _ _ (fun e=>hr (by rw[e];exact hm0))];exact hx
theorem HoldsO.upd{κ:Type}{enc:κ->Value}{g:Cells}{r m:Nat}{F:κ->Option Value}{x:Bool×Obj}(hne:r≠m)(y:HoldsO enc g r F):HoldsO enc (g.upd m x) r F:=y.le fun v hv=>by rw[Cells.upd_ne _ _ hne];exact hv
end Go.TM
namespace Go.Y.Tre
open Go.TM.Tr
open Go.TM.Ow (Piece St Deed Right Book Heirs)
theorem und1533:Tryz.prog.underlying 139=some (.map 110 3):=by kernel_rfl
theorem und1534:Tryz.prog.underlying 140=some (.map 169 4):=by kernel_rfl
theorem keyPiece(p:Piece):FKey Tryz.prog 110 (pieceV p):=.inr (.inl ⟨_,rfl,flat_ints (vs:=[p.1,p.2]) (by kernel_rfl)⟩)
theorem keyHold(x:Int×Int×Int):FKey Tryz.prog 169 (holdV x):=.inr (.inr ⟨nest_of2 (by kernel_rfl),x.1,x.2.1,x.2.2,rfl⟩)
theorem c3515{h:LH}{h0:Cells}{N:Nat}{k:StA}{f:BookC}{b:Book}{s:St}{hs:Nat->Nat}(st:StO N h0 h k f b s hs)(p:Piece) :
  Pu Tryz.prog 51 #[.pointer (some ⟨k.sb,0,none⟩),.agg #[.int .i64 p.1,.int .i64 p.2]] h (.int .i64 ((s.owns p).getD (-1))):=by
 refine w3515 _ _ _ X0_ok ?_;unfold n3515;have c4:=st.cellAt (j:=4) (fun _ _ _=>rfl);obtain⟨es,c,hm,M⟩:=st.owns;refine gZ ?_;refine t_getO p rfl pieceInj und1533 inf3 hm M keyPiece (fun v hv=>?_) fun hno=>?_
 ·cases e:s.owns p with
  | none=>rw[e]at hv;cases hv
  | some o =>
   rw[e]at hv;cases hv;simp only[if_true];refine yT ?_;exact t_ret ⟨rfl,rfl⟩
 ·have e:s.owns p=none:=by
   cases e:s.owns p with
   | none=>rfl
   | some o=>rw[e]at hno;cases hno
  rw[e];simp only[if_true];refine yF ?_;exact t_ret ⟨rfl,rfl⟩
theorem c3532{h:LH}{h0:Cells}{N:Nat}{k:StA}{f:BookC}{b:Book}{s:St}{hs:Nat->Nat}(st:StO N h0 h k f b s hs)(p:Piece)(to:Int) :
  FW X0 Tryz.prog 89 #[.pointer (some ⟨k.sb,0,none⟩),.agg #[.int .i64 p.1,.int .i64 p.2],to] h fun r h'=>r=.tuple #[]/\StO N h0 h' k f b (s.pass p to) hs/\Ov h0 h h':=by
 refine w3532 _ _ _ _ X0_ok ?_;unfold n3532;have c4:=st.cellAt (j:=4) (fun _ _ _=>rfl);obtain⟨es,c,hm,M⟩:=st.owns;obtain⟨a1,a2,a3,a4,a5,a6⟩:=st.apart;refine gZ ?_;refine t_putO p rfl pieceInj und1533 hm M keyPiece fun es' c' M'=>?_;have t1:=st.mapTurn (s':=s.pass p to) (es:=es') (c':=c') ⟨_,_,hm⟩ st.new.2.1 rfl ⟨es',c',Cells.upd_self _ _ _,by
   have e:(updO (fun p=>(s.owns p).map (Value.int .i64)) p (.int .i64 to))=fun q=>((s.pass p to).owns q).map (Value.int .i64):=by
    funext q;unfold updO St.pass;by_cases e:q=p
    ·simp[e]
    ·simp[e]
   rw[<- e];exact M'⟩
  (by obtain⟨F,hF,hF2⟩:=st.had;exact⟨F,hF.upd (Ne.symm a1),hF2⟩) (by obtain⟨g,hg,hg2⟩:=st.pledge;exact⟨g,hg.upd (Ne.symm a2),hg2⟩) (st.begun.upd (Ne.symm a3))
 generalize ({ h with get:=h.get.upd k.mo (true,.map es' c') }:LH)=h1 at t1 ⊢;obtain⟨st1,ov1⟩:=t1;have c5:=st1.cellAt (j:=5) (fun _ _ _=>rfl);obtain⟨F,⟨es2,c2,hm2,M2⟩,hF⟩:=st1.had;refine gZ ?_;refine t_putO (p.1,p.2,to) rfl holdInj und1534 hm2 M2 keyHold fun es3 c3 M3=>?_;have t2:=st1.mapTurn (s':=s.pass p to) (es:=es3) (c':=c3) ⟨_,_,hm2⟩ st1.new.2.2.1 rfl (st1.owns.upd a1) ⟨_,⟨es3,c3,Cells.upd_self _ _ _,M3⟩,fun x v hv=>by
   unfold updO at hv;split at hv
   ·cases hv;exact⟨_,rfl⟩
   ·exact hF x v hv⟩ (by obtain⟨g,hg,hg2⟩:=st1.pledge;exact⟨g,hg.upd (Ne.symm a4),hg2⟩) (st1.begun.upd (Ne.symm a5))
 exact t_ret ⟨rfl,t2.1,ov1.trans t2.2⟩
end Go.Y.Tre
end
section
namespace Go.TM
theorem Ov.base{h0:Cells}{h h':LH}(hl:h0.le h.get)(o:Ov h0 h h'):h0.le h'.get:=fun r x hx=>o.1 r x (by rw[hx];simp) (hl r x hx)
theorem drop_at{α:Type}{l:List α}{i:Nat}{x:α}(h:l[i]?=some x):l.drop i=x::l.drop (i+1):=by
 obtain⟨hi,e⟩:=List.getElem?_eq_some_iff.1 h;rw[List.drop_eq_getElem_cons hi,e]
end Go.TM
namespace Go.Y.Tre
open Go.TM.Tr
open Go.TM.Ow (Piece St Deed Right Book Heirs)
theorem keyInt(n:Int):FKey Tryz.prog 3 (Value.int .i64 n):=.inl (.inl ⟨inf3',n,rfl⟩)
theorem c3521{h:LH}{h0:Cells}{N:Nat}{k:StA}{f:BookC}{b:Book}{s:St}{hs:Nat->Nat}(hbk:BookR h0 f b)(ok:BookOk b)(hl:h0.le h.get)(st:StO N h0 h k f b s hs)(day:Int) :
  FW X0 Tryz.prog 68 #[.pointer (some ⟨k.sb,0,none⟩),day] h fun r h'=>r=.tuple #[]/\(∃ hs',StO N h0 h' k f b (St.beginFrom day 0 b.rights s) hs')/\Ov h0 h h':=by
 refine w3521 _ _ X0_ok ?_;unfold n3521;have hn:=hbk.rights.1;have hb:=hbk.rights.2.1;have c2:h.get.cell? (Addr.add (Addr.add (Addr.add ⟨k.sb,0,none⟩ 0) 0) 2)=some (.slice f.p2 f.n2 f.c2):=by
  have:=st.cellAt (j:=2) (v:=.slice f.p2 f.n2 f.c2) (fun _ _ _=>rfl);rw[add_plain]at this;rw[add_plain,add_plain,add_plain];exact this
 refine gZ ?_;refine t_loop (fun mm vs h'=>∃ (i:Nat) (s':St) (hs':Nat->Nat),vs=[.int .i64 i]/\i<=f.n2/\mm=f.n2-i/\StO N h0 h' k f b s' hs'/\Ov h0 h h'/\St.beginFrom day 0 b.rights s=St.beginFrom day i (b.rights.drop i) s') ⟨0,s,hs,rfl,Nat.zero_le _,rfl,st,Ov.refl _ _,rfl⟩ ?_;rintro Y mm vs h1 hY ⟨i,s1,hs1,rfl,hi,rfl,st1,ov1,he⟩;have hl1:=ov1.base hl;refine yJ (fun e1=>?_) (fun e1=>?_)
 ·obtain⟨y,a,hy,ha,k0,k1,k2,q,n,c,k3,sl0⟩:=hbk.rights.at (i:=i) (by omega);have g0:=Cells.cell?_le hl1 k0;have g1:=Cells.cell?_le hl1 k1;have g2:=Cells.cell?_le hl1 k2;have g3:=Cells.cell?_le hl1 k3;have hin:0<=(i:Int)/\(i:Int)<(f.n2:Int):=by omega
  have yok:=ok.right y (List.mem_of_getElem? hy);have h6:=ok.owners.many;have hln:=sl0.1;have hlb:=sl0.2.1;rw[drop_at hy,St.beginFrom]at he;have next:∀ (s2:St) (hs2:Nat->Nat) h2,StO N h0 h2 k f b s2 hs2->Ov h0 h h2->s2=s1.beginOne day i y->Y [.int .i64 (wrap .i64 ((i:Int)+1))] h2:=fun s2 hs2 h2 st2 ov2 e2=>by
   refine hY (f.n2-(i+1)) _ _ (by omega) ⟨i+1,s2,hs2,?_,by omega,rfl,st2,ov2,by rw[e2];exact he⟩;rw[wrap_id (by omega) (by omega)];rfl
  refine gZ ?_;refine t_loadStr g0 ?_;refine gZ ?_;refine t_blk (fun vs h'=>vs=[]/\h'=h1/\s1.begun i=false/\y.day<=day) ?_ ?_
  ·have c13:=st1.cellAt (j:=13) (fun _ _ _=>rfl);obtain⟨es,cc,hm,M⟩:=st1.begun;refine gZ ?_;have hskip:s1.begun i=true\/y.day>day->s1=s1.beginOne day i y:=fun hh=>by
    unfold St.beginOne;rw[if_pos];rcases hh with hh|hh
    ·simp[hh]
    ·simp[hh]
   refine t_getO (i:Int) rfl intInj undMap inf4 hm M keyInt (fun v hv=>?_) fun hno=>?_
   ·split at hv
    ·rename_i hcond;cases hv;simp only[Bool.false_eq_true,if_false];refine yT ?_;refine gR ?_;refine yT ?_;refine gZ ?_;exact t_again (next _ _ _ st1 ov1 (hskip (.inl (by simpa using hcond.2))))
    ·cases hv
   ·have hb0:s1.begun i=false:=by
     cases e:s1.begun i with
     | false=>rfl
     | true=>rw[if_pos ⟨by omega,by simpa using e⟩]at hno;cases hno
    simp only[Bool.false_eq_true,if_false];refine yF ?_;refine t_if (fun e2=>?_) (fun e2=>?_)
    ·refine gR ?_;refine yT ?_;refine gZ ?_;exact t_again (next _ _ _ st1 ov1 (hskip (.inr e2)))
    ·exact t_again ⟨rfl,rfl,hb0,by omega⟩
  rintro vs h1' ⟨rfl,e,hb0,hday⟩;subst e;have c13:=st1.cellAt (j:=13) (fun _ _ _=>rfl);obtain⟨es,cc,hm,M⟩:=st1.begun;obtain⟨a1,a2,a3,a4,a5,a6⟩:=st1.apart;refine gZ ?_;refine t_putO (i:Int) rfl intInj undMap hm M keyInt fun es' c' M'=>?_;have t1:=st1.mapTurn (s':={ s1 with begun:=fun j=>if j=i then true else s1.begun j }) (es:=es') (c':=c') ⟨_,_,hm⟩ st1.new.2.2.2.2 rfl (st1.owns.upd a3)
   (by obtain⟨F,hF,hF2⟩:=st1.had;exact⟨F,hF.upd a5,hF2⟩) (by obtain⟨g,hg,hg2⟩:=st1.pledge;exact⟨g,hg.upd a6,hg2⟩) ⟨es',c',Cells.upd_self _ _ _,by
    have e:updO (fun j:Int=>if 0<=j/\s1.begun j.toNat=true then some (Value.bool true) else none) (i:Int) (.bool true)=fun j:Int=>if 0<=j/\(if j.toNat=i then true else s1.begun j.toNat)=true then some (.bool true) else none:=by
     funext j;unfold updO;by_cases e:j=(i:Int)
     ·subst e;simp
     ·rw[if_neg e];by_cases h0:0<=j
      ·have:j.toNat≠i:=by omega
       simp[this]
      ·simp[h0]
    rw[<- e];exact M'⟩
  generalize ({ h1' with get:=h1'.get.upd k.mb (true,.map es' c') }:LH)=h2 at t1 ⊢;obtain⟨st2,ov2⟩:=t1;have hone:s1.beginOne day i y=y.lands.foldl (fun s l=>s.land i y.owner l) { s1 with begun:=fun j=>if j=i then true else s1.begun j }:=by
   unfold St.beginOne;rw[if_neg];simp[hb0];omega
  refine t_loop (fun mm vs h'=>∃ (j:Nat) (s':St) (hs':Nat->Nat),vs=[.int .i64 j]/\j<=n/\mm=n-j/\StO N h0 h' k f b s' hs'/\Ov h0 h h'/\s1.beginOne day i y=(y.lands.drop j).foldl (fun s l=>s.land i y.owner l) s') ⟨0,_,_,rfl,Nat.zero_le _,rfl,st2,ov1.trans ov2,hone⟩ ?_;rintro Y2 mm vs h3 hY2 ⟨j,s3,hs3,rfl,hj,rfl,st3,ov3,he3⟩;have hl3:=ov3.base hl;refine yJ (fun e2=>?_) (fun e2=>?_)
  ·obtain⟨v,av,hv,hav,e4⟩:=(sl0.le IntE.grow hl3).at (i:=j) (by omega);unfold IntE at e4;rw[add_zero']at e4;have hin2:0<=(j:Int)/\(j:Int)<(n:Int):=by omega
   obtain⟨o,ho⟩ : ∃ o:Nat,y.owner=o:=⟨y.owner.toNat,by have:=yok.owner;omega⟩
   have ho6:o<6:=by have:=yok.owner;omega
   rw[drop_at hv,List.foldl_cons]at he3;rw[ho]at he3 ⊢;refine gZ ?_;refine t_call (c3533 st3 ho6) ?_;rintro _ h4 ⟨rfl,st4,ov4⟩;refine gZ ?_;refine t_call (c3532 st4 ((i:Int),v) _) ?_;rintro _ h5 ⟨rfl,st5,ov5⟩;refine gZ ?_;refine t_again (hY2 (n-(j+1)) _ _ (by omega) ⟨j+1,_,_,?_,by omega,rfl,st5,ov3.trans (ov4.trans ov5),?_⟩)
   ·rw[wrap_id (by omega) (by omega)];rfl
   ·rw[ho];exact he3
  ·refine gH ?_;refine gZ ?_;rw[List.drop_eq_nil_of_le (by omega)]at he3;exact t_again (next _ _ _ st3 ov3 he3.symm)
 ·refine gH ?_;refine gZ ?_;rw[List.drop_eq_nil_of_le (by omega)]at he;exact t_ret ⟨rfl,⟨_,by rw[he];exact st1⟩,ov1⟩
end Go.Y.Tre
end
section
namespace Go.TM
open Go.TM.Ow (Piece St Deed Right Book Heirs)
theorem whole_no{s:St}{d:Deed}{p:Piece}(h:∀ o,s.owns p=some o->0<=o->s.rootI d.from_≠s.rootI d.to->o=s.rootI d.from_->∃ e,s.pledge p=some e/\d.first<=e.last/\(d.kind=2\/s.rootI e.to≠s.rootI d.to)):s.whole d p=false:=by
 unfold St.whole;rw[decide_eq_false_iff_not];rintro⟨o,h1,h2,h3,h4,h5⟩;obtain⟨e,g1,g2,g3⟩:=h o h1 h2 h3 h4;obtain⟨k1,k2⟩:=h5 e g1 g2;rcases g3 with g3|g3
 ·exact k1 g3
 ·exact g3 k2
theorem whole_yes{s:St}{d:Deed}{p:Piece}{o:Int}(h1:s.owns p=some o)(h2:0<=o)(h3:s.rootI d.from_≠s.rootI d.to)(h4:o=s.rootI d.from_)(h5:∀ e,s.pledge p=some e->d.first<=e.last->d.kind≠2/\s.rootI e.to=s.rootI d.to):s.whole d p=true:=by
 unfold St.whole;rw[decide_eq_true_iff];exact⟨o,h1,h2,h3,h4,h5⟩
section
variable {P:Program} {X:XP} {Q:Leaf->LH->Prop} {κ:Type} {enc:κ->Value}
theorem t_getP{h:LH}{K:Value->T}{t kt et:TypeId}{s b c m:Nat}{es:Array MapEntry}{f:κ->Option Value}{kv:Value}(k:κ)(hkv:kv=enc k)(inj:∀ a b,enc a=enc b->a=b)(hu:P.underlying t=some (.map kt et))(hi:(P.info? et).map (fun i=>(i.size,i.bytes,i.zero))=some (s,b,some (.int .i64 0)))
 (hm:h.get m=some (true,.map es c))(M:MapO enc es f)(hf:∀ x,FKey P kt (enc x))(hint:∀ v,f k=some v->∃ n:Int,v=.int .i64 n)(hk:∀ (n:Int) (had:Bool),(had=true->f k=some (.int .i64 n))->(had=false->f k=none)->(K (.tuple #[.int .i64 n,.bool had])).wp X P Q h) :
  (T.sem false (Instr.lookup t (.map (some m)) kv true) K).wp X P Q h :=
 t_getO k hkv inj hu hi hm M hf (fun v hv=>by
  obtain⟨n,rfl⟩:=hint v hv;simp only[if_true];exact hk n true (fun _=>hv) (fun e=>by cases e)) fun hno=>by
  simp only[if_true];exact hk 0 false (fun e=>by cases e) fun _=>hno
theorem t_getT{h:LH}{K:Value->T}{t kt et:TypeId}{s b c m:Nat}{es:Array MapEntry}{f:κ->Option Value}{kv:Value}(k:κ)(hkv:kv=enc k)(inj:∀ a b,enc a=enc b->a=b)(hu:P.underlying t=some (.map kt et))(hi:(P.info? et).map (fun i=>(i.size,i.bytes,i.zero))=some (s,b,some (.bool false)))
 (hm:h.get m=some (true,.map es c))(M:MapO enc es f)(hf:∀ x,FKey P kt (enc x))(hint:∀ v,f k=some v->∃ n:Bool,v=.bool n)(hk:∀ n:Bool,(K (.bool n)).wp X P Q h) :
  (T.sem false (Instr.lookup t (.map (some m)) kv false) K).wp X P Q h :=
 t_getO k hkv inj hu hi hm M hf (fun v hv=>by
  obtain⟨n,rfl⟩:=hint v hv;simp only[Bool.false_eq_true,if_false];exact hk n) fun _=>by
  simp only[Bool.false_eq_true,if_false];exact hk false
end
end Go.TM
namespace Go.Y.Tre
open Go.TM.Tr
open Go.TM.Ow (Piece St Deed Right Book Heirs)
def WhyR(s:St)(d:Deed)(p:Piece)(r:Value):Prop:=∃ w:Int,r=.int .i64 w/\(w=0↔s.whole d p=true)
theorem why_no{s:St}{d:Deed}{p:Piece}{w:Int}(hw:w≠0)(h:s.whole d p=false):WhyR s d p (.int .i64 w):=⟨w,rfl,fun e=>absurd e hw,fun e=>by rw[h]at e;cases e⟩
theorem why_yes{s:St}{d:Deed}{p:Piece}(h:s.whole d p=true):WhyR s d p (.int .i64 0):=⟨0,rfl,fun _=>h,fun _=>rfl⟩
theorem c3584{h:LH}{h0:Cells}{N:Nat}{k:StA}{f:BookC}{b:Book}{s:St}{hs:Nat->Nat}(hbk:BookR h0 f b)(ok:BookOk b)(hl:h0.le h.get)(st:StO N h0 h k f b s hs){d:Deed}(hd:d∈b.deeds){q:Option Addr}{n c:Nat}(p:Piece) :
  FW X0 Tryz.prog 183 #[.pointer (some ⟨k.sb,0,none⟩),deedV d q n c,.agg #[.int .i64 p.1,.int .i64 p.2]] h fun r h'=>WhyR s d p r/\StO N h0 h' k f b s s.root/\Ov h0 h h':=by
 refine w3584 _ _ _ _ _ _ _ _ _ _ _ _ _ X0_ok ?_;unfold n3584;have dok:=ok.deed d hd;have h6:=ok.owners.many;have hn3:=hbk.deeds.1;obtain⟨o1,ho1⟩ : ∃ o:Nat,d.from_=o:=⟨d.from_.toNat,by have:=dok.from_;omega⟩
 obtain⟨o2,ho2⟩ : ∃ o:Nat,d.to=o:=⟨d.to.toNat,by have:=dok.to;omega⟩
 have lt1:o1<6:=by have:=dok.from_;omega
 have lt2:o2<6:=by have:=dok.to;omega
 have r1:s.rootI d.from_=(s.root o1:Nat):=by unfold St.rootI;rw[ho1];simp
 have r2:s.rootI d.to=(s.root o2:Nat):=by unfold St.rootI;rw[ho2];simp
 rw[ho1,ho2];refine t_call (c3533 st lt1) ?_;rintro _ h1 ⟨rfl,st1,ov1⟩;refine gZ ?_;refine t_call (c3533 st1 lt2) ?_;rintro _ h2 ⟨rfl,st2,ov2⟩;have ov12:=ov1.trans ov2;refine gZ ?_;refine t_pu (c3515 st2 p) ?_;have c6:=st2.cellAt (j:=6) (fun _ _ _=>rfl);have c3:h2.get.cell? (Addr.add (Addr.add (Addr.add ⟨k.sb,0,none⟩ 0) 0) 3)=some (.slice f.p3 f.n3 f.c3):=by
  have:=st2.cellAt (j:=3) (v:=.slice f.p3 f.n3 f.c3) (fun _ _ _=>rfl);rw[add_plain]at this;rw[add_plain,add_plain,add_plain];exact this
 have hl2:=ov12.base hl;obtain⟨g,⟨es,cc,hm,M⟩,hg⟩:=st2.pledge;refine gZ ?_;refine t_getP p rfl pieceInj und1533 inf3 hm M keyPiece (fun v hv=>?_) fun pi had hy hno=>?_
 ·cases e:g p with
  | none=>rw[e]at hv;cases hv
  | some i=>rw[e]at hv;cases hv;exact⟨_,rfl⟩
 have hpl:had=true->∃ (i:Nat) (e:Deed),pi=i/\b.deeds[i]?=some e/\s.pledge p=some e:=fun hh=>by
  have h1:=hy hh;rcases hg p with⟨g1,_⟩|⟨i,e,g1,g2,g3⟩
  ·rw[g1]at h1;cases h1
  ·rw[g1]at h1;cases h1;exact⟨i,e,rfl,g2,g3⟩
 have hnp:had=false->s.pledge p=none:=fun hh=>by
  have h1:=hno hh;rcases hg p with⟨_,g2⟩|⟨i,e,g1,_⟩
  ·exact g2
  ·rw[g1]at h1;cases h1
 refine gZ ?_;refine t_blk (fun vs h'=>h'=h2/\∃ pl:Bool,vs=[.bool pl]/\(pl=true->∃ (i:Nat) (e:Deed),pi=i/\b.deeds[i]?=some e/\s.pledge p=some e/\d.first<=e.last)/\(pl=false->∀ e,s.pledge p=some e->¬ d.first<=e.last)) ?_ ?_
 ·refine t_cond (fun e1=>?_) (fun e1=>?_)
  ·subst e1;obtain⟨i,e,rfl,he,hp⟩:=hpl rfl;obtain⟨e',a,he',ha,_,_,_,_,_,_,_,k7⟩:=(hbk.deeds.le DeedE.grow hl2).at (i:=i) (by have:=(List.getElem?_eq_some_iff.1 he).1;omega);rw[he]at he';cases he';have hin:0<=(i:Int)/\(i:Int)<(f.n3:Int):=by have:=(List.getElem?_eq_some_iff.1 he).1;omega
   have k7':h2.get.cell? (Addr.add (Addr.add (Addr.add a (i*8)) 6) 1)=some (.int .i64 e.last):=by rw[Addr.add_add'];exact k7
   refine gZ ?_;refine t_again ⟨rfl,_,rfl,fun hh=>⟨i,e,rfl,he,hp,by simpa using hh⟩,fun hh e2 he2=>?_⟩;rw[hp]at he2;cases he2;simpa using hh
  ·subst e1;refine gZ ?_;exact t_again ⟨rfl,_,rfl,(fun hh=>by cases hh),(fun _ e he=>by rw[hnp rfl]at he;cases he)⟩
 rintro vs h2' ⟨e,pl,rfl,hpl1,hpl0⟩;subst e;refine gZ ?_;have fin:∀ {r:Value},WhyR s d p r->WhyR s d p r/\StO N h0 h2' k f b s s.root/\Ov h0 h h2':=fun hr=>⟨hr,st2,ov12⟩;refine t_if (fun e2=>?_) (fun e2=>?_)
 ·refine t_ret (fin (why_no (by omega) (whole_no fun o ho h0 _ _=>?_)));rw[ho]at e2;simp at e2;omega
 obtain⟨o,ho⟩ : ∃ o,s.owns p=some o:=by
  cases e:s.owns p with
  | none=>rw[e]at e2;simp at e2
  | some o=>exact⟨o,rfl⟩
 rw[ho]at e2 ⊢;have hog:(some o).getD (-1)=o:=rfl;rw[hog]at e2 ⊢;refine t_cond (fun e3=>?_) (fun e3=>?_)
 ·refine t_ret (fin (why_no (by omega) (whole_no fun _ _ _ hne _=>absurd ?_ hne)));rw[r1,r2];simpa using e3
 have hne:s.rootI d.from_≠s.rootI d.to:=by rw[r1,r2];simpa using e3
 refine t_blk (fun vs h'=>h'=h2'/\∃ t:Bool,vs=[.bool t]/\(t=true->o≠s.rootI d.from_)) ?_ ?_
 ·refine t_cond (fun e4=>?_) (fun e4=>?_)
  ·have c5:=st2.cellAt (j:=5) (fun _ _ _=>rfl);obtain⟨F,⟨es5,cc5,hm5,M5⟩,hF⟩:=st2.had;refine gZ ?_;refine t_getT (p.1,p.2,((s.root o1:Nat):Int)) rfl holdInj und1534 inf4 hm5 M5 keyHold (fun v hv=>hF _ _ hv) fun t=>?_;refine gZ ?_;refine t_again ⟨rfl,_,rfl,fun _=>?_⟩;rw[r1];simpa using e4
  ·refine gZ ?_;exact t_again ⟨rfl,_,rfl,fun hh=>by cases hh⟩
 rintro vs h3 ⟨e,t,rfl,ht⟩;subst e;refine yI (fun e4=>?_) (fun e4=>?_)
 ·exact t_ret (fin (why_no (by omega) (whole_no fun o' ho' _ _ hr=>by rw[ho]at ho';cases ho';exact absurd hr (ht e4))))
 refine t_cond (fun e5=>?_) (fun e5=>?_)
 ·have:o≠s.rootI d.from_:=by rw[r1];simpa using e5
  exact t_ret (fin (why_no (by omega) (whole_no fun o' ho' _ _ hr=>by rw[ho]at ho';cases ho';exact absurd hr this)))
 have hown:o=s.rootI d.from_:=by rw[r1];simpa using e5
 refine t_cond (fun e6=>?_) (fun e6=>?_)
 ·obtain⟨i,e,rfl,he,hp,hdl⟩:=hpl1 e6;subst e6;refine t_cond (fun e7=>?_) (fun e7=>?_)
  ·exact t_ret (fin (why_no (by omega) (whole_no fun _ _ _ _ _=>⟨e,hp,hdl,.inl (by simpa using e7)⟩)))
  have hk2:d.kind≠2:=by simpa using e7
  obtain⟨e',a,he',ha,_,_,_,_,k4,_⟩:=(hbk.deeds.le DeedE.grow hl2).at (i:=i) (by have:=(List.getElem?_eq_some_iff.1 he).1;omega);rw[he]at he';cases he';have hin:0<=(i:Int)/\(i:Int)<(f.n3:Int):=by have:=(List.getElem?_eq_some_iff.1 he).1;omega
  have eok:=ok.deed e (List.mem_of_getElem? he);obtain⟨o3,ho3⟩ : ∃ o:Nat,e.to=o:=⟨e.to.toNat,by have:=eok.to;omega⟩
  have lt3:o3<6:=by have:=eok.to;omega
  rw[ho3]at k4;have r3:s.rootI e.to=(s.root o3:Nat):=by unfold St.rootI;rw[ho3];simp
  refine gZ ?_;refine t_call (c3533 st2 lt3) ?_;rintro _ h4 ⟨rfl,st4,ov4⟩;refine yI (fun e8=>?_) (fun e8=>?_)
  ·refine t_ret ⟨why_no (by omega) (whole_no fun _ _ _ _ _=>⟨e,hp,hdl,.inr ?_⟩),st4,ov12.trans ov4⟩;rw[r3,r2];simpa using e8
  ·refine t_ret ⟨why_yes (whole_yes ho (by omega) hne hown fun e2 he2 _=>?_),st4,ov12.trans ov4⟩;rw[hp]at he2;cases he2;refine⟨hk2,?_⟩;rw[r3,r2];simpa using e8
 ·exact t_ret (fin (why_yes (whole_yes ho (by omega) hne hown fun e2 he2 hle=>absurd hle (hpl0 e6 e2 he2))))
end Go.Y.Tre
end
section
namespace Go.TM
theorem noneBelow{h h':LH}(hl:h.le h'){r:Nat}(hr:h'.get r=none):h.get r=none:=by
 cases e:h.get r with
 | none=>rfl
 | some x=>rw[hl.1 _ _ e]at hr;cases hr
end Go.TM
namespace Go.Y.Tre
open Go.TM.Tr
open Go.TM.Ow (Piece St Deed Right Book Heirs)
theorem c3519{h:LH}{f:BookC}(b:Book):FW X0 Tryz.prog 66 #[bookV f] h fun r h'=>h.le h'/\∃ k:StA,r=.pointer (some ⟨k.sb,0,none⟩)/\StO 0 h.get h' k f b St.start id:=by
 refine w3519 _ _ _ _ _ _ _ _ _ _ _ _ X0_ok ?_;unfold n3519;refine t_makeMapG fun mo h1 le1 mo0 hmo=>?_;refine gZ ?_;refine t_makeMapG fun mh h2 le2 mh0 hmh=>?_;refine gZ ?_;refine t_makeMapG fun mp h3 le3 mp0 hmp=>?_;refine gZ ?_;refine t_makeMapG fun mb h4 le4 mb0 hmb=>?_;refine gZ ?_;refine t_newG fun sb h5 le5 sb0 hsb=>?_;have le02:=LH.le_trans le1 le2;have le03:=LH.le_trans le02 le3;have le04:=LH.le_trans le03 le4;obtain⟨k,hk⟩ : ∃ k:StA,k=⟨sb,mo,mh,mp,mb⟩:=⟨_,rfl⟩
 have bl:Blk 145 h5.get k f (fun _=>0) none 0 0:=⟨by rw[hk];exact hsb⟩
 have ek:sb=k.sb:=by rw[hk]
 refine t_loop (fun mm vs h'=>h4.le h'/\∃ i:Nat,vs=[.int .i64 i]/\i<=6/\mm=6-i/\Blk 145 h'.get k f (fun j=>if j<i then j else 0) none 0 0) ⟨le5,0,rfl,Nat.zero_le _,rfl,by simpa using bl⟩ ?_;rintro Y mm vs h6 hY ⟨le6,i,rfl,hi,rfl,bl6⟩;refine yJ (fun e1=>?_) (fun e1=>?_)
 ·have hi6:i<6:=by omega
  refine gS2 rfl (gT (by omega) ?_);refine t_storeHeir (j:=i) (v:=i) bl6 hi6 (by rw[ek];simp) fun h7 b7 bl7=>?_;refine t_again (hY (6-(i+1)) _ _ (by omega) ⟨⟨fun q x hq=>?_,b7.2.1.trans le6.2.1,b7.2.2.1.trans le6.2.2.1,b7.2.2.2.trans le6.2.2.2⟩,i+1,?_,by omega,rfl,?_⟩)
  ·rw[b7.1 q (fun e=>by rw[e,<- ek,sb0]at hq;cases hq)];exact le6.1 q x hq
  ·rw[wrap_id (by omega) (by omega)];rfl
  ·have:(fun j=>if j=i then i else if j<i then j else 0)=fun j=>if j<i+1 then j else 0:=by
    funext j;by_cases e:j=i
    ·subst e;simp
    ·by_cases e2:j<i
     ·simp[e,e2,show j<i+1 by omega]
     ·simp[e,e2,show ¬ j<i+1 by omega]
   rw[<- this];exact bl7
 ·refine gH ?_;refine gZ ?_;have ei:i=6:=by omega
  subst ei;refine t_ret ⟨LH.le_trans le04 le6,k,by rw[ek],⟨Heirs.start,⟨none,0,0,?_,IRow.nil,Nat.le_refl _⟩,?_,⟨fun _=>none,?_,fun _ _ e=>by cases e⟩,⟨fun _=>none,?_,fun _=>.inl ⟨rfl,rfl⟩⟩,?_,?_,?_,fun r hr=>noneBelow (LH.le_trans le04 le6) hr,by decide⟩⟩
  ·rw[bl6.is,stCells_same (hs:=fun j=>if j<6 then j else 0) (hs':=id) (fun j hj=>by simp[hj])]
  ·refine⟨#[],0,?_,MapO.nil⟩;rw[hk];exact le6.1 _ _ (le4.1 _ _ (le3.1 _ _ (le2.1 _ _ hmo)))
  ·refine⟨#[],0,?_,MapO.nil⟩;rw[hk];exact le6.1 _ _ (le4.1 _ _ (le3.1 _ _ hmh))
  ·refine⟨#[],0,?_,MapO.nil⟩;rw[hk];exact le6.1 _ _ (le4.1 _ _ hmp)
  ·refine⟨#[],0,?_,?_⟩
   ·rw[hk];exact le6.1 _ _ hmb
   ·have:(fun i:Int=>if 0<=i/\St.start.begun i.toNat=true then some (Value.bool true) else none)=fun _=>none:=by
     funext i;rw[if_neg];rintro⟨_,e⟩;cases e
    rw[this];exact MapO.nil
  ·rw[hk];exact⟨noneBelow le04 sb0,mo0,noneBelow le1 mh0,noneBelow le02 mp0,noneBelow le03 mb0⟩
  ·rw[hk];have q1:mo≠mh:=fun e=>by rw[e,mh0]at hmo;cases hmo
   have q2:mo≠mp:=fun e=>by have:=le2.1 _ _ hmo;rw[e,mp0]at this;cases this
   have q3:mo≠mb:=fun e=>by have:=le3.1 _ _ (le2.1 _ _ hmo);rw[e,mb0]at this;cases this
   have q4:mh≠mp:=fun e=>by rw[e,mp0]at hmh;cases hmh
   have q5:mh≠mb:=fun e=>by have:=le3.1 _ _ hmh;rw[e,mb0]at this;cases this
   have q6:mp≠mb:=fun e=>by rw[e,mb0]at hmp;cases hmp
   exact⟨q1,q2,q3,q4,q5,q6⟩
end Go.Y.Tre
end
section
namespace Go.TM
open Go.TM.Ow (Piece St Deed Right Book Heirs)
section
variable {P:Program} {X:XP} {Q:Leaf->LH->Prop} {el:TypeId} {kk:Nat} {h0:Cells} {h:LH} {p:Option Addr} {n c:Nat}
theorem t_appIR{K:Value->T}{ts:Array TypeId}{ty t:TypeId}{by_ r mc:Nat}{z:Value}{ws:List Int}(h0':ts[0]?=some t)(h1:ts[1]?=some t)(hu:P.underlying t=some (.slice el))(hi:(P.info? el).map (fun i=>(i.size,i.bytes,i.zero))=some (kk,by_,some z))(hsz:z.cells.size=kk)(hb:by_<=1024)
 (hl:ws.length=kk)(hc:∀ (j:Nat) w,(ws.map (Value.int .i64))[j]?=some w->h.get.cell? (Addr.add ⟨r,0,none⟩ j)=some w)(dom:∀ r,h.get r=none->h0 r=none)(s:IRow el kk h0 h.get p n c)(hn:n+1<=2^30)
 (hk:∀ p' c' h',Ov h0 h h'->(∀ r x,(∀ a,p=some a->a.block≠r)->h.get r=some x->h'.get r=some x)->(∀ r,h'.get r=none->h0 r=none)->IRow el kk h0 h'.get p' (n+1) c'->(K (.slice p' (n+1) c')).wp X P Q h') :
  (T.sem false (Builtin.append_ ts ty #[.slice p n c,.slice (some ⟨r,0,none⟩) 1 mc]) K).wp X P Q h:=by
 obtain⟨vs,o,h3⟩:=s.row;refine t_append (ws:=ws.map (Value.int .i64)) h0' h1 hu hu hi hsz hb hn o (by simp[hl]) hc (by intro v hv;obtain⟨w,_,rfl⟩:=List.mem_map.1 hv;rfl) (by omega) fun p' c' h' a b d=>?_;refine hk p' c' _ ⟨fun q x hq hx=>b q x hx fun a ha e=>hq (by rw[<- e];exact s.new a ha),rfl,rfl,rfl⟩ (fun q x hq hx=>b q x hx hq) (fun q hq=>?_) ⟨⟨_,a,fun v hv=>?_⟩,?_⟩
 ·by_cases e:∃ a,p=some a/\a.block=q
  ·obtain⟨a,ha,rfl⟩:=e;exact s.new a ha
  ·refine dom q ?_;cases h4:h.get q with
   | none=>rfl
   | some x =>
    have h5:=b q x h4 (fun a ha e'=>e ⟨a,ha,e'⟩);have h6:h' q=none:=hq;rw[h6]at h5;cases h5
 ·rcases List.mem_append.1 hv with h4|h4
  ·exact h3 v h4
  ·obtain⟨w,_,rfl⟩:=List.mem_map.1 h4;exact⟨_,rfl⟩
 ·rcases d with rfl|⟨q,rfl,hq⟩
  ·exact s.new
  ·intro a ha;cases ha;exact dom q hq
end
variable {tS tP:TypeId} {N:Nat} {h0:Cells} {h h':LH} {k:StA} {f:BookC} {b:Book} {s:St} {hs:Nat->Nat}
theorem stCells_steps{p p':Option Addr}{n n' c c':Nat}:(stCells f k hs p n c).toArray.setIfInBounds 14 (.slice p' n' c')=(stCells f k hs p' n' c').toArray:=by simp[stCells]
theorem StR.step{p p':Option Addr}{n n' c c' M:Nat}{h2:LH}(st:StR tS tP N h0 h k f b s hs)(hblk:h.get k.sb=some (true,.cells (stCells f k hs p n c).toArray tS (0,0)))(hrow:IRow tP 5 h0 h.get p n c)(ov:Ov h0 h h')(keep:∀ r x,(∀ a,p=some a->a.block≠r)->h.get r=some x->h'.get r=some x)(dom:∀ r,h'.get r=none->h0 r=none)(row:IRow tP 5 h0 h'.get p' n' c')(hM:n'<=M)
 (bt:But k.sb h' h2)(hnew:h2.get k.sb=some (true,.cells (stCells f k hs p' n' c').toArray tS (0,0))):StR tS tP M h0 h2 k f b s hs/\Ov h0 h h2:=by
 obtain⟨F,hF,hF2⟩:=st.had;obtain⟨g,hg,hg2⟩:=st.pledge;have turn:∀ {κ:Type} {enc:κ->Value} {m:Nat} {G:κ->Option Value},HoldsO enc h.get m G->HoldsO enc h2.get m G:=fun {κ enc m G} y=>by
  refine y.le fun x hx=>?_;have hne:m≠k.sb:=y.ne hblk;rw[bt.1 m hne];refine keep m x (fun a ha e=>?_) hx;obtain⟨cs,hcs⟩:=hrow.block ha;exact y.ne hcs e.symm
 refine⟨⟨st.heirs,⟨p',n',c',hnew,row.turn fun a x ha hx=>?_,hM⟩,turn st.owns,⟨F,turn hF,hF2⟩,⟨g,turn hg,hg2⟩,turn st.begun,st.new,st.apart,fun r hr=>?_,st.types⟩,ov.trans (bt.ov st.new.1)⟩
 ·rw[bt.1 _ (fun e=>?_)];exact hx;obtain⟨cs,hcs⟩:=row.block ha;have hsb:h'.get k.sb=some (true,.cells (stCells f k hs p n c).toArray tS (0,0)):=keep _ _ (fun a ha e=>by
   obtain⟨cs,hcs⟩:=hrow.block ha;rw[e,hblk]at hcs;have:tS=tP:=by injection hcs with hcs;injection hcs with _ hcs;injection hcs
   exact st.types this) hblk
  rw[e,hsb]at hcs;have:tS=tP:=by injection hcs with hcs;injection hcs with _ hcs;injection hcs
  exact st.types this
 ·by_cases e:r=k.sb
  ·rw[e];exact st.new.1
  ·rw[bt.1 r e]at hr;exact dom r hr
theorem StR.fresh{h1:LH}{r:Nat}{x:Bool×Obj}(st:StR tS tP N h0 h k f b s hs)(hl:h.le h1)(hr:h.get r=none)(hx:h1.get r=some x):StR tS tP N (h0.upd r x) h1 k f b s hs:=by
 have st1:=st.keep (h':=h1) fun q y hq=>hl.1 q y hq;obtain⟨p,n,c,h1',h2,h3⟩:=st.blk;obtain⟨F,hF,hF2⟩:=st.had;obtain⟨g,hg,hg2⟩:=st.pledge;have ne:∀ {m:Nat} {y:Bool×Obj},h.get m=some y->m≠r:=fun hm e=>by rw[e,hr]at hm;cases hm
 have hne:∀ {κ:Type} {enc:κ->Value} {m:Nat} {G:κ->Option Value},HoldsO enc h.get m G->m≠r:=fun y=>by obtain⟨es,c,q,_⟩:=y;exact ne q
 obtain⟨n1,n2,n3,n4,n5⟩:=st.new;refine⟨st1.heirs,⟨p,n,c,hl.1 _ _ h1',⟨(h2.turn fun _ _ _ hy=>hl.1 _ _ hy).row,fun a ha=>?_⟩,h3⟩,st1.owns,st1.had,st1.pledge,st1.begun,
  ⟨by rw[Cells.upd_ne _ _ (ne h1')];exact n1,by rw[Cells.upd_ne _ _ (hne st.owns)];exact n2,by rw[Cells.upd_ne _ _ (hne hF)];exact n3,by rw[Cells.upd_ne _ _ (hne hg)];exact n4,by rw[Cells.upd_ne _ _ (hne st.begun)];exact n5⟩,st1.apart,fun q hq=>?_,st1.types⟩
 ·obtain⟨cs,hcs⟩:=h2.block ha;rw[Cells.upd_ne _ _ (ne hcs)];exact h2.new a ha
 ·have e:q≠r:=fun e=>by rw[e,hx]at hq;cases hq
  rw[Cells.upd_ne _ _ e];exact st1.dom q hq
theorem StR.weak{h0':Cells}(sub:∀ r,h0' r=none->h0 r=none)(st:StR tS tP N h0' h k f b s hs):StR tS tP N h0 h k f b s hs:=by
 obtain⟨p,n,c,h1,h2,h3⟩:=st.blk;exact⟨st.heirs,⟨p,n,c,h1,⟨h2.row,fun a ha=>sub _ (h2.new a ha)⟩,h3⟩,st.owns,st.had,st.pledge,st.begun,⟨sub _ st.new.1,sub _ st.new.2.1,sub _ st.new.2.2.1,sub _ st.new.2.2.2.1,sub _ st.new.2.2.2.2⟩,st.apart,fun r hr=>sub r (st.dom r hr),st.types⟩
theorem Ov.weak{h0':Cells}(sub:∀ r,h0' r=none->h0 r=none)(o:Ov h0' h h'):Ov h0 h h':=⟨fun r x hr hx=>o.1 r x (fun e=>hr (sub r e)) hx,o.2⟩
theorem upd_sub{r:Nat}{x:Bool×Obj}:∀ q,Cells.upd h0 r x q=none->h0 q=none:=fun q hq=>by
 by_cases e:q=r
 ·rw[e,Cells.upd_self]at hq;cases hq
 ·rw[Cells.upd_ne _ _ e]at hq;exact hq
end Go.TM
namespace Go.Y.Tre
open Go.TM.Tr
open Go.TM.Ow (Piece St Deed Right Book Heirs)
theorem c3583{h:LH}{h0:Cells}{N:Nat}{k:StA}{f:BookC}{b:Book}{s:St}{hs:Nat->Nat}(st:StO N h0 h k f b s hs){z0 z1:Addr}{i:Nat}{d:Deed}(hd:b.deeds[i]?=some d)(hz0:h.get.cell? z0=some (.int .i64 i))(hz1:h.get.cell? z1=some (.pointer (some ⟨k.sb,0,none⟩)))(p:Piece) :
  FW X0 Tryz.prog 182 #[.agg #[.int .i64 p.1,.int .i64 p.2],.pointer (some z0),.pointer (some z1)] h fun r h'=>r=.tuple #[]/\StO N h0 h' k f b { s with pledge:=fun q=>if q=p then some d else s.pledge q } hs/\Ov h0 h h':=by
 refine w3583 _ _ _ _ X0_ok ?_;unfold n3583;have c6:=st.cellAt (j:=6) (fun _ _ _=>rfl);obtain⟨g,⟨es,c,hm,M⟩,hg⟩:=st.pledge;obtain⟨a1,a2,a3,a4,a5,a6⟩:=st.apart;refine gZ ?_;refine t_putO p rfl pieceInj und1533 hm M keyPiece fun es' c' M'=>?_;have t1:=st.mapTurn (s':={ s with pledge:=fun q=>if q=p then some d else s.pledge q }) (es:=es') (c':=c') ⟨_,_,hm⟩ st.new.2.2.2.1 rfl (st.owns.upd a2)
  (by obtain⟨F,hF,hF2⟩:=st.had;exact⟨F,hF.upd a4,hF2⟩)
  ⟨fun q=>if q=p then some i else g q,⟨es',c',Cells.upd_self _ _ _,by
   have e:updO (fun p=>(g p).map fun i=>Value.int .i64 (i:Nat)) p (.int .i64 (i:Nat))=fun q=>(if q=p then some i else g q).map fun i=>Value.int .i64 (i:Nat):=by
    funext q;unfold updO;by_cases e:q=p
    ·simp[e]
    ·simp[e]
   rw[<- e];exact M'⟩,fun q=>by
   by_cases e:q=p
   ·subst e;exact .inr ⟨i,d,by simp,hd,by simp⟩
   ·simp only[if_neg e];exact hg q⟩
  (st.begun.upd (Ne.symm a6))
 exact t_ret ⟨rfl,t1.1,t1.2⟩
end Go.Y.Tre
end
section
namespace Go.Y.Tre
open Go.TM.Tr
open Go.TM.Ow (Piece St Deed Right Book Heirs)
theorem _root_.Go.TM.StR.deedsAt{h:LH}{h0:Cells}{N:Nat}{k:StA}{f:BookC}{b:Book}{s:St}{hs:Nat->Nat}(st:StO N h0 h k f b s hs):h.get.cell? (Addr.add (Addr.add (Addr.add ⟨k.sb,0,none⟩ 0) 0) 3)=some (.slice f.p3 f.n3 f.c3):=by
 have:=st.cellAt (j:=3) (v:=.slice f.p3 f.n3 f.c3) (fun _ _ _=>rfl);rw[add_plain]at this;rw[add_plain,add_plain,add_plain];exact this
theorem c3581{h:LH}{h0:Cells}{N:Nat}{k:StA}{f:BookC}{b:Book}{s:St}{hs:Nat->Nat}(hbk:BookR h0 f b)(ok:BookOk b)(hl:h0.le h.get)(st:StO N h0 h k f b s hs){z0 z1:Addr}{i:Nat}{d:Deed}(hd:b.deeds[i]?=some d)(hz0:h0.cell? z0=some (.pointer (some ⟨k.sb,0,none⟩)))(hz1:h0.cell? z1=some (.int .i64 i))(p:Piece) :
  FW X0 Tryz.prog 180 #[.agg #[.int .i64 p.1,.int .i64 p.2],.pointer (some z0),.pointer (some z1)] h fun r h'=>r=.tuple #[]/\StO N h0 h' k f b (s.pass p (s.rootI d.to)) s.root/\Ov h0 h h':=by
 refine w3581 _ _ _ _ X0_ok ?_;unfold n3581;have hn3:=hbk.deeds.1;have h6:=ok.owners.many;have hil:=(List.getElem?_eq_some_iff.1 hd).1;have dok:=ok.deed d (List.mem_of_getElem? hd);obtain⟨o,ho⟩ : ∃ o:Nat,d.to=o:=⟨d.to.toNat,by have:=dok.to;omega⟩
 have lt6:o<6:=by have:=dok.to;omega
 have r2:s.rootI d.to=(s.root o:Nat):=by unfold St.rootI;rw[ho];simp
 obtain⟨d',a,hd',ha,_,_,_,_,k4,_⟩:=hbk.deeds.at (i:=i) (by omega);rw[hd]at hd';cases hd';rw[ho]at k4;have hin:0<=(i:Int)/\(i:Int)<(f.n3:Int):=by omega
 have y0:=Cells.cell?_le hl hz0;have y1:=Cells.cell?_le hl hz1;have y3:=st.deedsAt;have y4:=Cells.cell?_le hl k4;refine gZ ?_;refine t_call (c3533 st lt6) ?_;rintro _ h1 ⟨rfl,st1,ov1⟩;have hl1:=ov1.base hl;have w0:=Cells.cell?_le hl1 hz0;have w1:=Cells.cell?_le hl1 hz1;have w3:=st1.deedsAt;have w4:=Cells.cell?_le hl1 k4;refine gZ ?_;refine t_call (c3532 st1 p _) ?_;rintro _ h2 ⟨rfl,st2,ov2⟩;have hl2:=ov2.base hl1;have v0:=Cells.cell?_le hl2 hz0;have v1:=Cells.cell?_le hl2 hz1;have v3:=st2.deedsAt;have v4:=Cells.cell?_le hl2 k4;refine gZ ?_;refine t_ret ⟨rfl,?_,ov1.trans ov2⟩;rw[r2];exact st2
end Go.Y.Tre
end

/- For every treaty, book of owners, deed, right, land and day the law TreatyOwned returns true: only who owns the right in a land on the day can ask, limit, turn, or have an older mark there; in whatever order the deeds are listed, and with one more deed that happens after all events, the same is protected. The tied card; no further condition. -/
import Derived.Test.YtjckkafejlcknaaGreatDoorM7
set_option linter.all false
noncomputable section
open Go Go.Conc Go.TM Go.Proofs
section
namespace Go.TM
open Go.TM.Ow (Deed Book)
def dCells(d:Deed)(q:Option Addr)(n c:Nat):List Value:=[.string d.name,.int .i64 d.kind,.int .i64 d.right,.int .i64 d.from_,.int .i64 d.to,.slice q n c,.int .i64 d.first,.int .i64 d.last]
theorem d_one(d:Deed)(q:Option Addr)(m c:Nat):∀ w∈dCells d q m c,isOne w=true:=by
 intro w hw;simp only[dCells,List.mem_cons,List.not_mem_nil,or_false]at hw;rcases hw with rfl|rfl|rfl|rfl|rfl|rfl|rfl|rfl<;>rfl
def DeedEnc(h₀:Cells)(d:Deed)(ws:List Value):Prop:=∃ q n c,ws=dCells d q n c/\Sl IntE 1 h₀ q n d.lands
theorem DeedEnc.len{h₀:Cells}:∀ x ws,DeedEnc h₀ x ws->ws.length=8:=by rintro x _ ⟨q,m,c,rfl,_⟩;rfl
theorem DeedEnc.e{h₀ h':Cells}(hr:Rd h₀ h'):∀ a x ws,DeedEnc h₀ x ws->(∀ (j:Nat) w,ws[j]?=some w->h'.cell? (a.add j)=some w)->DeedE h' a x:=by
 rintro a x _ ⟨q,m,c,rfl,hs⟩ hc;exact⟨hc 0 _ rfl,hc 1 _ rfl,hc 2 _ rfl,hc 3 _ rfl,hc 4 _ rfl,⟨q,m,c,hc 5 _ rfl,hs.rd IntE.grow hr⟩,hc 6 _ rfl,hc 7 _ rfl⟩
def DeedB(h0:Cells)(h:Cells)(a:Addr)(x:Deed):Prop:=∃ q m c,(∀ (j:Nat) w,(dCells x q m c)[j]?=some w->h.cell? (a.add j)=some w)/\Sl IntE 1 h0 q m x.lands
theorem deedTold{h0 h:Cells}:ToldE (DeedB h0) (DeedEnc h0) 8 h:=by
 rintro a x ⟨q,m,c,h1,h2⟩;exact⟨_,⟨q,m,c,rfl,h2⟩,rfl,h1,d_one _ _ _ _⟩
theorem DeedB.of{h0 h:Cells}(hr:Rd h0 h){p:Option Addr}{n:Nat}{l:List Deed}(s:Sl DeedE 8 h0 p n l):Sl (DeedB h0) 8 h p n l:=by
 refine⟨s.1,s.2.1,fun i x hx=>?_⟩;obtain⟨a,ha,h0,h1,h2,h3,h4,⟨q,m,c,h5,h8⟩,h6,h7⟩:=s.2.2 i x hx;refine⟨a,ha,q,m,c,fun j w hj=>?_,h8⟩
 match j,hj with
 | 0,hj=>cases hj;exact hr _ _ h0
 | 1,hj=>cases hj;exact hr _ _ h1
 | 2,hj=>cases hj;exact hr _ _ h2
 | 3,hj=>cases hj;exact hr _ _ h3
 | 4,hj=>cases hj;exact hr _ _ h4
 | 5,hj=>cases hj;exact hr _ _ h5
 | 6,hj=>cases hj;exact hr _ _ h6
 | 7,hj=>cases hj;exact hr _ _ h7
 | j+8,hj=>simp[dCells]at hj
end Go.TM
namespace Go.Y.Tre
open Go.TM.Tr
open Go.TM.Ow (Piece St Deed Right Book Heirs)
attribute [local irreducible] T.wp CV FWK
theorem und1501:Tryz.prog.underlying 27=some (.slice 35):=by kernel_rfl
theorem inf1506:(Tryz.prog.info? 35).map (fun i=>(i.size,i.bytes,i.zero))=some (8,88,some (.agg #[.string ⟨#[]⟩,.int .i64 0,.int .i64 0,.int .i64 0,.int .i64 0,.slice none 0 0,.int .i64 0,.int .i64 0])):=by kernel_rfl
def DeedEnd(h:LH)(g:BookC)(b:Book)(d:Deed)(vs:List Value)(h':LH):Prop:=∃ p n c,vs=[.slice g.p0 g.n0 g.c0,.slice g.p1 g.n1 g.c1,.slice g.p2 g.n2 g.c2,.slice p n c]/\h.le h'/\BookR h'.get { g with p3:=p,n3:=n,c3:=c } { b with deeds:=b.deeds++[d] }
theorem deedEnd_of{h h':LH}{g:BookC}{b:Book}{d:Deed}(hb:BookR h.get g b)(h8:b.deeds.length<=8){p:Option Addr}{n c:Nat}(hle:h.le h')(gr:Growing (DeedEnc h.get) 35 8 h.get h'.get p n c (b.deeds++[d])):DeedEnd h g b d [.slice g.p0 g.n0 g.c0,.slice g.p1 g.n1 g.c1,.slice g.p2 g.n2 g.c2,.slice p n c] h' :=
 have hb':=hb.le hle.1
 ⟨p,n,c,rfl,hle,hb'.owners,hb'.lands,hb'.rights,gr.sl DeedEnc.len (by omega) (DeedEnc.e (Rd.of_le hle.1)) (by simp;omega),hb'.cap⟩
section
variable {X:XP} {Q:Leaf->LH->Prop}
theorem copy_end{α:Type}{Enc:α->List Value->Prop}{h h₁:LH}{K:Value->T}{tS el:TypeId}{s by_:Nat}{z:Value}{p:Option Addr}{n c r:Nat}{l:List α}{x:α}{ws:List Value}(hu:Tryz.prog.underlying tS=some (.slice el))(hi:(Tryz.prog.info? el).map (fun i=>(i.size,i.bytes,i.zero))=some (s,by_,some z))(hsz:z.cells.size=s)(hb:by_<=1024)(hn:n+1<=2^30)
 (g:Growing Enc el s h.get h₁.get p n c l)(hle:h.le h₁)(he:Enc x ws)(hl:ws.length=s)(one:∀ v∈ws,isOne v=true)(hc:∀ (j:Nat) w,ws[j]?=some w->h₁.get.cell? (Addr.add ⟨r,0,none⟩ j)=some w)
 (hk:∀ p' c' h',h.le h'->Growing Enc el s h.get h'.get p' (n+1) c' (l++[x])->(K (.slice p' (n+1) c')).wp X Tryz.prog Q h'):(T.sem false (Builtin.append_ #[tS,tS] tS #[.slice p n c,.slice (some ⟨r,0,none⟩) 1 1]) K).wp X Tryz.prog Q h₁ :=
 t_growR (h₀:=h) x ws rfl rfl hu hi hsz hb hn g hle he hl hc one fun p' c' h' a _ b=>hk p' c' h' a b
end
set_option maxRecDepth 10000 in
theorem c3500{h:LH}(hch:h.chans=[])(hpe:h.pend=[])(hkd:Kinds h.get)(htk:TitleK h.get){f:TC}{x:TF}(hx:TreatyR h.get f x){g:BookC}{b:Book}(hbk:BookR h.get g b){q:Option Addr}{m cq:Nat}{y:Deed}(hy:Sl IntE 1 h.get q m y.lands)
 (right:Int)(hri:0<=right/\right<=255)(by_:Int)(hby:0<=by_/\by_<=255)(land:Int)(hla:0<=land/\land<=255)(day:Int)(hd:0<=day/\day<=65535){pp:Option Addr}{pn pc:Nat}{picks:List Int}(hp:Sl U16E 1 h.get pp pn picks) :
  FW XT Tryz.prog 3 #[treatyV f x,bookV g,deedV y q m cq,.int .u8 right,.int .u8 by_,.int .u8 land,.int .u16 day,.slice pp pn pc] h (Fin h):=by
 refine w3500 _ _ _ _ _ _ _ _ _ _ _ _ _ _ _ _ _ _ _ _ _ _ _ _ _ _ _ _ _ _ _ _ _ _ _ _ _ _ XT_ok ?_;unfold n3500;have n0:=hbk.owners.1;have n1:=hbk.lands.1;have n2:=hbk.rights.1;have n3:=hbk.deeds.1;refine t_blk (fun vs h'=>vs=[.bool false]/\h=h'/\checkT x=0/\BookOk b/\0<g.n0/\0<g.n1/\0<g.n2) ?_ ?_
 ·refine t_pu (c2031 hx) ?_;refine yI (fun _=>?_) (fun e0=>?_)
  ·refine t_shown hkd (.of hch hpe (LH.le_refl _)) fun h' hh=>?_;refine gI ?_;refine gZ ?_;exact t_ret hh.fin
  have hcx:=fit_ok (by simpa using e0);refine t_call (FW.top (c3501 hbk)) ?_;rintro _ _ ⟨rfl,t,rfl⟩;refine yI (fun _=>?_) (fun _=>?_)
  ·refine t_shown hkd (.of hch hpe (LH.le_refl _)) fun h' hh=>?_;refine gI ?_;refine gZ ?_;exact t_ret hh.fin
  refine t_call (FW.top (c3502 hbk)) ?_;rintro _ _ ⟨rfl,z,rfl,hz⟩;refine yI (fun _=>?_) (fun e1=>?_)
  ·refine t_shown hkd (.of hch hpe (LH.le_refl _)) fun h' hh=>?_;refine gI ?_;refine gZ ?_;exact t_ret hh.fin
  refine t_cond (fun _=>?_) (fun e2=>?_)
  ·refine t_shown hkd (.of hch hpe (LH.le_refl _)) fun h' hh=>?_;refine gI ?_;refine gZ ?_;exact t_ret hh.fin
  refine t_cond (fun _=>?_) (fun e3=>?_)
  ·refine t_shown hkd (.of hch hpe (LH.le_refl _)) fun h' hh=>?_;refine gI ?_;refine gZ ?_;exact t_ret hh.fin
  refine t_cond (fun _=>?_) (fun e4=>?_)
  ·refine t_shown hkd (.of hch hpe (LH.le_refl _)) fun h' hh=>?_;refine gI ?_;refine gZ ?_;exact t_ret hh.fin
  have g0:g.n0≠0:=by simpa using e2
  have g1:g.n1≠0:=by simpa using e3
  have g2:g.n2≠0:=by simpa using e4
  exact t_again ⟨rfl,rfl,hcx,hz (by simpa using e1),by omega,by omega,by omega⟩
 rintro vs _ ⟨rfl,rfl,hcx,ok,g0,g1,g2⟩;have hnum:=check_numbers hcx;have h8:=ok.deeds8;have m1:=ok.lands.many;have m0:=ok.owners.many;have m2:=ok.rights3;have hl0:x.lands≠0:=by omega
 have hr0:(g.n2:Int)≠0:=by omega
 have hx10:=hnum.2.2.2.2.2.2;obtain⟨er,hr1,hr2⟩:=mod_in (m:=(g.n2:Int)) (n:=right) (by omega) (by omega);obtain⟨ek,hk1,hk2⟩:=mod_in (m:=x.lands) (n:=land) (by omega) (by omega);have hd9:=day_mod day;rw[er,ek];generalize right%(g.n2:Int)=r at hr1 hr2;generalize land%x.lands=k at hk1 hk2;have hr:0<=r/\r<b.rights.length:=by omega
 refine gZ ?_;refine t_pu (c2032 hd) ?_;generalize day%10000=d at hd9;refine gZ ?_;refine t_gr (c3503 htk hx hcx hbk ok (by omega) (by omega) hr hp) ?_;rintro _ h1 le1 ⟨f1,rfl,hx1⟩;have hlen:=Ow.ownedL_len (who:=Ow.ownerF b r) (no:=b.owners.length) (nl:=b.lands.length) (picks:=picks) x.events 0;have hmem:=fun e=>Ow.ownedL_mem (who:=Ow.ownerF b r) (no:=b.owners.length) (nl:=b.lands.length) (picks:=picks) (x:=e) x.events 0;obtain⟨E,hE⟩ : ∃ E,E=Ow.ownedL (Ow.ownerF b r) b.owners.length b.lands.length picks 0 x.events:=⟨_,rfl⟩
 rw[<- hE]at hx1 hlen hmem ⊢;have hce:checkT { x with events:=E }=0:=check_events hcx (by omega) fun e he=>event_ok.1 (check_event hcx e (hmem e he));have ae:askedDayT { x with events:=E } k d=0:=asked_fit hce ⟨hk1,hk2⟩ hd9;have hn1:=hx1.2.1;have ev1:treatyV f1 { x with events:=E }=.agg #[.int .i64 x.items,.int .i64 x.lands,.int .i64 x.start,.int .i64 x.depend,.int .i64 x.refuse,.int .i64 x.turn,.slice f1.p f1.n f1.c]:=rfl;rw[ev1];refine gZ ?_;obtain⟨bn,hbn⟩ : ∃ bn:Nat,by_=bn:=⟨by_.toNat,by omega⟩
 subst hbn;have hrot:=Ow.rot_len b.deeds bn;refine t_loopB (fun mm vs h'=>h1.le h'/\∃ (j:Nat) (p:Option Addr) (n c:Nat),vs=[.int .i64 ((g.n3:Int)-1-j),.slice g.p0 g.n0 g.c0,.slice g.p1 g.n1 g.c1,.slice g.p2 g.n2 g.c2,.slice p n c]/\j<=g.n3/\mm=g.n3-j/\Growing (DeedEnc h1.get) 35 8 h1.get h'.get p n c ((Ow.rot b.deeds bn).reverse.take j))
  (fun vs h'=>h1.le h'/\∃ (i:Int) (p:Option Addr) (n c:Nat),vs=[.int .i64 i,.slice g.p0 g.n0 g.c0,.slice g.p1 g.n1 g.c1,.slice g.p2 g.n2 g.c2,.slice p n c]/\Growing (DeedEnc h1.get) 35 8 h1.get h'.get p n c (Ow.rot b.deeds bn).reverse)
  ⟨LH.le_refl _,0,none,0,0,by rw[wrap_id (by omega) (by omega)];simp,Nat.zero_le _,rfl,Growing.nil⟩ ?_ ?_
 ·rintro Y mm vs h₁ hY ⟨le1',j,p,n,c,rfl,hj,rfl,gr⟩;have hng:=gr.count DeedEnc.len (by omega);have hjl:((Ow.rot b.deeds bn).reverse.take j).length<=8:=by rw[List.length_take];omega
  refine yJ (fun e1=>?_) (fun e1=>?_)
  ·have hidx:Int.tmod (IntKind.i64.wrap ((g.n3:Int)-1-j+IntKind.i64.wrap (bn:Int))) (g.n3:Int)=(((b.deeds.length-1-j+bn)%b.deeds.length:Nat):Int):=by
    rw[wrap_id (n:=(bn:Int)) (by omega) (by omega),wrap_id (by omega) (by omega),Int.tmod_eq_emod_of_nonneg (by omega),n3];have:(b.deeds.length:Int)-1-j+bn=((b.deeds.length-1-j+bn:Nat):Int):=by omega
    rw[this];rfl
   have hlt:(b.deeds.length-1-j+bn)%b.deeds.length<b.deeds.length:=Nat.mod_lt _ (by omega);have hst:=Ow.rot_back b.deeds bn j (by omega);rw[hidx];generalize (b.deeds.length-1-j+bn)%b.deeds.length=i at hlt hst;obtain⟨e,a,he,ha,k0,k1,k2,k3,k4,⟨q',m',c',k5,sl⟩,k6,k7⟩:=(hbk.le le1.1).deeds.at (i:=i) (by omega);have htake:(Ow.rot b.deeds bn).reverse.take (j+1)=(Ow.rot b.deeds bn).reverse.take j++[e]:=by
    rw[List.take_add_one,hst,he];rfl
   have hws:DeedEnc h1.get e (dCells e q' m' c'):=⟨q',m',c',rfl,sl⟩
   have k0:=Cells.cell?_le le1'.1 k0;have k1:=Cells.cell?_le le1'.1 k1;have k2:=Cells.cell?_le le1'.1 k2;have k3:=Cells.cell?_le le1'.1 k3;have k4:=Cells.cell?_le le1'.1 k4;have k5:=Cells.cell?_le le1'.1 k5;have k6:=Cells.cell?_le le1'.1 k6;have k7:=Cells.cell?_le le1'.1 k7;have hn0:(g.n3:Int)≠0:=by omega
   have hin:0<=(i:Int)/\(i:Int)<(g.n3:Int):=by omega
   refine gZ ?_;refine t_loadStr k0 ?_;refine gZ ?_;refine t_buildR (dCells e q' m' c') und1501 inf1506 (by decide) (by decide) (by kernel_rfl) ?_;intro r7 h7 le7 _ hr7;refine gZ ?_;refine t_growR (h₀:=h1) (Enc:=DeedEnc h1.get) e (dCells e q' m' c') rfl rfl und1501 inf1506 rfl (by omega) (by omega) (gr.le le7.1) (LH.le_trans le1' le7) hws rfl hr7 (d_one e q' m' c') ?_;intro p' c8 h8 le8 kp8 g8';refine gZ ?_;refine t_again (hY (g.n3-(j+1)) _ _ (by omega) ⟨le8,j+1,p',n+1,c8,?_,by omega,rfl,by rw[htake];exact g8'⟩);rw[wrap_id (by omega) (by omega)];congr 2;omega
  ·refine gH ⟨le1',_,p,n,c,rfl,?_⟩;have:(Ow.rot b.deeds bn).reverse.take j=(Ow.rot b.deeds bn).reverse:=List.take_of_length_le (by simp;omega);rw[<- this];exact gr
 rintro vs h2 ⟨le12,i,p,n,c,rfl,gr⟩;have le2:=LH.le_trans le1 le12;refine gZ ?_;have hperm:=Ow.rot_perm b.deeds bn;have hbo:BookR h2.get { g with p3:=p,n3:=n,c3:=c } { b with deeds:=(Ow.rot b.deeds bn).reverse } :=
  have hb':=hbk.le le2.1
  ⟨hb'.owners,hb'.lands,hb'.rights,gr.sl DeedEnc.len (by omega) (DeedEnc.e (Rd.of_le le12.1)) (by show (Ow.rot b.deeds bn).reverse.length<_;simp;omega),hb'.cap⟩
 have oko:BookOk { b with deeds:=(Ow.rot b.deeds bn).reverse }:=ok.perm rfl rfl rfl hperm;have hE2:Ow.ownedL (Ow.ownerF { b with deeds:=(Ow.rot b.deeds bn).reverse } r) b.owners.length b.lands.length picks 0 x.events=E:=by
  rw[hE];exact Ow.ownedL_same _ _ fun e _=>Ow.owner_perm (b:=b) (o:={ b with deeds:=(Ow.rot b.deeds bn).reverse }) rfl rfl (Ow.upTo_perm hperm) _ _
 refine t_gr (c3503 (htk.le le2.1) (hx.le le2.1) hcx hbo oko (by show 0<b.owners.length;omega) (by show 0<b.lands.length;omega) hr (hp.le U16E.grow le2.1)) ?_;rintro _ h3 le3 ⟨f2,rfl,hx2⟩;have le03:=LH.le_trans le2 le3;have le13:=LH.le_trans le12 le3;rw[hE2]at hx2 ⊢;have hn2:=hx2.2.1;have ev2:treatyV f2 { x with events:=E }=.agg #[.int .i64 x.items,.int .i64 x.lands,.int .i64 x.start,.int .i64 x.depend,.int .i64 x.refuse,.int .i64 x.turn,.slice f2.p f2.n f2.c]:=rfl;rw[ev2];have hsame:SameOn { x with events:=E } { x with events:=E } k d:=⟨rfl,fun _ _=>rfl⟩
 refine gZ ?_;refine t_blk (fun vs h'=>vs=[.bool false]/\h3.le h') ?_ ?_
 ·refine yF ?_;refine yF ?_;rw[<- ev1,<- ev2];refine t_gr (c2034 (hkd.le le03.1) (hx1.le le13.1) hx2 ae ae hsame) ?_;rintro _ h4 le4 rfl;refine yF ?_;have hnn:f1.n=f2.n:=by
   rw[hn1,hn2]
  refine t_cond (fun e=>?_) (fun _=>?_)
  ·rw[hnn]at e;simp at e
  exact t_again ⟨rfl,le4⟩
 rintro vs h4 ⟨rfl,le4⟩;have le04:=LH.le_trans le03 le4;refine gZ ?_;refine t_blk (DeedEnd h4 g b y) ?_ ?_
 ·have hbB:=hbk.le le04.1;have one:=d_one y q m cq;have enc:DeedEnc h4.get y (dCells y q m cq):=⟨q,m,cq,rfl,hy.le IntE.grow le04.1⟩
  refine t_both ?_ ?_
  ·refine t_build0G (h₀:=h4) (Enc:=DeedEnc h4.get) und1501 inf1506 (LH.le_refl _) fun r0 h5 hr0 le5 gA=>?_;refine gZ ?_;refine t_both ?_ ?_
   ·refine t_copy (h₀:=h4) rfl rfl und1501 und1501 inf1506 rfl (by omega) (by omega) gA le5 (DeedB.of (Rd.of_le le5.1) hbB.deeds) deedTold fun p2 c2 h6 le6 _ gB=>?_;refine gZ ?_;refine t_buildR (dCells y q m cq) und1501 inf1506 (by decide) (by decide) (by kernel_rfl) fun r7 h7 le7 hr7 e7=>?_;refine gZ ?_;refine copy_end (h:=h4) und1501 inf1506 rfl (by omega) (by omega) (gB.le le7.1) (LH.le_trans le6 le7) enc rfl one e7 fun p' c' h' le' g'=>?_;refine gZ ?_;exact t_again (deedEnd_of hbB h8 le' g')
   ·refine t_buildR (dCells y q m cq) und1501 inf1506 (by decide) (by decide) (by kernel_rfl) fun r7 h7 le7 hr7 e7=>?_;refine gZ ?_;have le47:=LH.le_trans le5 le7;refine t_copy (h₀:=h4) rfl rfl und1501 und1501 inf1506 rfl (by omega) (by omega) (gA.le le7.1) le47 (DeedB.of (Rd.of_le le47.1) hbB.deeds) deedTold fun p2 c2 h6 le6 kp gB=>?_;refine gZ ?_;have e8:∀ (j:Nat) w,(dCells y q m cq)[j]?=some w->h6.get.cell? (Addr.add ⟨r7,0,none⟩ j)=some w:=fun j w hj=>?_
    ·refine copy_end (h:=h4) und1501 inf1506 rfl (by omega) (by omega) gB le6 enc rfl one e8 fun p' c' h' le' g'=>?_;refine gZ ?_;exact t_again (deedEnd_of hbB h8 le' g')
    ·have:=e7 j w hj;rw[add_plain,Nat.zero_add]at this ⊢;unfold Cells.cell? at this ⊢;cases h9:h7.get r7 with
     | none=>rw[h9]at this;simp at this
     | some z =>
      rw[h9]at this;rw[kp r7 z (fun a ha e=>?_) h9]
      ·exact this
      ·cases ha;obtain⟨cs,hcs⟩:=own_of gA;have e:r0=r7:=e;rw[e,hr7]at hcs;cases hcs
  ·refine t_buildR (dCells y q m cq) und1501 inf1506 (by decide) (by decide) (by kernel_rfl) fun r7 h7 le7 hr7 e7=>?_;refine gZ ?_;refine t_build0G (h₀:=h4) (Enc:=DeedEnc h4.get) und1501 inf1506 le7 fun r0 h5 hr0 le5 gA=>?_;refine gZ ?_;have le47:=LH.le_trans le7 le5;refine t_copy (h₀:=h4) rfl rfl und1501 und1501 inf1506 rfl (by omega) (by omega) gA le47 (DeedB.of (Rd.of_le le47.1) hbB.deeds) deedTold fun p2 c2 h6 le6 kp gB=>?_;refine gZ ?_;have e8:∀ (j:Nat) w,(dCells y q m cq)[j]?=some w->h6.get.cell? (Addr.add ⟨r7,0,none⟩ j)=some w:=fun j w hj=>?_
   ·refine copy_end (h:=h4) und1501 inf1506 rfl (by omega) (by omega) gB le6 enc rfl one e8 fun p' c' h' le' g'=>?_;refine gZ ?_;exact t_again (deedEnd_of hbB h8 le' g')
   ·have:=e7 j w hj;rw[add_plain,Nat.zero_add]at this ⊢;unfold Cells.cell? at this ⊢;cases h9:h7.get r7 with
    | none=>rw[h9]at this;simp at this
    | some z =>
     rw[h9]at this;rw[kp r7 z (fun a ha e=>?_) (le5.1 _ _ h9)]
     ·exact this
     ·cases ha;have e:r0=r7:=e;rw[e,h9]at hr0;cases hr0
 rintro vs h5 ⟨p5,n5,c5,rfl,le5,hbm⟩;have le05:=LH.le_trans le04 le5;have hx5:=hx.le le05.1;have hfn:=hx.2.1;refine gZ ?_;refine t_loopB (fun mm vs h'=>h5=h'/\∃ j:Nat,vs=[.bool false,.int .i64 j]/\j<=f.n/\mm=f.n-j/\∀ (i:Nat) e,i<j->x.events[i]?=some e->e.day<y.first) (fun vs h'=>h5=h'/\∃ i:Int,vs=[.bool false,.int .i64 i]/\∀ e∈x.events,e.day<y.first)
  ⟨rfl,0,rfl,Nat.zero_le _,rfl,fun i e hi=>absurd hi (Nat.not_lt_zero _)⟩ ?_ ?_
 ·rintro Y mm vs _ hY ⟨rfl,j,rfl,hj,rfl,hall⟩;refine yJ (fun e1=>?_) (fun e1=>?_)
  ·obtain⟨e,a,he,ha,k0,k1,k2,k3,k4⟩:=hx5.2.at (i:=j) (by omega);have hin:0<=(j:Int)/\(j:Int)<(f.n:Int):=by omega
   refine yJ (fun e2=>?_) (fun e2=>?_)
   ·refine t_shown hkd (.of hch hpe le05) fun h' hh=>?_;refine gI ?_;refine gZ ?_;exact t_ret hh.fin
   ·refine t_again (hY (f.n-(j+1)) _ _ (by omega) ⟨rfl,j+1,?_,by omega,rfl,fun i e' hi he'=>?_⟩)
    ·rw[wrap_id (by omega) (by omega)];rfl
    ·by_cases e3:i<j
     ·exact hall i e' e3 he'
     ·obtain rfl:i=j:=by omega
      rw[he]at he';cases he';omega
  ·refine gH ⟨rfl,_,rfl,fun e he=>?_⟩;obtain⟨i,hi⟩:=List.mem_iff_getElem?.1 he;have:=(List.getElem?_eq_some_iff.1 hi).1;exact hall i e (by have:=hx.2.1;omega) hi
 rintro vs _ ⟨rfl,i,rfl,hlate⟩;refine gZ ?_;refine t_blk (fun vs h'=>vs=[.bool false]/\h5=h'/\BookOk { b with deeds:=b.deeds++[y] }) ?_ ?_
 ·refine t_if (fun _=>?_) (fun _=>?_)
  ·refine t_shown hkd (.of hch hpe le05) fun h' hh=>?_;refine gI ?_;refine gZ ?_;exact t_ret hh.fin
  refine t_lenStr und9 ?_;refine yJ (fun _=>?_) (fun _=>?_)
  ·refine t_shown hkd (.of hch hpe le05) fun h' hh=>?_;refine gI ?_;refine gZ ?_;exact t_ret hh.fin
  refine t_call (FW.top (c3502 hbm)) ?_;rintro _ _ ⟨rfl,z,rfl,hz⟩;refine yI (fun _=>?_) (fun e1=>?_)
  ·refine t_shown hkd (.of hch hpe le05) fun h' hh=>?_;refine gI ?_;refine gZ ?_;exact t_ret hh.fin
  exact t_again ⟨rfl,rfl,hz (by simpa using e1)⟩
 rintro vs _ ⟨rfl,rfl,okm⟩;refine gZ ?_;have hE3:Ow.ownedL (Ow.ownerF { b with deeds:=b.deeds++[y] } r) b.owners.length b.lands.length picks 0 x.events=E:=by
  rw[hE];refine Ow.ownedL_same _ _ fun e he=>Ow.owner_perm (b:=b) (o:={ b with deeds:=b.deeds++[y] }) rfl rfl (Ow.upTo_more ?_) _ _;have:=hlate e he;split<;>omega
 refine t_gr (c3503 (htk.le le05.1) (hx.le le05.1) hcx hbm okm (by show 0<b.owners.length;omega) (by show 0<b.lands.length;omega) hr (hp.le U16E.grow le05.1)) ?_;rintro _ h6 le6 ⟨f3,rfl,hx3⟩;have le06:=LH.le_trans le05 le6;rw[hE3]at hx3 ⊢;have hn3:=hx3.2.1;have ev3:treatyV f3 { x with events:=E }=.agg #[.int .i64 x.items,.int .i64 x.lands,.int .i64 x.start,.int .i64 x.depend,.int .i64 x.refuse,.int .i64 x.turn,.slice f3.p f3.n f3.c]:=rfl;rw[ev3];refine yT ?_;have hnn:f3.n=f1.n:=by rw[hn1,hn3]
 refine t_cond (fun _=>?_) (fun e=>?_)
 ·rw[<- ev1,<- ev3];refine t_gr (c2034 (hkd.le le06.1) (hx1.le (LH.le_trans le13 (LH.le_trans le4 (LH.le_trans le5 le6))).1) hx3 ae ae hsame) ?_;rintro _ h7 le7 rfl;refine yT ?_;refine t_shown hkd (.of hch hpe (LH.le_trans le06 le7)) fun h' hh=>?_;exact t_ret hh.fin
 ·rw[hnn]at e;simp at e
end Go.Y.Tre
end
section
namespace Go.Proofs.YtjckkafejlcknaaGreatDoor
open Go.Y Go.Y.Tre
open Go.Y.Tre Go.ChangeShapes Go.WideShapes Go.RowKit
set_option maxRecDepth 100000
def doorW(os:Os):World :=
 { World.doorLaid Tryz.prog 200 os with heap:=(World.doorLaid Tryz.prog 200 os).heap.modify 3 fun o=>match o with
  | .cells _ t fz=>.cells (Go.Pinned.utf8FirstZ.map fun z:Nat=>Value.int .u8 (z:Int)).toArray t fz
  | o=>o }
theorem door_met(os:Os)(args:Array Value):laidMetH Tryz.prog Rows.treatyOwnedRow.laid ((doorW os).forCall (fun _ _=>0) ⟨#[],args,[]⟩).memory :=
 laidMetH_of_parts3 (fuel:=8) (laidMet_of_run' 8 (by kernel_rfl) (by kernel_rfl)) (by kernel_rfl) (by kernel_rfl)
theorem door_shaped(os:Os)(args:Array Value):((doorW os).forCall (fun _ _=>0) ⟨#[],args,[]⟩).Shaped Tryz.prog :=
 World.shaped_of_RefB (by kernel_rfl) (by kernel_rfl)
theorem treatyOwned_lifted(os:Os)(started:os.Started)(H:Type)(enc:TypeId×Value->H) :
  ReturnsInLeavingWide {} Tryz.checked os 3 .any (fun w args=>(Rows.treatyOwnedSpec.pre enc Tryz.prog Tryz.f3 [] false w args/\laidMetH Tryz.prog Rows.treatyOwnedRow.laid w)/\sizedMet enc Tryz.prog Tryz.f3 (OpenSpec.ofChange Rows.treatyOwnedSpec) false w args)
   (Rows.treatyOwnedSpec.post enc Tryz.prog Tryz.f3 false true false false):=by
 refine row_leaving (C:=Tryz.checked) (tb:=4) own started Tryz.func3 (by kernel_rfl) rfl lo ?_ (by kernel_rfl) Tryz.underlying4 ?_
  (ChangeSpec.witness_shaped (enc:=enc) (C:=Tryz.checked) (os:=os) (X:=fun w _=>laidMetH Tryz.prog Rows.treatyOwnedRow.laid w) false (doorW os) #[noTreaty,noBook,noDeedV,.int .u8 0,.int .u8 0,.int .u8 0,.int .u16 0,.slice none 0 0] 8 rfl (door_shaped os _) (by kernel_rfl) (by kernel_rfl) (by kernel_rfl) (door_met os _)) ?_
 ·exact fun t ht=>of_decide_eq_true (List.all_eq_true.1 (show (Tryz.f3.params.toList.all fun t=>decide (Tryz.prog.readableRec t=true/\t<Tryz.prog.types.size))=true by kernel_rfl) t ht)
 ·intro ds hd
  match ds,(show ds.length=8 from hd) with
  | [d0,d1,d2,d3,d4,d5,d6,d7],_=>rfl
 ·intro W base args ds ps hval0 hA0 hz0 hL;have hval:∀ (j:Nat) t v,Tryz.f3.params[j]?=some t->args[j]?=some v->Value.okWide Tryz.prog W .any base t v:=hval0;have hz:∀ (j:Nat) t d,Tryz.f3.params.toList[j]?=some t->ds[j]?=some d->Light Tryz.prog t d:=hz0;have hA:DataW.TrodAll enc Tryz.prog W 0 (fun _=>true) true Tryz.f3.params.toList args.toList ds ps:=hA0;rw[Tryz.params3]at hval hz hA;obtain⟨v0,v1,v2,v3,v4,v5,v6,v7,d0,d1,d2,d3,d4,d5,d6,d7,q00,q01,q02,q03,q04,q05,q06,q07,rfl,rfl,rfl,h0,h1,h2,h3,h4,h5,h6,h7⟩:=trodAll8 hA;obtain⟨f0,u0,rfl,hu0⟩:=treaty_arg TT (hval 0 24 v0 rfl rfl) (hz 0 24 d0 rfl rfl) h0;obtain⟨f1,u1,rfl,hu1⟩:=book_arg OT (hval 1 29 v1 rfl rfl) (hz 1 29 d1 rfl rfl) h1;obtain⟨q2,m2,k2,e2,rfl,s2⟩:=deed_arg OT (hval 2 35 v2 rfl rfl) (hz 2 35 d2 rfl rfl) h2;obtain⟨x3,rfl,_,_,w3⟩:=open_int und5 (hval 3 5 v3 rfl rfl) h3;obtain⟨x4,rfl,_,_,w4⟩:=open_int und5 (hval 4 5 v4 rfl rfl) h4;obtain⟨x5,rfl,_,_,w5⟩:=open_int und5 (hval 5 5 v5 rfl rfl) h5;obtain⟨x6,rfl,_,_,w6⟩:=open_int und57 (hval 6 36 v6 rfl rfl) h6;obtain⟨p7,n7,k7,l7,rfl,s7⟩:=u16s_arg und58 und57 cells57 bytes57 (hval 7 37 v7 rfl rfl) (hz 7 37 d7 rfl rfl) h7;exact FW.mono (c3500 (h:=⟨getW W,[],[],[]⟩) rfl rfl (kinds_of_laid hL (by repeat first|exact List.Mem.head _|apply List.Mem.tail) (by repeat first|exact List.Mem.head _|apply List.Mem.tail)) (title_of_laid hL (by repeat first|exact List.Mem.head _|apply List.Mem.tail)) hu0 hu1 s2 x3 (wf_u8 w3) x4 (wf_u8 w4) x5 (wf_u8 w5) x6 (wf_u16 w6) s7) fun r h' hq=>⟨hq.1,hq.2.2.1⟩
set_option maxHeartbeats 0 in
theorem treatyOwned_closed:joinedFacts Tryz.prog 3 Tryz.f3 Rows.treatyOwnedSpec Rows.treatyOwnedRow=true:=by
 unfold joinedFacts;simp only[Bool.and_eq_true]
 and_intros
 all_goals (as_aux_lemma=>kernel_rfl)
theorem treatyOwned_named:Tryz.prog.funcNamed Rows.treatyOwnedRow.func=some 3:=by kernel_rfl
theorem treatyOwned_row:Rows.TreatyOwnedSaid :=
 OpenClaim.holds_of_wide_leaving 3 Tryz.f3 rfl rfl rfl rfl rfl rfl rfl ⟨rfl,rfl,rfl,rfl,rfl⟩ rfl rfl rfl rfl rfl treatyOwned_named Tryz.func3 treatyOwned_closed
  (of_decide_eq_true (by kernel_rfl)) (by unfold Func.isWrapper;first|(rw[if_pos (by decide +kernel)];kernel_rfl)|(rw[if_neg (by decide +kernel)];exact⟨rfl,rfl⟩))
  (fun os started H enc _=>treatyOwned_lifted os started H enc)
theorem treatyOwned_holds:Rows.TreatyOwnedCardSaid :=
 card_goes [.data,.funcsDeep,.data,.funcsDeep,.pinned] true Rows.treatyOwnedCard.stood.harness false treatyOwned_row (by kernel_rfl) treatyOwned_row_tie rfl ⟨rfl,rfl⟩ (by kernel_rfl) rfl
  (fun f fn hf hfn=>by
   obtain rfl:f=3:=Option.some.inj (treatyOwned_named.symm.trans hf) |>.symm;obtain rfl:fn=Tryz.f3:=(Option.some.inj (Tryz.func3.symm.trans hfn)).symm;exact⟨by kernel_rfl,fun j t ht=>by
    have hm:=Array.mem_of_getElem? ht;have:=of_decide_eq_true (List.all_eq_true.1 (show (Tryz.f3.params.toList.all fun t=>decide (Tryz.prog.wantsStandIn t=false))=true by kernel_rfl) t (Array.mem_toList_iff.2 hm));exact this⟩)
  (by kernel_rfl)
end Go.Proofs.YtjckkafejlcknaaGreatDoor
end
#print axioms Go.Proofs.YtjckkafejlcknaaGreatDoor.treatyOwned_holds

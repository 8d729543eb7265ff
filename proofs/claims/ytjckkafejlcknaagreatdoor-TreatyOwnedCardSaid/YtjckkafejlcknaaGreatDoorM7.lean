/- Contracts and laws for the proof, joined by a program. No condition. -/
import Derived.Test.YtjckkafejlcknaaGreatDoorM6
set_option linter.all false
noncomputable section
open Go Go.Conc Go.TM Go.Proofs
set_option maxRecDepth 100000
open Go.IntKind (wrap)
section
namespace Go.Y.Tre
open Go.TM.Tr
open Go.TM.Ow (Piece St Deed Right Book Heirs)
attribute [local irreducible] T.wp CV FWK
theorem und1537:Tryz.prog.underlying 143=some (.slice 235):=by kernel_rfl
theorem inf1580:(Tryz.prog.info? 235).map (fun i=>(i.size,i.bytes,i.zero))=some (5,40,some (.agg #[.int .i64 0,.int .i64 0,.int .i64 0,.int .i64 0,.int .i64 0])):=by kernel_rfl
theorem c3580{h:LH}{h0:Cells}{N:Nat}{k:StA}{f:BookC}{b:Book}{s:St}{hs:Nat->Nat}(hbk:BookR h0 f b)(ok:BookOk b)(hl:h0.le h.get)(st:StO N h0 h k f b s hs){i:Nat}{d:Deed}(hd:b.deeds[i]?=some d)(hN:N+d.lands.length+1<=2^30){F:St->Piece->St}{do0:Value}
 (hdo:∀ (M:Nat) (s':St) (h':LH) (hs':Nat->Nat) (l:Int),StO M h0 h' k f b s' hs'->h0.le h'.get->CV X0 Tryz.prog do0 #[.agg #[.int .i64 d.right,l]] h' fun r h''=>r=.tuple #[]/\(∃ hs'',StO M h0 h'' k f b (F s' (d.right,l)) hs'')/\Ov h0 h' h'') :
  FW X0 Tryz.prog 179 #[.pointer (some ⟨k.sb,0,none⟩),.int .i64 i,do0] h fun r h'=>r=.tuple #[]/\(∃ hs',StO (N+d.lands.length) h0 h' k f b (St.each d F s d.lands) hs')/\Ov h0 h h':=by
 refine w3580 _ _ _ X0_ok ?_;unfold n3580;have hn3:=hbk.deeds.1;have hil:=(List.getElem?_eq_some_iff.1 hd).1;have hdm:=List.mem_of_getElem? hd;obtain⟨d',a,hd',ha,k0,k1,k2,k3,k4,⟨q,n,c,k5,sl0⟩,k6,k7⟩:=hbk.deeds.at (i:=i) (by omega);rw[hd]at hd';cases hd';have hln:=sl0.1;have hlb:=sl0.2.1;have hin:0<=(i:Int)/\(i:Int)<(f.n3:Int):=by omega
 have y3:=st.deedsAt;have g0:=Cells.cell?_le hl k0;have g1:=Cells.cell?_le hl k1;have g2:=Cells.cell?_le hl k2;have g3:=Cells.cell?_le hl k3;have g4:=Cells.cell?_le hl k4;have g5:=Cells.cell?_le hl k5;have g6:=Cells.cell?_le hl k6;have g7:=Cells.cell?_le hl k7;refine gZ ?_;refine t_loadStr g0 ?_;refine gZ ?_;refine t_loop (fun mm vs h'=>∃ (j:Nat) (s':St) (hs':Nat->Nat),vs=[.int .i64 j]/\j<=n/\mm=n-j/\StO (N+j) h0 h' k f b s' hs'/\Ov h0 h h'/\St.each d F s d.lands=St.each d F s' (d.lands.drop j)) ⟨0,s,hs,rfl,Nat.zero_le _,rfl,st,Ov.refl _ _,rfl⟩ ?_;rintro Y mm vs h1 hY ⟨j,s1,hs1,rfl,hj,rfl,st1,ov1,he⟩;have hl1:=ov1.base hl;refine yJ (fun e1=>?_) (fun e1=>?_)
 ·obtain⟨v,av,hv,hav,e2⟩:=(sl0.le IntE.grow hl1).at (i:=j) (by omega);unfold IntE at e2;rw[add_zero']at e2;have hin2:0<=(j:Int)/\(j:Int)<(n:Int):=by omega
  rw[drop_at hv,St.each]at he;refine gZ ?_;refine t_blk (fun vs h'=>∃ (w o:Int),vs=[.int .i64 i,.int .i64 d.right,.int .i64 v,.int .i64 w,.int .i64 o]/\StO (N+j) h0 h' k f b s1 s1.root/\Ov h0 h h'/\(w=0↔s1.whole d (d.right,v)=true)) ?_ ?_
  ·have both:∀ {Q:Leaf->LH->Prop} {K:Value->T},(∀ w h2,StO (N+j) h0 h2 k f b s1 s1.root->Ov h0 h h2->(w=0↔s1.whole d (d.right,v)=true)->(K (.int .i64 w)).wp X0 Tryz.prog Q h2)->(T.call false 183 #[.pointer (some ⟨k.sb,0,none⟩),deedV d q n c,.agg #[.int .i64 d.right,.int .i64 v]] K).wp X0 Tryz.prog Q h1:=fun hk=>by
    refine t_call (c3584 hbk ok hl1 st1 hdm (d.right,v)) ?_;rintro _ h2 ⟨⟨w,rfl,hw⟩,st2,ov2⟩;exact hk w h2 st2 (ov1.trans ov2) hw
   refine t_both ?_ ?_
   ·refine both fun w h2 st2 ov2 hw=>?_;refine gZ ?_;refine t_both ?_ ?_
    ·refine t_pu (c3515 st2 (d.right,v)) ?_;refine gZ ?_;exact t_again ⟨w,_,rfl,st2,ov2,hw⟩
    ·refine gZ ?_;refine t_pu (c3515 st2 (d.right,v)) ?_;refine gZ ?_;exact t_again ⟨w,_,rfl,st2,ov2,hw⟩
   ·refine gZ ?_;refine both fun w h2 st2 ov2 hw=>?_;refine gZ ?_;refine t_pu (c3515 st2 (d.right,v)) ?_;refine gZ ?_;exact t_again ⟨w,_,rfl,st2,ov2,hw⟩
  rintro vs h2 ⟨w,o,rfl,st2,ov2,hw⟩;have hl2:=ov2.base hl;refine gZ ?_;refine t_blk (fun vs h'=>vs=[]/\(∃ hs',StO (N+j) h0 h' k f b (if s1.whole d (d.right,v)=true then F s1 (d.right,v) else s1) hs')/\Ov h0 h h') ?_ ?_
  ·refine t_cond (fun e3=>?_) (fun e3=>?_)
   ·refine t_callv (hdo _ _ _ _ v st2 hl2) ?_;rintro _ h3 ⟨rfl,⟨hs3,st3⟩,ov3⟩;refine gZ ?_;refine t_again ⟨rfl,⟨hs3,?_⟩,ov2.trans ov3⟩;rw[if_pos (hw.1 (by simpa using e3))];exact st3
   ·refine t_again ⟨rfl,⟨s1.root,?_⟩,ov2⟩;rw[if_neg (fun hh=>absurd (hw.2 hh) (by simpa using e3))];exact st2
  rintro vs h3 ⟨rfl,⟨hs3,st3⟩,ov3⟩;have eo:St.each d F s d.lands=St.each d F (if s1.whole d (d.right,v)=true then F s1 (d.right,v) else s1) (d.lands.drop (j+1)):=he;generalize (if s1.whole d (d.right,v)=true then F s1 (d.right,v) else s1)=s3 at st3 eo;obtain⟨pp,pn,pc,q1,q2,q3⟩:=st3.blk;have c14:h3.get.cell? (Addr.add ⟨k.sb,0,none⟩ 14)=some (.slice pp pn pc):=by rw[add_plain];exact cell_blk q1 rfl
  refine gZ ?_;refine t_buildR ([(i:Int),d.right,v,w,o].map (Value.int .i64)) und1537 inf1580 (by decide) (by decide) (by kernel_rfl) fun r h4 le4 _ hc=>?_;have st4:=st3.keep (h':=h4) fun x y hy=>le4.1 x y hy;have c14':=Cells.cell?_le le4.1 c14;have q1':=le4.1 _ _ q1;have q2':=q2.turn (g':=h4.get) fun _ _ _ hx=>le4.1 _ _ hx;refine gZ ?_;refine t_appIR (ws:=[(i:Int),d.right,v,w,o]) rfl rfl und1537 inf1580 rfl (by decide) rfl hc st4.dom q2' (by omega) fun p' c' h5 ov5 keep5 dom5 row5=>?_;have hsb:h5.get k.sb=some (true,.cells (stCells f k hs3 pp pn pc).toArray 145 (0,0)):=keep5 _ _ (fun a ha e=>by
   obtain⟨cs,hcs⟩:=q2'.block ha;rw[e,q1']at hcs;exact st3.types (by injection hcs with hcs;injection hcs with _ hcs;injection hcs)) q1'
  refine gZ ?_;have ea:Addr.add (Addr.add ⟨k.sb,0,none⟩ 14) 0=⟨k.sb,14,none⟩:=by rw[add_plain,add_plain]
  rw[ea];refine t_storeB hsb rfl (by rfl) fun h6 b6 hb6=>?_;rw[stCells_steps]at hb6;obtain⟨st6,ov6⟩:=st4.step (M:=N+(j+1)) q1' q2' ov5 keep5 dom5 row5 (by omega) b6 hb6;refine gZ ?_;refine t_again (hY (n-(j+1)) _ _ (by omega) ⟨j+1,s3,hs3,?_,by omega,rfl,st6,(ov3.trans (Ov.of_le le4)).trans ov6,eo⟩);rw[wrap_id (by omega) (by omega)];rfl
 ·refine gH ?_;refine gZ ?_;rw[List.drop_eq_nil_of_le (by omega),St.each]at he;have:j=d.lands.length:=by omega
  subst this;exact t_ret ⟨rfl,⟨hs1,by rw[he];exact st1⟩,ov1⟩
end Go.Y.Tre
end
section
namespace Go.TM
open Go.TM.Ow (Piece St Deed Right Book Heirs)
theorem StR.join{tS tP:TypeId}{N:Nat}{h0:Cells}{h h1:LH}{k:StA}{f:BookC}{b:Book}{s:St}{hs:Nat->Nat}{r:Nat}{x:Bool×Obj}(st:StR tS tP N h0 h k f b s hs)(hb:h0.le h.get)(hl:h.le h1)(hr:h.get r=none)(hx:h1.get r=some x) :
  ∃ h0':Cells,h0.le h0'/\h0'.le h1.get/\(∀ q,h0' q=none->h0 q=none)/\h0' r=some x/\StR tS tP N h0' h1 k f b s hs:=by
 refine⟨h0.upd r x,Cells.le_upd x (st.dom r hr),fun q y hq=>?_,upd_sub,Cells.upd_self _ _ _,st.fresh hl hr hx⟩;by_cases e:q=r
 ·rw[e,Cells.upd_self]at hq;rw[e,hx];exact hq
 ·rw[Cells.upd_ne _ _ e]at hq;exact hl.1 q y (hb q y hq)
end Go.TM
namespace Go.Y.Tre
open Go.TM.Tr
open Go.TM.Ow (Piece St Deed Right Book Heirs)
attribute [local irreducible] T.wp CV FWK
theorem new_at{h:Cells}{r:Nat}{v:Value}{el:TypeId}(hr:h r=some (true,.cells #[v] el (0,0))):h.cell? ⟨r,0,none⟩=some v:=cell_blk hr rfl
theorem c3576{h:LH}{h0:Cells}{N:Nat}{k:StA}{f:BookC}{b:Book}{s:St}{hs:Nat->Nat}(hbk:BookR h0 f b)(ok:BookOk b)(hl:h0.le h.get)(st:StO N h0 h k f b s hs){i:Nat}{d:Deed}(hd:b.deeds[i]?=some d)(hN:N+d.lands.length+1<=2^30) :
  FW X0 Tryz.prog 175 #[.pointer (some ⟨k.sb,0,none⟩),i] h fun r h'=>r=.tuple #[]/\(∃ hs',StO (N+d.lands.length) h0 h' k f b (s.give d) hs')/\Ov h0 h h':=by
 refine w3576 _ _ X0_ok ?_;unfold n3576;refine t_newG fun r h1 le1 hr0 hr=>?_;refine t_newG fun r' h2 le2 hr0' hr'=>?_;have z0:=Cells.cell?_le le2.1 (new_at hr);have z1:=new_at hr';refine gZ ?_;obtain⟨g1,a1,a2,a3,a4,st1⟩:=st.join hl le1 hr0 hr;obtain⟨g2,b1,b2,b3,b4,st2⟩:=st1.join a2 le2 hr0' hr';have sub:∀ q,g2 q=none->h0 q=none:=fun q hq=>a3 q (b3 q hq);have y0:=Cells.cell?_le b1 (new_at a4);have y1:=new_at b4;refine t_call (c3580 (F:=fun s p=>s.pass p (s.rootI d.to)) ((hbk.le a1).le b1) ok b2 st2 hd hN fun M s' h' hs' l st' hl'=>cv_fw X0_ok (by rfl) (FW.mono (c3581 ((hbk.le a1).le b1) ok hl' st' hd y0 y1 (d.right,l)) fun r h'' e=>⟨e.1,⟨_,e.2.1⟩,e.2.2⟩)) ?_;rintro _ h3 ⟨rfl,⟨hs',st3⟩,ov3⟩;refine gZ ?_;exact t_ret ⟨rfl,⟨hs',st3.weak sub⟩,((Ov.of_le le1).trans (Ov.of_le le2)).trans (ov3.weak sub)⟩
theorem c3578{h:LH}{h0:Cells}{N:Nat}{k:StA}{f:BookC}{b:Book}{s:St}{hs:Nat->Nat}(hbk:BookR h0 f b)(ok:BookOk b)(hl:h0.le h.get)(st:StO N h0 h k f b s hs){i:Nat}{d:Deed}(hd:b.deeds[i]?=some d)(hN:N+d.lands.length+1<=2^30) :
  FW X0 Tryz.prog 177 #[.pointer (some ⟨k.sb,0,none⟩),i] h fun r h'=>r=.tuple #[]/\(∃ hs',StO (N+d.lands.length) h0 h' k f b (s.hold d) hs')/\Ov h0 h h':=by
 refine w3578 _ _ X0_ok ?_;unfold n3578;refine t_newG fun r h1 le1 hr0 hr=>?_;refine t_newG fun r' h2 le2 hr0' hr'=>?_;have z0:=Cells.cell?_le le2.1 (new_at hr);have z1:=new_at hr';refine gZ ?_;obtain⟨g1,a1,a2,a3,a4,st1⟩:=st.join hl le1 hr0 hr;obtain⟨g2,b1,b2,b3,b4,st2⟩:=st1.join a2 le2 hr0' hr';have sub:∀ q,g2 q=none->h0 q=none:=fun q hq=>a3 q (b3 q hq);have y0:=Cells.cell?_le b1 (new_at a4);have y1:=new_at b4;refine t_call (c3580 (F:=fun s p=>{ s with pledge:=fun q=>if q=p then some d else s.pledge q }) ((hbk.le a1).le b1) ok b2 st2 hd hN fun M s' h' hs' l st' hl'=>cv_fw X0_ok (by rfl) (FW.mono (c3583 st' hd (Cells.cell?_le hl' y1) (Cells.cell?_le hl' y0) (d.right,l)) fun r h'' e=>⟨e.1,⟨_,e.2.1⟩,e.2.2⟩)) ?_;rintro _ h3 ⟨rfl,⟨hs',st3⟩,ov3⟩;refine gZ ?_;exact t_ret ⟨rfl,⟨hs',st3.weak sub⟩,((Ov.of_le le1).trans (Ov.of_le le2)).trans (ov3.weak sub)⟩
end Go.Y.Tre
end
section
namespace Go.Y.Tre
open Go.TM.Tr
open Go.TM.Ow (Piece St Deed Right Book Heirs)
attribute [local irreducible] T.wp CV FWK
def everyPiece(nr nl:Nat):List (List Value):=(List.range (nr*nl)).map fun m=>[.agg #[.int .i64 (m / nl:Nat),.int .i64 (m%nl:Nat)]]
theorem everyPiece_at{nr nl i j:Nat}(hi:i<nr)(hj:j<nl):(everyPiece nr nl)[i*nl+j]?=some [.agg #[.int .i64 (i:Nat),.int .i64 (j:Nat)]]:=by
 have h1:i*nl+j<nr*nl:=by
  have:(i+1)*nl<=nr*nl:=Nat.mul_le_mul_right _ hi;rw[Nat.add_mul]at this;omega
 have h2:(i*nl+j) / nl=i:=by
  rw[Nat.add_comm,Nat.mul_comm,Nat.add_mul_div_left _ _ (by omega),Nat.div_eq_of_lt hj];omega
 have h3:(i*nl+j)%nl=j:=by
  rw[Nat.add_comm,Nat.mul_comm,Nat.add_mul_mod_self_left,Nat.mod_eq_of_lt hj]
 unfold everyPiece;rw[List.getElem?_map,List.getElem?_range h1];simp only[Option.map_some,h2,h3]
theorem c3585{h₀:LH}{z0:Addr}{p1 p2:Option Addr}{n1 c1 n2 c2:Nat}(h1:h₀.get.cell? (Addr.add (Addr.add z0 0) 1)=some (.slice p1 n1 c1))(h2:h₀.get.cell? (Addr.add (Addr.add z0 0) 2)=some (.slice p2 n2 c2))(b1:n1<=1000)(b2:n2<=1000) :
  Hands X0 Tryz.prog (.func (.func 184) #[] #[.pointer (some z0)]) h₀ (everyPiece n2 n1):=by
 intro y J E hJ hE hyield h hle hJ0;refine cv_fw X0_ok (by rfl) (?_:FW X0 Tryz.prog 184 #[y,.pointer (some z0)] h _);refine w3585 _ _ X0_ok ?_;unfold n3585;have g2:=Cells.cell?_le hle.1 h2;refine gZ ?_;refine t_loop (fun mm vs h'=>∃ i:Nat,vs=[.int .i64 i]/\i<=n2/\mm=n2-i/\h₀.le h'/\J (i*n1) h') ⟨0,rfl,Nat.zero_le _,rfl,hle,by rw[Nat.zero_mul];exact hJ0⟩ ?_;rintro Y mm vs h3 hY ⟨i,rfl,hi,rfl,le3,hJ3⟩;refine yJ (fun e1=>?_) (fun e1=>?_)
 ·have g1:=Cells.cell?_le le3.1 h1;refine gZ ?_;refine t_loop (fun mm vs h'=>∃ j:Nat,vs=[.int .i64 j]/\j<=n1/\mm=n1-j/\h₀.le h'/\J (i*n1+j) h') ⟨0,rfl,Nat.zero_le _,rfl,le3,hJ3⟩ ?_;rintro Y' mm' vs h4 hY' ⟨j,rfl,hj,rfl,le4,hJ4⟩;refine yJ (fun e2=>?_) (fun e2=>?_)
  ·refine t_callv (hyield _ _ _ le4 (everyPiece_at (by omega) (by omega)) hJ4) ?_;rintro _ h5 ⟨le5,⟨rfl,hJ5⟩|⟨rfl,hE5⟩⟩
   ·refine gZ ?_;refine t_again (hY' (n1-(j+1)) _ _ (by omega) ⟨j+1,?_,by omega,rfl,le5,by rw[<- Nat.add_assoc];exact hJ5⟩);rw[wrap_id (by omega) (by omega)];rfl
   ·refine gZ ?_;refine gI ?_;refine gZ ?_;exact t_ret ⟨le5,.inr hE5⟩
  ·refine gH ?_;refine gZ ?_;have:j=n1:=by omega
   subst this;refine t_again (hY (n2-(i+1)) _ _ (by omega) ⟨i+1,?_,by omega,rfl,le4,by rw[Nat.add_mul,Nat.one_mul];exact hJ4⟩);rw[wrap_id (by omega) (by omega)];rfl
 ·refine gH ?_;refine gZ ?_;have:i=n2:=by omega
  subst this;refine t_ret ⟨le3,.inl ?_⟩;have:(everyPiece i n1).length=i*n1:=by simp[everyPiece]
  rw[this];exact hJ3
end Go.Y.Tre
end
section
namespace Go.TM.Ow
def pieceAt(nl m:Nat):Piece:=(((m / nl:Nat):Int),((m%nl:Nat):Int))
def St.mergeTo(nl:Nat)(s:St)(a c:Int)(m:Nat):St:=by
 classical exact { s with owns:=fun p=>if s.owns p=some a/\∃ q,q<m/\p=pieceAt nl q then some c else s.owns p }
theorem pieceAt_inj{nl m q:Nat}(h:pieceAt nl m=pieceAt nl q):m=q:=by
 unfold pieceAt at h;have h1:=(Prod.mk.inj h).1;have h2:=(Prod.mk.inj h).2;have h3:m / nl=q / nl:=by exact_mod_cast h1
 have h4:m%nl=q%nl:=by exact_mod_cast h2
 rw[<- Nat.div_add_mod m nl,<- Nat.div_add_mod q nl,h3,h4]
theorem mergeTo_zero{nl:Nat}{s:St}{a c:Int}:s.mergeTo nl a c 0=s:=by
 unfold St.mergeTo;cases s;simp
theorem mergeTo_at{nl:Nat}{s:St}{a c:Int}{m:Nat}:(s.mergeTo nl a c m).owns (pieceAt nl m)=s.owns (pieceAt nl m):=by
 unfold St.mergeTo;show (if _ then _ else _)=_;rw[if_neg];rintro⟨_,q,h,e⟩;have:=pieceAt_inj e;omega
theorem mergeTo_yes{nl:Nat}{s:St}{a c:Int}{m:Nat}(h:s.owns (pieceAt nl m)=some a):s.mergeTo nl a c (m+1)=(s.mergeTo nl a c m).pass (pieceAt nl m) c:=by
 unfold St.mergeTo St.pass;congr 1;funext p;show (if _ then _ else _)=if _ then _ else if _ then _ else _
 by_cases e:p=pieceAt nl m
 ·rw[if_pos ⟨by rw[e];exact h,m,by omega,e⟩,if_pos e]
 ·rw[if_neg e];by_cases e2:s.owns p=some a/\∃ q,q<m/\p=pieceAt nl q
  ·obtain⟨e3,q,e4,e5⟩:=e2;rw[if_pos ⟨e3,q,by omega,e5⟩,if_pos ⟨e3,q,e4,e5⟩]
  ·rw[if_neg e2,if_neg];rintro⟨e3,q,e4,e5⟩;rcases Nat.lt_or_ge q m with h1|h1
   ·exact e2 ⟨e3,q,h1,e5⟩
   ·have:q=m:=by omega
    subst this;exact e e5
theorem mergeTo_no{nl:Nat}{s:St}{a c:Int}{m:Nat}(h:s.owns (pieceAt nl m)≠some a):s.mergeTo nl a c (m+1)=s.mergeTo nl a c m:=by
 unfold St.mergeTo;congr 1;funext p;show (if _ then _ else _)=if _ then _ else _
 by_cases e2:s.owns p=some a/\∃ q,q<m/\p=pieceAt nl q
 ·obtain⟨e3,q,e4,e5⟩:=e2;rw[if_pos ⟨e3,q,by omega,e5⟩,if_pos ⟨e3,q,e4,e5⟩]
 ·rw[if_neg e2,if_neg];rintro⟨e3,q,e4,e5⟩;rcases Nat.lt_or_ge q m with h1|h1
  ·exact e2 ⟨e3,q,h1,e5⟩
  ·have:q=m:=by omega
   subst this;exact h (by rw[<- e5];exact e3)
theorem mergeTo_all{nr nl:Nat}{s:St}{d:Deed}(hne:s.rootI d.from_≠s.rootI d.to):s.merge nr nl d={ s.mergeTo nl (s.rootI d.from_) (s.rootI d.to) (nr*nl) with root:=fun i=>if s.root i=s.root d.from_.toNat then s.root d.to.toNat else s.root i }:=by
 unfold St.merge St.mergeTo;rw[if_neg hne];congr 1;funext p;show (if _ then _ else _)=if _ then _ else _
 by_cases e:s.owns p=some (s.rootI d.from_)/\(0<=p.1/\p.1<nr)/\(0<=p.2/\p.2<nl)
 ·rw[if_pos e];obtain⟨e1,⟨e2,e3⟩,e4,e5⟩:=e;rw[if_pos];refine⟨e1,p.1.toNat*nl+p.2.toNat,?_,?_⟩
  ·have:(p.1.toNat+1)*nl<=nr*nl:=Nat.mul_le_mul_right _ (by omega);rw[Nat.add_mul]at this;omega
  ·have h2:(p.1.toNat*nl+p.2.toNat) / nl=p.1.toNat:=by
    rw[Nat.add_comm,Nat.mul_comm,Nat.add_mul_div_left _ _ (by omega),Nat.div_eq_of_lt (by omega)];omega
   have h3:(p.1.toNat*nl+p.2.toNat)%nl=p.2.toNat:=by
    rw[Nat.add_comm,Nat.mul_comm,Nat.add_mul_mod_self_left,Nat.mod_eq_of_lt (by omega)]
   unfold pieceAt;rw[h2,h3,Int.toNat_of_nonneg e2,Int.toNat_of_nonneg e4]
 ·rw[if_neg e,if_neg];rintro⟨e1,q,e2,rfl⟩;have hnl:0<nl:=by
   rcases Nat.eq_zero_or_pos nl with h|h;· rw[h]at e2;omega
   ·exact h
  refine e ⟨e1,⟨Int.natCast_nonneg _,?_⟩,Int.natCast_nonneg _,?_⟩
  ·have:=Nat.div_lt_of_lt_mul (by rw[Nat.mul_comm];exact e2:q<nl*nr);show ((q / nl:Nat):Int)<nr;omega
  ·have:=Nat.mod_lt q hnl;show ((q%nl:Nat):Int)<nl;omega
end Go.TM.Ow
namespace Go.TM
open Go.TM.Ow (Piece St Deed Right Book Heirs)
theorem StR.heirR{tS tP:TypeId}{N:Nat}{h0:Cells}{h h':LH}{k:StA}{f:BookC}{b:Book}{s:St}{hs hs' R':Nat->Nat}{p:Option Addr}{n c:Nat}(st:StR tS tP N h0 h k f b s hs)(hblk:h.get k.sb=some (true,.cells (stCells f k hs p n c).toArray tS (0,0)))(hb:But k.sb h h')(hnew:h'.get k.sb=some (true,.cells (stCells f k hs' p n c).toArray tS (0,0)))(hh:Heirs hs' R'):StR tS tP N h0 h' k f b { s with root:=R' } hs':=by
 obtain⟨p',n',c',h1,h2,h3⟩:=st.blk;rw[hblk]at h1;have e:p=p'/\n=n'/\c=c':=by
  have:(stCells f k hs p n c)=stCells f k hs p' n' c':=by simpa using h1
  unfold stCells at this;simp at this;exact this
 obtain⟨rfl,rfl,rfl⟩:=e;obtain⟨F,hF,hF2⟩:=st.had;obtain⟨g,hg,hg2⟩:=st.pledge;have turn:∀ {m:Nat},m≠k.sb->∀ x,h.get m=some x->h'.get m=some x:=fun hm x hx=>by rw[hb.1 _ hm];exact hx
 refine⟨hh,⟨p,n,c,hnew,h2.turn fun a x ha hx=>turn (fun e=>?_) x hx,h3⟩,st.owns.le (turn (st.owns.ne hblk)),⟨F,hF.le (turn (hF.ne hblk)),hF2⟩,⟨g,hg.le (turn (hg.ne hblk)),hg2⟩,st.begun.le (turn (st.begun.ne hblk)),st.new,st.apart,fun r hr=>?_,st.types⟩
 ·obtain⟨cs,hcs⟩:=h2.block ha;rw[e,hblk]at hcs;have:tS=tP:=by injection hcs with hcs;injection hcs with _ hcs;injection hcs
  exact st.types this
 ·by_cases e:r=k.sb
  ·subst e;exact st.new.1
  ·rw[hb.1 r e]at hr;exact st.dom r hr
end Go.TM
end
section
namespace Go.Y.Tre
open Go.TM.Tr
open Go.TM.Ow (Piece St Deed Right Book Heirs)
attribute [local irreducible] T.wp CV FWK
theorem c3582{h:LH}{f:BookC}:FW X0 Tryz.prog 181 #[.agg #[.slice f.p0 f.n0 f.c0,.slice f.p1 f.n1 f.c1,.slice f.p2 f.n2 f.c2,.slice f.p3 f.n3 f.c3]] h fun r h'=>∃ z el,r=.func (.func 184) #[] #[.pointer (some ⟨z,0,none⟩)]/\h.le h'/\h.get z=none/\h'.get z=some (true,.cells #[.slice f.p0 f.n0 f.c0,.slice f.p1 f.n1 f.c1,.slice f.p2 f.n2 f.c2,.slice f.p3 f.n3 f.c3] el (0,0)):=by
 refine w3582 _ _ _ _ _ _ _ _ _ _ _ _ X0_ok ?_;unfold n3582;refine t_newG fun r h1 le1 hr0 hr=>?_;exact t_ret ⟨r,_,rfl,le1,hr0,hr⟩
end Go.Y.Tre
end
section
namespace Go.TM
open Go.TM.Ow (Piece St Deed Right Book Heirs)
theorem StR.more{tS tP:TypeId}{N M:Nat}{h0:Cells}{h:LH}{k:StA}{f:BookC}{b:Book}{s:St}{hs:Nat->Nat}(hM:N<=M)(st:StR tS tP N h0 h k f b s hs):StR tS tP M h0 h k f b s hs:=by
 obtain⟨p,n,c,h1,h2,h3⟩:=st.blk;exact { st with blk:=⟨p,n,c,h1,h2,Nat.le_trans h3 hM⟩ }
end Go.TM
namespace Go.Y.Tre
open Go.TM.Tr
open Go.TM.Ow (Piece St Deed Right Book Heirs)
attribute [local irreducible] T.wp CV FWK
theorem c3577{h:LH}{h0:Cells}{N:Nat}{k:StA}{f:BookC}{b:Book}{s:St}{hs:Nat->Nat}(hbk:BookR h0 f b)(ok:BookOk b)(hl:h0.le h.get)(st:StO N h0 h k f b s hs){i:Nat}{d:Deed}(hd:b.deeds[i]?=some d)(hN:N+10000<=2^30) :
  FW X0 Tryz.prog 176 #[.pointer (some ⟨k.sb,0,none⟩),.int .i64 i] h fun r h'=>r=.tuple #[]/\(∃ hs',StO (N+10000) h0 h' k f b (s.merge b.rights.length b.lands.length d) hs')/\Ov h0 h h':=by
 refine w3577 _ _ X0_ok ?_;unfold n3577;have hn3:=hbk.deeds.1;have h6:=ok.owners.many;have hil:=(List.getElem?_eq_some_iff.1 hd).1;have dok:=ok.deed d (List.mem_of_getElem? hd);obtain⟨o1,ho1⟩ : ∃ o:Nat,d.from_=o:=⟨d.from_.toNat,by have:=dok.from_;omega⟩
 obtain⟨o2,ho2⟩ : ∃ o:Nat,d.to=o:=⟨d.to.toNat,by have:=dok.to;omega⟩
 have lt1:o1<6:=by have:=dok.from_;omega
 have lt2:o2<6:=by have:=dok.to;omega
 obtain⟨d',a,hd',ha,_,_,_,k3,k4,_⟩:=hbk.deeds.at (i:=i) (by omega);rw[hd]at hd';cases hd';rw[ho1]at k3;rw[ho2]at k4;have hin:0<=(i:Int)/\(i:Int)<(f.n3:Int):=by omega
 have ov':Ov h0 h h:=Ov.refl _ _;have call:∀ {o:Nat} (_:o<6) {Q:Leaf->LH->Prop} {K:Value->T} {h1:LH} (_:∃ hs,StO N h0 h1 k f b s hs) (_:Ov h0 h h1),(∀ h2,StO N h0 h2 k f b s s.root->Ov h0 h h2->h2.get.cell? (Addr.add (Addr.add (Addr.add ⟨k.sb,0,none⟩ 0) 0) 3)=some (.slice f.p3 f.n3 f.c3)->h2.get.cell? (Addr.add (Addr.add a (i*8)) 3)=some (.int .i64 o1)->h2.get.cell? (Addr.add (Addr.add a (i*8)) 4)=some (.int .i64 o2)->(K (.int .i64 (s.root o:Nat))).wp X0 Tryz.prog Q h2)->(T.call false 90 #[.pointer (some ⟨k.sb,0,none⟩),.int .i64 o] K).wp X0 Tryz.prog Q h1:=fun lt _ _ _ st1 ov1 hk=>by
  obtain⟨hs1,st1⟩:=st1;refine t_call (c3533 st1 lt) ?_;rintro _ h2 ⟨rfl,st2,ov2⟩;have ov3:=ov1.trans ov2;have hl2:=ov3.base hl;exact hk h2 st2 ov3 st2.deedsAt (Cells.cell?_le hl2 k3) (Cells.cell?_le hl2 k4)
 have y3:=st.deedsAt;have y4:=Cells.cell?_le hl k3;have y5:=Cells.cell?_le hl k4;refine t_blk (fun vs h'=>vs=[.int .i64 (s.root o1:Nat),.int .i64 (s.root o2:Nat)]/\StO N h0 h' k f b s s.root/\Ov h0 h h') ?_ ?_
 ·repeat' first
   | refine t_both ?_ ?_
   | refine call lt1 ⟨_,by assumption⟩ (by assumption) fun _ _ _ _ _ _=>?_
   | refine call lt2 ⟨_,by assumption⟩ (by assumption) fun _ _ _ _ _ _=>?_
   | exact t_again ⟨rfl,by assumption,by assumption⟩
   | refine gZ ?_
 rintro vs h1 ⟨rfl,st1,ov1⟩;have hl1:=ov1.base hl;refine yI (fun e1=>?_) (fun e1=>?_)
 ·obtain⟨pp,pn,pc,q1,q2,q3⟩:=st1.blk;have c14:h1.get.cell? (Addr.add ⟨k.sb,0,none⟩ 14)=some (.slice pp pn pc):=by rw[add_plain];exact cell_blk q1 rfl
  refine gZ ?_;refine t_buildR ([(i:Int),0,-1,2,-1].map (Value.int .i64)) und1537 inf1580 (by decide) (by decide) (by kernel_rfl) fun r h4 le4 _ hc=>?_;have st4:=st1.keep (h':=h4) fun x y hy=>le4.1 x y hy;have c14':=Cells.cell?_le le4.1 c14;have q1':=le4.1 _ _ q1;have q2':=q2.turn (g':=h4.get) fun _ _ _ hx=>le4.1 _ _ hx;refine gZ ?_;refine t_appIR (ws:=[(i:Int),0,-1,2,-1]) rfl rfl und1537 inf1580 rfl (by decide) rfl hc st4.dom q2' (by omega) fun p' c' h5 ov5 keep5 dom5 row5=>?_;have hsb:h5.get k.sb=some (true,.cells (stCells f k s.root pp pn pc).toArray 145 (0,0)):=keep5 _ _ (fun a ha e=>by
   obtain⟨cs,hcs⟩:=q2'.block ha;rw[e,q1']at hcs;exact st1.types (by injection hcs with hcs;injection hcs with _ hcs;injection hcs)) q1'
  refine gZ ?_;have ea:Addr.add (Addr.add ⟨k.sb,0,none⟩ 14) 0=⟨k.sb,14,none⟩:=by rw[add_plain,add_plain]
  rw[ea];refine t_storeB hsb rfl (by rfl) fun h6 b6 hb6=>?_;rw[stCells_steps]at hb6;obtain⟨st6,ov6⟩:=st4.step (M:=N+10000) q1' q2' ov5 keep5 dom5 row5 (by omega) b6 hb6;refine gZ ?_;refine t_ret ⟨rfl,⟨s.root,?_⟩,(ov1.trans (Ov.of_le le4)).trans ov6⟩;have e2:s.merge b.rights.length b.lands.length d=s:=by
   unfold St.merge;rw[if_pos];have:(s.root o1:Int)=s.root o2:=by simpa using e1
   unfold St.rootI;rw[ho1,ho2];simpa using this
  rw[e2];exact st6
 ·have hne:s.rootI d.from_≠s.rootI d.to:=fun e=>by
   unfold St.rootI at e;rw[ho1,ho2]at e;have:(s.root o1:Int)=s.root o2:=by simpa using e
   simp[this]at e1
  have ez:Addr.add (⟨k.sb,0,none⟩ : Addr) 0=⟨k.sb,0,none⟩:=by rw[add_plain]
  have c0:h1.get.cell? (Addr.add (Addr.add ⟨k.sb,0,none⟩ 0) 0)=some (.slice f.p0 f.n0 f.c0):=by rw[ez];exact st1.cellAt (j:=0) (v:=.slice f.p0 f.n0 f.c0) (fun _ _ _=>rfl)
  have c1:h1.get.cell? (Addr.add (Addr.add ⟨k.sb,0,none⟩ 0) 1)=some (.slice f.p1 f.n1 f.c1):=by rw[ez];exact st1.cellAt (j:=1) (v:=.slice f.p1 f.n1 f.c1) (fun _ _ _=>rfl)
  have c2:h1.get.cell? (Addr.add (Addr.add ⟨k.sb,0,none⟩ 0) 2)=some (.slice f.p2 f.n2 f.c2):=by rw[ez];exact st1.cellAt (j:=2) (v:=.slice f.p2 f.n2 f.c2) (fun _ _ _=>rfl)
  have c3:h1.get.cell? (Addr.add (Addr.add ⟨k.sb,0,none⟩ 0) 3)=some (.slice f.p3 f.n3 f.c3):=by rw[ez];exact st1.cellAt (j:=3) (v:=.slice f.p3 f.n3 f.c3) (fun _ _ _=>rfl)
  refine gZ ?_;refine t_call (c3582 (f:=f)) ?_;rintro _ h2 ⟨z,el,rfl,le2,hz0,hz⟩;obtain⟨g1,a1,a2,a3,a4,st2⟩:=st1.join hl1 le2 hz0 hz;have hbk1:=hbk.le a1;have r2:=ok.rights3;have r1:=ok.lands.many;have zc:∀ (j:Nat) v,(#[.slice f.p0 f.n0 f.c0,.slice f.p1 f.n1 f.c1,.slice f.p2 f.n2 f.c2,.slice f.p3 f.n3 f.c3]:Array Value)[j]?=some v->g1.cell? (Addr.add (Addr.add ⟨z,0,none⟩ 0) j)=some v:=fun j v hv=>by
   rw[add_plain,add_plain];exact cell_blk a4 (by simpa using hv)
  have n1e:f.n1=b.lands.length:=hbk.lands.1;have n2e:f.n2=b.rights.length:=hbk.rights.1;refine t_each (h₀:={ h2 with get:=g1 }) ⟨a2,rfl,rfl,rfl⟩ (c3585 (h₀:={ h2 with get:=g1 }) (zc 1 _ rfl) (zc 2 _ rfl) (by omega) (by omega)) (fun m vs h'=>vs=[]/\StO (N+m) g1 h' k f b (s.mergeTo b.lands.length (s.rootI d.from_) (s.rootI d.to) m) s.root/\Ov g1 h2 h'/\m<=b.rights.length*b.lands.length) ⟨rfl,by rw[Go.TM.Ow.mergeTo_zero];exact st2,Ov.refl _ _,Nat.zero_le _⟩ ?_ ?_
  ·rintro vs h3 le3 ⟨rfl,st3,ov3,_⟩;have hlen:(everyPiece f.n2 f.n1).length=b.rights.length*b.lands.length:=by simp[everyPiece,n1e,n2e]
   rw[hlen]at st3;have r12:b.rights.length*b.lands.length<=3*4:=Nat.mul_le_mul r2 r1;have s1:=st1.heirs.rsmall lt1;obtain⟨pp,pn,pc,q1,q2,q3⟩:=st3.blk;have bl:Blk 145 h3.get k f s.root pp pn pc:=⟨q1⟩
   have hin2:0<=((s.root o1:Nat):Int)/\((s.root o1:Nat):Int)<((6:Nat):Int):=by omega
   refine gZ ?_;rw[Int.toNat_natCast,Nat.mul_one];refine t_storeHeir bl s1 rfl fun h4 b4 bl4=>?_;have st4:=st3.heirR q1 b4 bl4.is (st1.heirs.flat.merge lt1 lt2 fun e=>hne (by unfold St.rootI;rw[ho1,ho2];simp[e]));refine gZ ?_;refine t_ret ⟨rfl,⟨fun i=>if i=s.root o1 then s.root o2 else s.root i,?_⟩,((ov1.trans (Ov.of_le le2)).trans (ov3.weak a3)).trans (b4.ov st.new.1)⟩;rw[Ow.mergeTo_all hne];have e1:d.from_.toNat=o1:=by omega
   have e2:d.to.toNat=o2:=by omega
   rw[e1,e2];exact(st4.weak a3).more (by omega)
  ·rintro m xs vs h3 hx le3 ⟨rfl,st3,ov3,_⟩ Y hY;have hm:m<b.rights.length*b.lands.length:=by
    have:=(List.getElem?_eq_some_iff.1 hx).1;simpa[everyPiece,n1e,n2e] using this
   have r12:b.rights.length*b.lands.length<=3*4:=Nat.mul_le_mul r2 r1;obtain rfl:[.agg #[.int .i64 (m / b.lands.length:Nat),.int .i64 (m%b.lands.length:Nat)]]=xs:=by
    unfold everyPiece at hx;rw[List.getElem?_map,List.getElem?_range (by rw[n2e,n1e];exact hm),n1e]at hx;simpa using hx
   have hat:=Ow.mergeTo_at (nl:=b.lands.length) (s:=s) (a:=s.rootI d.from_) (c:=s.rootI d.to) (m:=m);refine gZ ?_;refine t_pu (c3515 st3 (Ow.pieceAt b.lands.length m)) ?_;rw[hat];refine yI (fun e2=>?_) (fun e2=>?_)
   ·have hown:s.owns (Ow.pieceAt b.lands.length m)=some (s.rootI d.from_):=by
     unfold St.rootI;rw[ho1];cases e:s.owns (Ow.pieceAt b.lands.length m) with
     | none=>rw[e]at e2;simp at e2
     | some o=>rw[e]at e2;simp at e2;simp[e2]
    obtain⟨pp,pn,pc,q1,q2,q3⟩:=st3.blk;have c14:h3.get.cell? (Addr.add ⟨k.sb,0,none⟩ 14)=some (.slice pp pn pc):=by rw[add_plain];exact cell_blk q1 rfl
    refine gZ ?_;refine t_buildR ([(i:Int),(m / b.lands.length:Nat),(m%b.lands.length:Nat),0,(s.root o1:Nat)].map (Value.int .i64)) und1537 inf1580 (by decide) (by decide) (by kernel_rfl) fun r h4 le4 _ hc=>?_;have st4:=st3.keep (h':=h4) fun x y hy=>le4.1 x y hy;have c14':=Cells.cell?_le le4.1 c14;have q1':=le4.1 _ _ q1;have q2':=q2.turn (g':=h4.get) fun _ _ _ hx=>le4.1 _ _ hx;refine gZ ?_;refine t_appIR (ws:=[(i:Int),(m / b.lands.length:Nat),(m%b.lands.length:Nat),0,(s.root o1:Nat)]) rfl rfl und1537 inf1580 rfl (by decide) rfl hc st4.dom q2' (by omega) fun p' c' h5 ov5 keep5 dom5 row5=>?_;have hsb:h5.get k.sb=some (true,.cells (stCells f k s.root pp pn pc).toArray 145 (0,0)):=keep5 _ _ (fun a ha e=>by
     obtain⟨cs,hcs⟩:=q2'.block ha;rw[e,q1']at hcs;exact st1.types (by injection hcs with hcs;injection hcs with _ hcs;injection hcs)) q1'
    refine gZ ?_;have ea:Addr.add (Addr.add ⟨k.sb,0,none⟩ 14) 0=⟨k.sb,14,none⟩:=by rw[add_plain,add_plain]
    rw[ea];refine t_storeB hsb rfl (by rfl) fun h6 b6 hb6=>?_;rw[stCells_steps]at hb6;obtain⟨st6,ov6⟩:=st4.step (M:=N+(m+1)) q1' q2' ov5 keep5 dom5 row5 (by omega) b6 hb6;refine gZ ?_;refine t_call (c3532 st6 (Ow.pieceAt b.lands.length m) _) ?_;rintro _ h7 ⟨rfl,st7,ov7⟩;refine gZ ?_;have ovF:=((ov3.trans (Ov.of_le le4)).trans ov6).trans ov7;have leF:LH.le { h2 with get:=g1 } h7:=⟨ovF.base a2,ovF.2.1,ovF.2.2.1,ovF.2.2.2⟩
    refine t_againE leF (hY _ _ leF ⟨rfl,?_,ovF,by omega⟩);rw[Ow.mergeTo_yes hown];have er:s.rootI d.to=(s.root o2:Nat):=by unfold St.rootI;rw[ho2];simp
    rw[er]at st7 ⊢;exact st7
   ·have hown:s.owns (Ow.pieceAt b.lands.length m)≠some (s.rootI d.from_):=by
     unfold St.rootI;rw[ho1];intro e;rw[e]at e2;simp at e2
    refine t_againE le3 (hY _ _ le3 ⟨rfl,?_,ov3,by omega⟩);rw[Ow.mergeTo_no hown];exact st3.more (by omega)
end Go.Y.Tre
end
section
namespace Go.TM
theorem lands_many{nl:Nat}{l:List Int}(h:LandsOk nl l):l.length<=nl:=by
 have key:∀ (i:Nat) v,l[i]?=some v->(i:Int)<=v:=by
  intro i
  induction i with
  | zero=>intro v hv;exact(h 0 v hv).1.1
  | succ i ih =>
   intro v hv;have hi:=(List.getElem?_eq_some_iff.1 hv).1;have h1:=List.getElem?_eq_getElem (show i<l.length by omega);have h2:=ih _ h1;have h3:=(h (i+1) v hv).2 _ (by omega) (by rw[Nat.add_sub_cancel];exact h1);omega
 rcases Nat.eq_zero_or_pos l.length with e|e
 ·omega
 ·have h1:=List.getElem?_eq_getElem (show l.length-1<l.length by omega);have h2:=key _ _ h1;have h3:=(h _ _ h1).1.2;omega
theorem DeedOk.few{no nl nr:Nat}{d:Ow.Deed}(k:DeedOk no nl nr d)(hl:nl<=4):d.lands.length<=4:=by
 by_cases e:d.kind=1
 ·rw[(k.merge e).2];exact Nat.zero_le _
 ·exact Nat.le_trans (lands_many (k.about e).2.2) hl
end Go.TM
namespace Go.Y.Tre
open Go.TM.Tr
open Go.TM.Ow (Piece St Deed Right Book Heirs)
attribute [local irreducible] T.wp CV FWK
theorem c3579{h:LH}(a:Option Addr)(b:Int):Pu Tryz.prog 178 #[.pointer a,b] h (.tuple #[]):=by
 refine w3579 _ _ X0_ok ?_;unfold n3579;exact t_ret ⟨rfl,rfl⟩
theorem actC{h:LH}{h0:Cells}{N:Nat}{k:StA}{f:BookC}{b:Book}{s:St}{hs:Nat->Nat}(hbk:BookR h0 f b)(ok:BookOk b)(hl:h0.le h.get)(st:StO N h0 h k f b s hs){i:Nat}{d:Deed}(hd:b.deeds[i]?=some d)(hN:N+10000<=2^30) :
  CV X0 Tryz.prog (.func (.func (if d.kind.toNat=0 then 175 else if d.kind.toNat=1 then 176 else if d.kind.toNat=2 then 177 else 178)) #[] #[]) #[.pointer (some ⟨k.sb,0,none⟩),.int .i64 i] h fun r h'=>r=.tuple #[]/\(∃ hs',StO (N+10000) h0 h' k f b (s.act b.rights.length b.lands.length d) hs')/\Ov h0 h h':=by
 have dok:=ok.deed d (List.mem_of_getElem? hd);have h4:=dok.few ok.lands.many;have k0:=dok.kind;unfold St.act;by_cases e0:d.kind=0
 ·rw[if_pos (by omega),if_pos e0];refine cv_fw X0_ok (by rfl) (FW.mono (c3576 hbk ok hl st hd (by omega)) ?_);rintro r h' ⟨e,⟨hs',st'⟩,ov⟩;exact⟨e,⟨hs',st'.more (by omega)⟩,ov⟩
 by_cases e1:d.kind=1
 ·rw[if_neg (by omega),if_pos (by omega),if_neg e0,if_pos e1];exact cv_fw X0_ok (by rfl) (c3577 hbk ok hl st hd hN)
 by_cases e2:d.kind=2
 ·rw[if_neg (by omega),if_neg (by omega),if_pos (by omega),if_neg e0,if_neg e1,if_pos e2];refine cv_fw X0_ok (by rfl) (FW.mono (c3578 hbk ok hl st hd (by omega)) ?_);rintro r h' ⟨e,⟨hs',st'⟩,ov⟩;exact⟨e,⟨hs',st'.more (by omega)⟩,ov⟩
 ·rw[if_neg (by omega),if_neg (by omega),if_neg (by omega),if_neg e0,if_neg e1,if_neg e2];refine cv_fw X0_ok (by rfl) (FW.mono (FW.top (c3579 _ _)) ?_);rintro r h' ⟨rfl,rfl⟩;exact⟨rfl,⟨hs,st.more (by omega)⟩,Ov.refl _ _⟩
theorem c3514{h:LH}(hk:TitleK h.get){f:BookC}{b:Book}(hbk:BookR h.get f b)(ok:BookOk b)(day:Int) :
  FW X0 Tryz.prog 50 #[bookV f,day,.int .i64 (-1)] h fun r h'=>h.le h'/\∃ (k:StA) (hs:Nat->Nat) (N:Nat),r=.pointer (some ⟨k.sb,0,none⟩)/\StO N h.get h' k f b (Ow.after b day) hs:=by
 refine w3514 _ _ _ _ _ _ _ _ _ _ _ _ _ _ X0_ok ?_;unfold n3514;have hn3:=hbk.deeds.1;have h8:=ok.deeds8;refine t_call (c3519 b) ?_;rintro _ h1 ⟨le1,k,rfl,st1⟩;refine gZ ?_;refine t_call (c3520 (hbk.le le1.1) ok) ?_;rintro _ h2 ⟨le2,r,c,sz,l,rfl,row,hp,hso⟩;have le02:=LH.le_trans le1 le2;obtain⟨cs,r1,r2,r3⟩:=row.cells;obtain⟨g,a1,a2,a3,a4,st2⟩:=st1.join le1.1 le2 row.new r1;have hbk2:=hbk.le a1;have hk2:=hk.le a1;have hlen:l.length=b.deeds.length:=by rw[hp.length_eq,zero2_len]
 have hperm:(l.map (deedAt b.deeds)).Perm b.deeds:=by
  have:=hp.map (deedAt b.deeds);rwa[zero2_deeds]at this
 have hord:=Ow.upTo_take (day:=day) hperm hso;have rd:∀ {j:Nat} {v:Int},l[j]?=some v->g.cell? (Addr.add ⟨r,0,none⟩ ((j:Int).toNat*1))=some (.int .i64 v):=fun {j v} hv=>by
  rw[Int.toNat_natCast,Nat.mul_one,add_plain,Nat.zero_add];exact cell_blk a4 (r3 _ _ hv)
 refine gZ ?_;refine t_loopB (fun mm vs h'=>∃ (j:Nat) (s:St) (hs:Nat->Nat),vs=[.int .i64 day,.int .i64 j]/\j<=l.length/\mm=l.length-j/\StO (j*10000) g h' k f b s hs/\Ov g h2 h'/\(Ow.upTo b.deeds day).foldl (St.deed b.rights b.lands.length) St.start=(((l.drop j).map (deedAt b.deeds)).takeWhile fun d=>decide (d.first<=day)).foldl (St.deed b.rights b.lands.length) s)
  (fun vs h'=>∃ (j:Nat) (hs:Nat->Nat) (N:Nat),vs=[.int .i64 day,.int .i64 j]/\StO N g h' k f b ((Ow.upTo b.deeds day).foldl (St.deed b.rights b.lands.length) St.start) hs/\Ov g h2 h')
  ⟨0,_,_,rfl,Nat.zero_le _,rfl,by rw[Nat.zero_mul];exact st2,Ov.refl _ _,by rw[<- hord];rfl⟩ ?_ ?_
 ·rintro Y mm vs h3 hY ⟨j,s,hs,rfl,hj,rfl,st3,ov3,he⟩;have hl3:=ov3.base a2;refine yJ (fun e1=>?_) (fun e1=>?_)
  ·have hj':j<l.length:=by omega
   have hv:=List.getElem?_eq_getElem hj';obtain⟨i,hi,ei⟩:=zero2_mem.1 ((hp.mem_iff).1 (List.mem_of_getElem? hv));rw[ei]at hv;have e2:=Cells.cell?_le hl3 (rd hv);obtain⟨d,a,hd,ha,k0,k1,k2,k3,k4,⟨q,n,c',k5,sl0⟩,k6,k7⟩:=hbk2.deeds.at (i:=i) (by omega);have g0:=Cells.cell?_le hl3 k0;have g1:=Cells.cell?_le hl3 k1;have g2:=Cells.cell?_le hl3 k2;have g3:=Cells.cell?_le hl3 k3;have g4:=Cells.cell?_le hl3 k4;have g5:=Cells.cell?_le hl3 k5;have g6:=Cells.cell?_le hl3 k6;have g7:=Cells.cell?_le hl3 k7;have hin2:0<=(j:Int)/\(j:Int)<(l.length:Int):=by omega
   have hin:0<=(i:Int)/\(i:Int)<(f.n3:Int):=by omega
   have dok:=ok.deed d (List.mem_of_getElem? hd);have ed:deedAt b.deeds (i:Int)=d:=by unfold deedAt;rw[Int.toNat_natCast,hd];rfl
   rw[drop_at hv,List.map_cons,ed]at he;refine gZ ?_;refine t_loadStr g0 ?_;refine gZ ?_;refine t_if (fun e3=>by omega) (fun _=>?_);refine t_if (fun e3=>?_) (fun e3=>?_)
   ·rw[List.takeWhile_cons_of_neg (by simpa using e3)]at he;exact gH ⟨j,hs,_,rfl,by rw[he];exact st3,ov3⟩
   ·rw[List.takeWhile_cons_of_pos (by simpa using e3),List.foldl_cons]at he;refine t_call (c3521 hbk2 ok hl3 st3 d.first) ?_;rintro _ h4 ⟨rfl,⟨hs4,st4⟩,ov4⟩;have hl4:=ov4.base hl3;have dk:=dok.kind;have kin:0<=d.kind/\d.kind<((4:Nat):Int):=by omega
    have ka:=Cells.cell?_le hl4 (hk2.act d.kind.toNat (by omega));refine gZ ?_;refine t_loadV (by rw[add_plain,add_plain,Nat.zero_add];exact ka) ?_;refine t_callv (actC hbk2 ok hl4 st4 hd (by omega)) ?_;rintro _ h5 ⟨rfl,⟨hs5,st5⟩,ov5⟩;refine gZ ?_;refine t_again (hY (l.length-(j+1)) _ _ (by omega) ⟨j+1,_,hs5,?_,by omega,rfl,st5.more (by omega),(ov3.trans ov4).trans ov5,he⟩);rw[wrap_id (by omega) (by omega)];rfl
  ·rw[List.drop_eq_nil_of_le (by omega)]at he;exact gH ⟨j,hs,_,rfl,by rw[he];exact st3,ov3⟩
 ·rintro vs h3 ⟨j,hs,N,rfl,st3,ov3⟩;have hl3:=ov3.base a2;refine gZ ?_;refine t_call (c3521 hbk2 ok hl3 st3 day) ?_;rintro _ h4 ⟨rfl,⟨hs4,st4⟩,ov4⟩;refine gZ ?_;exact t_ret ⟨((ov3.trans ov4).weak a3).le_of le02,k,hs4,N,rfl,st4.weak a3⟩
theorem c3513{h:LH}{f:BookC}(r l:Int):Pu Tryz.prog 49 #[bookV f,r,l] h (.bool (inB r 0 (wrap .i64 ((f.n2:Int)-1))&&inB l 0 (wrap .i64 ((f.n1:Int)-1)))):=by
 refine w3513 _ _ _ _ _ _ _ _ _ _ _ _ _ _ X0_ok ?_;unfold n3513;refine t_pu (c3518 _ _ _) ?_;refine yI (fun e=>?_) (fun e=>?_)
 ·refine t_pu (c3518 _ _ _) ?_;refine gZ ?_;refine t_ret ⟨?_,rfl⟩;rw[e,Bool.true_and]
 ·refine t_ret ⟨?_,rfl⟩;rw[e,Bool.false_and]
theorem c3511{h:LH}(hk:TitleK h.get){f:BookC}{b:Book}(hbk:BookR h.get f b)(ok:BookOk b){v:Value}(hv:∀ h',h.le h'->CV X0 Tryz.prog v #[bookV f] h' fun r h''=>r=.bool true/\h'.le h''){day:Int}(hd:0<=day/\day<=99999) :
  Gr Tryz.prog 47 #[bookV f,v,day] h fun v _=>v=.tuple #[bookV f,.int .i64 0]:=by
 refine w3511 _ _ _ _ _ _ _ _ _ _ _ _ _ _ X0_ok ?_;unfold n3511;refine t_gr (c3516 hk hbk ok) ?_;rintro _ h1 le1 rfl;refine yF ?_;refine t_callv (hv h1 le1) ?_;rintro _ h2 ⟨rfl,le2⟩;refine yF ?_;refine t_pu (c3517 day) ?_;have e:inB day 0 99999=true:=by simp[inB];omega
 rw[e];refine yF ?_;exact t_ret ⟨LH.le_trans le1 le2,rfl⟩
theorem c3507{h:LH}(hk:TitleK h.get){f:BookC}{b:Book}(hbk:BookR h.get f b)(ok:BookOk b){r l day:Int}(hr:0<=r/\r<b.rights.length)(hl:0<=l/\l<b.lands.length)(hd:0<=day/\day<=99999) :
  Gr Tryz.prog 26 #[bookV f,.int .i64 r,l,day] h fun v _=>v=.tuple #[.int .i64 (Ow.ownerF b r l day),.int .i64 0]:=by
 refine w3507 _ _ _ _ _ _ _ _ _ _ _ _ _ _ _ X0_ok ?_;unfold n3507;have n1:=hbk.lands.1;have n2:=hbk.rights.1;have m1:=ok.lands.many;have m2:=ok.rights3;refine t_newG fun z h1 le1 z0 zv=>?_;refine t_newG fun z' h2 le2 z0' zv'=>?_;have le02:=LH.le_trans le1 le2;have y0:=Cells.cell?_le le2.1 (new_at zv);have y1:=new_at zv';refine t_gr (c3511 (hk.le le02.1) (hbk.le le02.1) ok (fun h' le'=>cv_fw X0_ok (by rfl) (?_:FW X0 Tryz.prog 48 #[bookV f,.pointer (some ⟨z,0,none⟩),.pointer (some ⟨z',0,none⟩)] h' fun r h''=>r=.bool true/\h'.le h'')) hd) ?_
 ·refine w3512 _ _ _ _ _ _ _ _ _ _ _ _ _ _ X0_ok ?_;unfold n3512;have w0:=Cells.cell?_le le'.1 y0;have w1:=Cells.cell?_le le'.1 y1;refine gZ ?_;refine t_pu (c3513 (f:=f) r l) ?_;rw[wrap_id (by omega) (by omega),wrap_id (by omega) (by omega)];refine gZ ?_;refine t_ret ⟨?_,LH.le_refl _⟩;congr 1;simp[inB];omega
 rintro _ h3 le3 rfl;have le03:=LH.le_trans le02 le3;have w0:=Cells.cell?_le le3.1 y0;have w1:=Cells.cell?_le le3.1 y1;unfold bookV;refine yF ?_;refine gZ ?_;refine t_call (c3514 (hk.le le03.1) (hbk.le le03.1) ok day) ?_;rintro _ h4 ⟨le4,k,hs,N,rfl,st⟩;have v0:=Cells.cell?_le le4.1 w0;have v1:=Cells.cell?_le le4.1 w1;refine gZ ?_;refine t_pu (c3515 st (r,l)) ?_;refine gZ ?_;exact t_ret ⟨LH.le_trans le03 le4,rfl⟩
end Go.Y.Tre
end
section
namespace Go.Y.Tre
open Go.TM.Tr
attribute [local irreducible] T.wp CV FWK
theorem c2057{h:LH}{f:TC}{x:TF}{e:Ev}{q:Option Addr}{m c:Nat}(hl:IsI (x.lands-1))(hi:IsI (x.items-1))(hs:Sl IntE 1 h.get q m e.items) :
  Pu Tryz.prog 31 #[treatyV f x,.agg #[.int .i64 e.kind,.int .i64 e.day,.int .i64 e.land,.slice q m c,.int .i64 e.since]] h (.int .i64 (eventT x e)):=by
 refine w2057 _ _ _ _ _ _ _ _ _ _ _ _ _ _ _ _ X0_ok ?_;unfold n2057;have hm:=hs.1;have hb:=hs.2.1;refine t_blk (fun vs h'=>vs=[.int .i64 0]/\(inB e.kind 0 6&&(dayB e.day&&dayB e.since))=true/\h=h') ?_ ?_
 ·have bad:(inB e.kind 0 6&&(dayB e.day&&dayB e.since))=false->eventT x e=1:=fun hb=>by rw[eventT,if_pos hb]
  refine t_if (fun e1=>?_) (fun e1=>?_)
  ·refine gI ?_;refine gZ ?_;exact t_ret ⟨by rw[bad (by rw[show inB e.kind 0 6=false by unfold inB;rw[decide_eq_false (by omega),Bool.false_and]];rfl)],rfl⟩
  refine t_if (fun e2=>?_) (fun e2=>?_)
  ·refine gI ?_;refine gZ ?_;exact t_ret ⟨by rw[bad (by rw[show inB e.kind 0 6=false by unfold inB;rw[decide_eq_false (p:=e.kind<=6) (by omega),Bool.and_false]];rfl)],rfl⟩
  have hk:inB e.kind 0 6=true:=by unfold inB;rw[decide_eq_true (by omega),decide_eq_true (by omega)];rfl
  refine t_pu (c2056 _) ?_;refine yI (fun e3=>?_) (fun e3=>?_)
  ·refine gI ?_;refine gZ ?_;have:dayB e.day=false:=by simpa using e3
   exact t_ret ⟨by rw[bad (by rw[this];simp)],rfl⟩
  have hd:dayB e.day=true:=by simpa using e3
  refine t_pu (c2056 _) ?_;refine yI (fun e3=>?_) (fun e3=>?_)
  ·refine gI ?_;refine gZ ?_;have:dayB e.since=false:=by simpa using e3
   exact t_ret ⟨by rw[bad (by rw[this];simp)],rfl⟩
  have he:dayB e.since=true:=by simpa using e3
  exact t_again ⟨rfl,by rw[hk,hd,he];rfl,rfl⟩
 rintro vs _ ⟨rfl,b',rfl⟩;have hev1:eventT x e=if inB e.land 0 (x.lands-1)=false then 6 else if itemsT e.items x.items≠0 then itemsT e.items x.items else if (e.kind=4/\e.land≠0)\/(e.kind≠4/\e.kind≠6/\e.since≠0) then 1 else if e.since>e.day then 7 else 0:=by
  rw[eventT,if_neg (by rw[b'];simp)]
 refine gZ ?_;rw[wrap_id hl.1 hl.2];refine t_pu (c49 _ _ _) ?_;refine yI (fun d=>?_) (fun d=>?_)
 ·refine t_ret ⟨?_,rfl⟩;rw[hev1,if_pos (by simpa using d)]
 have hev2:eventT x e=if itemsT e.items x.items≠0 then itemsT e.items x.items else if (e.kind=4/\e.land≠0)\/(e.kind≠4/\e.kind≠6/\e.since≠0) then 1 else if e.since>e.day then 7 else 0:=by
  rw[hev1,if_neg (by simp at d;simp[d])]
 refine t_loop (fun mm vs h'=>h=h'/\∃ i:Nat,vs=[.int .i64 0,.int .i64 i]/\i<=m/\mm=m-i/\itemsT e.items x.items=firstT (Tr.stepT e.items x.items) i (e.items.drop i)) ⟨rfl,0,rfl,Nat.zero_le _,rfl,rfl⟩ ?_;rintro Y mm vs _ hY ⟨rfl,i,rfl,hi',rfl,hc⟩;refine yJ (fun e1=>?_) (fun e1=>?_)
 ·obtain⟨y,a,hy,ha,e2⟩:=hs.at (i:=i) (by omega);unfold IntE at e2;rw[drop_of hy,firstT]at hc;refine gZ ?_;rw[wrap_id hi.1 hi.2];refine t_pu (c49 _ _ _) ?_;refine gZ ?_;have next:Tr.stepT e.items x.items i y=0->Y [.int .i64 0,.int .i64 (wrap .i64 ((i:Int)+1))] h:=by
   intro hz;rw[if_neg (by rw[hz];simp)]at hc;refine hY (m-(i+1)) _ _ (by omega) ⟨rfl,i+1,?_,by omega,rfl,hc⟩;rw[wrap_id (by omega) (by omega)];rfl
  have stop:∀ z:Int,z≠0->Tr.stepT e.items x.items i y=z->eventT x e=z:=by
   intro z hz hr;rw[hr,if_pos hz]at hc;rw[hev2,hc,if_pos hz]
  refine t_cond (fun d1=>?_) (fun d1=>?_)
  ·refine gZ ?_;refine t_ret ⟨?_,rfl⟩;rw[stop 6 (by decide) (by rw[Tr.stepT,if_pos (by simpa using d1)])]
  have d1':¬ inB y 0 (x.items-1)=false:=by simp at d1;simp[d1]
  refine t_if (fun d2=>?_) (fun d2=>?_)
  ·obtain⟨z,a2,hz,ha2,e3⟩:=hs.at (i:=i-1) (by omega);unfold IntE at e3;rw[ha]at ha2;cases ha2;have hwi:wrap .i64 ((i:Int)-1)=((i-1:Nat):Int):=by rw[wrap_id (by omega) (by omega)];omega
   have hrun:=itemsT_run (b:=x.items) hy (fun _=>hz);rw[hwi];refine yJ (fun d3=>?_) (fun d3=>?_)
   ·refine gZ ?_;refine t_ret ⟨?_,rfl⟩;rw[stop 7 (by decide) (by rw[hrun,if_neg d1',if_pos ⟨by omega,d3⟩])]
   ·exact t_again (next (by rw[hrun,if_neg d1',if_neg (by omega)]))
  ·refine gZ ?_;exact t_again (next (by rw[Tr.stepT,if_neg d1',if_neg (by omega)]))
 ·refine gZ ?_;rw[List.drop_eq_nil_of_le (by omega),firstT]at hc;have hev3:eventT x e=if (e.kind=4/\e.land≠0)\/(e.kind≠4/\e.kind≠6/\e.since≠0) then 1 else if e.since>e.day then 7 else 0:=by
   rw[hev2,if_neg (by rw[hc];simp)]
  rw[hev3]
  repeat' first
   | (refine t_cond (fun _=>?_) (fun _=>?_))
   | (refine t_ret ⟨?_,rfl⟩)
  all_goals (congr 1;simp_all;try omega)
theorem c2022{h:LH}{f:TC}{x:TF}(hx:TreatyR h.get f x):Pu Tryz.prog 12 #[treatyV f x] h (.int .i64 (checkT x)):=by
 refine w2022 _ _ _ _ _ _ _ _ _ X0_ok ?_;unfold n2022;have hn:=hx.2.1;have hb:=hx.2.2.1;refine t_blk (fun vs h'=>vs=[.int .i64 0]/\numsB x=true/\h=h') ?_ ?_
 ·refine t_pu (c49 _ _ _) ?_;refine yI (fun e=>?_) (fun e0=>?_)
  ·refine gI ?_;refine gZ ?_;exact t_ret ⟨by rw[checkT_nums (not_and_false (by simpa using e))],rfl⟩
  have e0:inB x.items 0 5=true:=by simpa using e0
  refine t_pu (c49 _ _ _) ?_;refine yI (fun e=>?_) (fun e1=>?_)
  ·refine gI ?_;refine gZ ?_;have e:inB x.lands 1 3=false:=by simpa using e
   exact t_ret ⟨by rw[checkT_nums (by simp[numsB,e])],rfl⟩
  have e1:inB x.lands 1 3=true:=by simpa using e1
  refine t_pu (c2056 _) ?_;refine yI (fun e=>?_) (fun e2=>?_)
  ·refine gI ?_;refine gZ ?_;have e:dayB x.start=false:=by simpa using e
   exact t_ret ⟨by rw[checkT_nums (by simp[numsB,e])],rfl⟩
  have e2:dayB x.start=true:=by simpa using e2
  refine t_pu (c2056 _) ?_;refine yI (fun e=>?_) (fun e3=>?_)
  ·refine gI ?_;refine gZ ?_;have e:dayB x.depend=false:=by simpa using e
   exact t_ret ⟨by rw[checkT_nums (by simp[numsB,e])],rfl⟩
  have e3:dayB x.depend=true:=by simpa using e3
  refine t_pu (c2056 _) ?_;refine yI (fun e=>?_) (fun e4=>?_)
  ·refine gI ?_;refine gZ ?_;have e:dayB x.refuse=false:=by simpa using e
   exact t_ret ⟨by rw[checkT_nums (by simp[numsB,e])],rfl⟩
  have e4:dayB x.refuse=true:=by simpa using e4
  refine t_pu (c2056 _) ?_;refine yI (fun e=>?_) (fun e5=>?_)
  ·refine gI ?_;refine gZ ?_;have e:dayB x.turn=false:=by simpa using e
   exact t_ret ⟨by rw[checkT_nums (by simp[numsB,e])],rfl⟩
  have e5:dayB x.turn=true:=by simpa using e5
  exact t_again ⟨rfl,by simp[numsB,e0,e1,e2,e3,e4,e5],rfl⟩
 rintro vs _ ⟨rfl,hnum,rfl⟩;refine yJ (fun e=>?_) (fun e=>?_)
 ·exact t_ret ⟨by rw[checkT_many hnum (by omega)],rfl⟩
 have hck:=checkT_each hnum (by omega);refine t_loop (fun mm vs h'=>h=h'/\∃ i:Nat,vs=[.int .i64 0,.int .i64 i]/\i<=f.n/\mm=f.n-i/\checkT x=firstT (fun _ e=>eventT x e) i (x.events.drop i)) ⟨rfl,0,rfl,Nat.zero_le _,rfl,hck⟩ ?_;rintro Y mm vs _ hY ⟨rfl,i,rfl,hi,rfl,hc⟩;refine yJ (fun e1=>?_) (fun e1=>?_)
 ·obtain⟨y,a,hy,ha,g0,g1,g2,⟨q,m,c,g3,_,g5⟩,g4⟩:=hx.2.at (i:=i) (by omega);rw[drop_of hy,firstT]at hc;refine gZ ?_;refine t_pu (c2057 (h:=h) (f:=f) (x:=x) (e:=y) (nums_ok hnum).1 (nums_ok hnum).2 g5) ?_;refine yI (fun d=>?_) (fun d=>?_)
  ·refine gZ ?_;rw[if_pos (by simpa using d)]at hc;exact t_ret ⟨by rw[hc],rfl⟩
  ·rw[if_neg (by simpa using d)]at hc;refine t_again (hY (f.n-(i+1)) _ _ (by omega) ⟨rfl,i+1,?_,by omega,rfl,hc⟩);rw[wrap_id (by omega) (by omega)];rfl
 ·refine gZ ?_;rw[List.drop_eq_nil_of_le (by omega),firstT]at hc;exact t_ret ⟨by rw[hc],rfl⟩
end Go.Y.Tre
end
section
namespace Go.TM
variable {P:Program} {X:XP} {Q:Leaf->LH->Prop}
inductive Chain{S:Type}(nx:S->List Value->S->Prop)(s₀:S):List Int->S->Prop
 | nil:Chain nx s₀ [] s₀
 | snoc {l:List Int} {s s':S} {v:Int}:Chain nx s₀ l s->nx s [.int .i64 v] s'->Chain nx s₀ (l++[v]) s'
theorem chain_keys{es:Array MapEntry}{c:Nat}{l:List Int}(k:Keys es c l){acc:List Int}{seen:Array Nat}(h:Chain (NextKey es) #[] acc seen) :
  ∃ E:List MapEntry,(∀ e∈E,e∈es.toList)/\acc.map (Value.int .i64)=E.map (·.key)/\seen.toList=E.map (·.born)/\(E.map (·.born)).Nodup:=by
 induction h with
 | nil=>exact⟨[],by simp,rfl,rfl,List.nodup_nil⟩
 | snoc h hn ih =>
  obtain⟨E,h1,h2,h3,h4⟩:=ih;obtain⟨e,he,hb,hx,rfl⟩:=hn;refine⟨E++[e],fun a ha=>?_,?_,?_,?_⟩
  ·rcases List.mem_append.1 ha with ha|ha
   ·exact h1 a ha
   ·simp at ha;subst ha;exact he
  ·simp only[List.cons.injEq,and_true]at hx;rw[List.map_append,List.map_append,h2];simp[hx]
  ·simp[h3]
  ·rw[List.map_append];refine List.nodup_append.2 ⟨h4,by simp,fun a ha b hb' e'=>?_⟩;simp at hb';subst hb';subst e';rw[h3]at hb;exact hb ha
theorem nodup_key{es:Array MapEntry}{c:Nat}{l:List Int}(k:Keys es c l):∀ e∈es.toList,∀ e'∈es.toList,e.key=e'.key->e.born=e'.born:=by
 have hk:(es.toList.map (·.key)).Nodup:=by
  rw[k.keys];rw[List.nodup_iff_pairwise_ne,List.pairwise_map];exact(List.nodup_iff_pairwise_ne.1 k.nodup).imp fun hne he=>hne (by cases he;rfl)
 intro e he e' he' heq;obtain⟨i,hi,hie⟩:=List.getElem_of_mem he;obtain⟨j,hj,hje⟩:=List.getElem_of_mem he';have:=(List.getElem_inj (xs:=es.toList.map (·.key)) (i:=i) (j:=j) (h₀:=by simpa using hi) (h₁:=by simpa using hj) hk).1 (by simp[hie,hje,heq]);subst this;rw[hie]at hje;rw[hje]
theorem chain_done{es:Array MapEntry}{c:Nat}{l:List Int}(k:Keys es c l){acc:List Int}{seen:Array Nat}(h:Chain (NextKey es) #[] acc seen)(hf:AllSeen es seen):acc.Nodup/\∀ v,v∈acc↔v∈l:=by
 obtain⟨E,h1,h2,h3,h4⟩:=chain_keys k h;refine⟨?_,fun v=>?_⟩
 ·have h5:(acc.map (Value.int .i64)).Nodup:=by
   rw[h2,List.nodup_iff_pairwise_ne,List.pairwise_map];rw[List.nodup_iff_pairwise_ne,List.pairwise_map]at h4;exact(List.Pairwise.and_mem.1 h4).imp fun ⟨ha,hb,hne⟩ hk=>hne (nodup_key k _ (h1 _ ha) _ (h1 _ hb) hk)
  rw[List.nodup_iff_pairwise_ne,List.pairwise_map]at h5;rw[List.nodup_iff_pairwise_ne];exact h5.imp fun hne e=>hne (by rw[e])
 ·constructor
  ·intro hv;have:Value.int .i64 v∈acc.map (Value.int .i64):=List.mem_map.2 ⟨v,hv,rfl⟩;rw[h2]at this;obtain⟨e,he,hk⟩:=List.mem_map.1 this;have h6:e.key∈es.toList.map (·.key):=List.mem_map.2 ⟨e,h1 e he,rfl⟩;rw[k.keys,hk]at h6;obtain⟨w,hw,e'⟩:=List.mem_map.1 h6;cases e';exact hw
  ·intro hv;have:Value.int .i64 v∈l.map (Value.int .i64):=List.mem_map.2 ⟨v,hv,rfl⟩;rw[<- k.keys]at this;obtain⟨e,he,hk⟩:=List.mem_map.1 this;have h6:=hf e he;rw[h3]at h6;obtain⟨e',he',hb⟩:=List.mem_map.1 h6;have hee:e'=e:=by
    obtain⟨i,hi,hie⟩:=List.getElem_of_mem (h1 e' he');obtain⟨j,hj,hje⟩:=List.getElem_of_mem he;have:=(List.getElem_inj (xs:=es.toList.map (·.born)) (i:=i) (j:=j) (h₀:=by simpa using hi) (h₁:=by simpa using hj) k.born).1 (by simp[hie,hje,hb]);subst this;rw[<- hie,<- hje]
   subst hee;have:e'.key∈E.map (·.key):=List.mem_map.2 ⟨e',he',rfl⟩;rw[<- h2,hk]at this;obtain⟨w,hw,e2⟩:=List.mem_map.1 this;cases e2;exact hw
def toCome(es:Array MapEntry)(seen:Array Nat):Nat:=(es.toList.filter fun e=>!seen.toList.contains e.born).length
theorem filter_less{α:Type}{p q:α->Bool}:∀ {l:List α},(∀ x∈l,q x=true->p x=true)->(∃ x∈l,p x=true/\q x=false)->(l.filter q).length<(l.filter p).length
 | [],_,⟨x,hx,_⟩=>by simp at hx
 | a::l,h1,⟨x,hx,h2,h3⟩=>by
  have hle:∀ (l:List α),(∀ x∈l,q x=true->p x=true)->(l.filter q).length<=(l.filter p).length:=by
   intro l
   induction l with
   | nil=>intro _;simp
   | cons b l ih =>
    intro h;have:=ih fun x hx=>h x (by simp[hx]);rw[List.filter_cons,List.filter_cons];cases hb:q b with
    | true=>rw[h b (by simp) hb];simpa using this
    | false=>cases p b<;>simp<;>omega
  rw[List.filter_cons,List.filter_cons];rcases List.mem_cons.1 hx with rfl|hx
  ·rw[h2,h3];have:=hle l fun x hx=>h1 x (by simp[hx]);simp;omega
  ·have:=filter_less (l:=l) (fun y hy=>h1 y (by simp[hy])) ⟨x,hx,h2,h3⟩;cases hb:q a with
   | true=>rw[h1 a (by simp) hb];simpa using this
   | false=>cases p a<;>simp<;>omega
theorem toCome_less{es:Array MapEntry}{seen:Array Nat}{xs:List Value}{seen':Array Nat}(h:NextKey es seen xs seen'):toCome es seen'<toCome es seen:=by
 obtain⟨e,he,hb,_,rfl⟩:=h;refine filter_less (fun x _ hx=>?_) ⟨e,he,?_,?_⟩
 ·simp at hx ⊢;exact hx.1
 ·simpa using hb
 ·simp
end Go.TM
namespace Go.Y.Tre
open Go.TM.Tr
attribute [local irreducible] T.wp CV FWK
theorem c2081{h:LH}(m:Nat):Gr Tryz.prog 58 #[.map (some m)] h fun r h'=>∃ z0,r=.func (.func 74) #[] #[.pointer (some z0)]/\h'.get.cell? z0=some (.map (some m)):=by
 refine w2081 _ X0_ok ?_;unfold n2081;refine t_new fun r hr=>?_;exact t_ret ⟨LH.upd_le hr,_,rfl,cell_upd rfl⟩
theorem hands2093{X:XP}(hX:XOK X){h₀:LH}{z0:Addr}{m c:Nat}{es:Array MapEntry}{b:Bool}{l:List Int}(hz:h₀.get.cell? z0=some (.map (some m)))(hm:h₀.get m=some (b,.map es c))(k:Keys es c l) :
  HandsG X Tryz.prog (.func (.func 74) #[] #[.pointer (some z0)]) h₀ (NextKey es) (AllSeen es) #[]:=by
 intro y J E hJ hE hcall h hle hJ0;refine cv_fw hX (by rfl) (?_:FW X Tryz.prog 74 #[y,.pointer (some z0)] h _);refine w2093 _ _ hX ?_;unfold n2093;have hz1:=Cells.cell?_le hle.1 hz;refine gL4 hz1 ?_;refine t_range undMap (hle.1 _ _ hm) fun r hr=>?_;refine gZ ?_;have hst:({ h with get:=h.get.upd r (true,.mapIter (some m) c #[] c) }:LH)={ h with get:=h.get.add (oneC r (.mapIter (some m) c #[] c)) }:=by
  have:h.get.upd r (true,.mapIter (some m) c #[] c)=h.get.add (oneC r (.mapIter (some m) c #[] c)):=by
   funext a;unfold Cells.upd Cells.add oneC;by_cases e:a=r
   ·subst e;simp[hr]
   ·simp[e];cases h.get a<;>rfl
  rw[this]
 rw[hst];refine t_loop (fun mm vs h'=>∃ (seen:Array Nat) (hb:LH),vs=[]/\mm=toCome es seen/\h'={ hb with get:=hb.get.add (oneC r (.mapIter (some m) c seen c)) }/\Disj hb.get (oneC r (.mapIter (some m) c seen c))/\h₀.le hb/\J seen hb)
  ⟨#[],h,rfl,rfl,rfl,disj_oneC hr,hle,hJ0⟩ ?_
 rintro Y mm vs _ hY ⟨seen,hb,rfl,rfl,rfl,dj,leb,hJs⟩;have hbr:=oneC_none dj;refine gZ ?_;refine t_next (m:=m) (r:=r) (c:=c) (es:=es) (seen:=seen) (b:=b) (add_oneC_get hbr) (Cells.add_left (leb.1 _ _ hm)) k.lt (fun hall=>?_) fun e he hnb=>?_
 ·refine yF ?_;refine gZ ?_;refine t_ret ⟨⟨fun a x ha=>Cells.add_left (leb.1 a x ha),leb.2⟩,.inl ⟨seen,hall,?_⟩⟩;exact hJ seen hb _ hJs dj
 ·rw[add_oneC_upd hbr];have dj2:Disj hb.get (oneC r (.mapIter (some m) c (seen.push e.born) c)):=disj_oneC hbr;refine yT ?_;refine gZ ?_;refine t_entry (m:=m) (r:=r) (c:=c) (es:=es) (seen:=seen) (e:=e) (b:=b) (add_oneC_get hbr) (Cells.add_left (leb.1 _ _ hm)) he k.born ?_;obtain⟨kn,hkn⟩ : ∃ n:Int,e.key=.int .i64 n:=by
   have hm2:e.key∈es.toList.map (·.key):=List.mem_map.2 ⟨e,he,rfl⟩;rw[k.keys]at hm2;obtain⟨n,_,hn⟩:=List.mem_map.1 hm2;exact⟨n,hn.symm⟩
  rw[hkn];refine gZ ?_;have hnk:NextKey es seen [.int .i64 kn] (seen.push e.born):=⟨e,he,hnb,by rw[hkn],rfl⟩
  have hcv:=CV.frame hX (hcall seen hb [.int .i64 kn] (seen.push e.born) leb hnk hJs) dj2;refine t_callv hcv ?_;rintro bv _ ⟨h3,d3,rfl,le3,⟨rfl,hJ3⟩|⟨rfl,hE3⟩⟩
  ·refine yF ?_;exact t_again (hY _ _ _ (toCome_less hnk) ⟨_,h3,rfl,rfl,rfl,d3,le3,hJ3⟩)
  ·refine yT ?_;refine gZ ?_;exact t_ret ⟨⟨fun a x ha=>Cells.add_left (le3.1 a x ha),le3.2⟩,.inr (hE h3 _ hE3 d3)⟩
theorem c2100{h:LH}{S:Type}{nx:S->List Value->S->Prop}{fin:S->Prop}{s₀:S}{seq:Value}(μ:S->Nat)(hμ:∀ s xs s',nx s xs s'->μ s'<μ s)(hint:∀ s xs s',nx s xs s'->∃ v,xs=[.int .i64 v])(hm:μ s₀<=1000)(hH:HandsG X0 Tryz.prog seq h nx fin s₀) :
  Gr Tryz.prog 92 #[.slice none 0 0,seq] h fun r h'=>∃ p n c s acc,fin s/\Chain nx s₀ acc s/\r=.slice p n c/\acc.length<=μ s₀/\Growing IntEnc 3 1 h.get h'.get p n c acc:=by
 refine w2100 _ _ _ _ X0_ok ?_;unfold n2100;refine t_eachG μ hμ (LH.le_refl h) hH (fun s vs h'=>∃ p n c acc,vs=[.slice p n c]/\Chain nx s₀ acc s/\acc.length+μ s<=μ s₀/\Growing IntEnc 3 1 h.get h'.get p n c acc)
  ⟨none,0,0,[],rfl,.nil,by simp,Growing.nil⟩ ?_ ?_
 ·rintro s vs h' hf hle ⟨p,n,c,acc,rfl,hch,hlen,g⟩;refine gZ ?_;exact t_ret ⟨hle,p,n,c,s,acc,hf,hch,rfl,by omega,g⟩
 ·rintro s xs s' vs h' hn hle ⟨p,n,c,acc,rfl,hch,hlen,g⟩ Y hY;obtain⟨v,rfl⟩:=hint s xs s' hn;have hlt:=hμ _ _ _ hn;have hnn:=g.count IntEnc.len (by omega);refine gZ ?_;refine t_push v [.int .i64 v] rfl rfl und50 inf3 rfl (by omega) (by decide) (by kernel_rfl) rfl (by simp;rfl) (by omega) g hle rfl ?_;intro p' c' h3 le3 _ g3;refine gZ ?_;exact t_againE le3 (hY _ _ le3 ⟨p',n+1,c',acc++[v],rfl,hch.snoc hn,by simp;omega,g3⟩)
theorem c2091{h:LH}{S:Type}{nx:S->List Value->S->Prop}{fin:S->Prop}{s₀:S}{seq:Value}(μ:S->Nat)(hμ:∀ s xs s',nx s xs s'->μ s'<μ s)(hint:∀ s xs s',nx s xs s'->∃ v,xs=[.int .i64 v])(hm:μ s₀<=1000)(hH:HandsG X0 Tryz.prog seq h nx fin s₀) :
  Gr Tryz.prog 72 #[seq] h fun r h'=>∃ p n c s acc,fin s/\Chain nx s₀ acc s/\r=.slice p n c/\acc.length<=μ s₀/\Growing IntEnc 3 1 h.get h'.get p n c acc:=by
 refine w2091 _ X0_ok ?_;unfold n2091;refine t_gr (c2100 μ hμ hint hm hH) ?_;rintro _ h1 le1 ⟨p,n,c,s,acc,h2,h3,rfl,h4,h5⟩;refine gZ ?_;exact t_ret ⟨le1,p,n,c,s,acc,h2,h3,rfl,h4,h5⟩
theorem rows_reads{vs:List Value}{l:List Int}(r:Go.TM.Rows IntEnc vs l):vs=l.map (Value.int .i64):=by
 induction r with
 | nil=>rfl
 | snoc r he ih=>rw[he,ih];simp
theorem grown{h₀ h:Cells}{p:Option Addr}{n c:Nat}{l:List Int}(g:Growing IntEnc 3 1 h₀ h p n c l)(hne:l≠[]):∃ r cs,p=some ⟨r,0,none⟩/\h=h.upd r (true,.cells cs 3 (0,0))/\h₀ r=none/\n=l.length/\n<=c/\cs.size=c*1/\Reads cs l /\
  ∀ cs' l',cs'.size=cs.size->Reads cs' l'->l'.length=l.length->Growing IntEnc 3 1 h₀ (h.upd r (true,.cells cs' 3 (0,0))) p n c l':=by
 have hn:=g.count IntEnc.len (by omega);obtain⟨vs,⟨h1,h2⟩,h3⟩:=g.row;have hvs:=rows_reads h3;rcases h2 with⟨_,h2,_⟩|⟨r,cs,rfl,hr,hcs,hnc,hv⟩
 ·exfalso;apply hne;exact List.eq_nil_of_length_eq_zero (by omega)
 ·refine⟨r,cs,rfl,?_,g.new _ rfl,hn,hnc,hcs,?_,?_⟩
  ·funext a;unfold Cells.upd;by_cases e:a=r
   ·subst e;simp[hr]
   ·simp[e]
  ·intro i y hy;refine hv i _ ?_;rw[hvs,List.getElem?_map,hy];rfl
  ·intro cs' l' hsz hrd hlen;have rows:∀ l:List Int,Go.TM.Rows IntEnc (l.map (Value.int .i64)) l:=by
    intro l;have:∀ (k:Nat) (l:List Int),l.length=k->Go.TM.Rows IntEnc (l.map (Value.int .i64)) l:=by
     intro k
     induction k with
     | zero=>intro l hl;rw[List.eq_nil_of_length_eq_zero hl];exact .nil
     | succ k ih =>
      intro l hl;obtain⟨a,b,rfl⟩ : ∃ a b,l=a++[b]:=⟨l.dropLast,l.getLast (by intro e;subst e;simp at hl),(List.dropLast_concat_getLast _).symm⟩
      rw[List.map_append];exact Go.TM.Rows.snoc (ih a (by simp at hl;exact hl)) rfl
    exact this _ l rfl
   refine⟨⟨l'.map (Value.int .i64),⟨by rw[List.length_map];omega,.inr ⟨r,cs',rfl,Cells.upd_self _ _ _,by rw[hsz];exact hcs,hnc,fun j v hj=>?_⟩⟩,rows l'⟩,g.new⟩;rw[List.getElem?_map]at hj;cases hy:l'[j]? with
   | none=>rw[hy]at hj;cases hj
   | some y=>rw[hy]at hj;cases hj;exact hrd j y hy
theorem c2059{h:LH}{m c:Nat}{es:Array MapEntry}{b:Bool}{l:List Int}(hm:h.get m=some (b,.map es c))(k:Keys es c l)(hne:l≠[])(hl:l.length<=12) :
  Gr Tryz.prog 40 #[.map (some m)] h fun r h'=>∃ p n c acc,r=.slice p n c/\Sl IntE 1 h'.get p n acc/\n<=c/\acc.Pairwise (·<·)/\∀ v,v∈acc↔v∈l:=by
 refine w2059 _ X0_ok ?_;unfold n2059;refine t_gr (c2081 m) ?_;rintro _ h1 le1 ⟨z0,rfl,hz⟩;have hlen:es.toList.length=l.length:=by
  have:=congrArg List.length k.keys;simpa using this
 have hu:toCome es #[]<=12:=by
  unfold toCome;have:=List.length_filter_le (fun e:MapEntry=>!(#[]:Array Nat).toList.contains e.born) es.toList;omega
 have sorted:Gr Tryz.prog 57 #[.func (.func 74) #[] #[.pointer (some z0)]] h1 fun r h'=>∃ p n c acc,r=.slice p n c/\Sl IntE 1 h'.get p n acc/\n<=c/\acc.Pairwise (·<·)/\∀ v,v∈acc↔v∈l:=by
  refine w2080 _ X0_ok ?_;unfold n2080;refine t_gr (c2091 (toCome es) (fun s xs s' h=>toCome_less h) ?_ (by omega) (hands2093 X0_ok hz (le1.1 _ _ hm) k)) ?_
  ·rintro s xs s' ⟨e,he,_,rfl,_⟩;have:e.key∈es.toList.map (·.key):=List.mem_map.2 ⟨e,he,rfl⟩;rw[k.keys]at this;obtain⟨v,_,hv⟩:=List.mem_map.1 this;exact⟨v,by rw[hv]⟩
  ·rintro _ h2 le2 ⟨p,n,c,s,acc,hf,hch,rfl,hal,g⟩;obtain⟨hnd,hmem⟩:=chain_done k hch hf;have hane:acc≠[]:=by
    rintro rfl;apply hne;exact List.eq_nil_iff_forall_not_mem.2 fun v hv=>by simpa using (hmem v).2 hv
   obtain⟨r,cs,rfl,hup,hr0,rfl,hnc,hcs,hrd,hback⟩:=grown g hane;refine gZ ?_;have hst:h2={ h2 with get:=h2.get.upd r (true,.cells cs 3 (0,0)) }:=by
    obtain⟨g2,a2,b2,d2⟩:=h2;simp only[LH.mk.injEq,and_self,and_true];exact hup
   rw[hst];refine t_call (c2092 hrd (by omega)) ?_;rintro _ _ ⟨rfl,cs',l',hsz,hrd',hperm,hso,rfl⟩;refine gZ ?_;have g':=hback cs' l' hsz hrd' hperm.length_eq;refine t_ret ⟨?_,_,_,c,l',rfl,g'.sl IntEnc.len (by omega) IntEnc.e (by rw[hperm.length_eq];omega),hnc,?_,fun v=>by rw[hperm.mem_iff,hmem]⟩
   ·refine⟨fun a x ha=>?_,le2.2⟩;have hne':a≠r:=by rintro rfl;rw[hr0]at ha;cases ha
    show Cells.upd _ _ _ a=_;rw[Cells.upd_ne _ _ hne'];exact le2.1 a x ha
   ·have hnd':l'.Nodup:=hperm.nodup_iff.2 hnd;rw[List.nodup_iff_pairwise_ne]at hnd';exact(hso.and hnd').imp fun ⟨h1,h2⟩=>by omega
 refine t_gr sorted ?_;rintro _ h2 le2 ⟨p,n,c',acc,rfl,h3,h4,h5,h6⟩;refine gZ ?_;exact t_ret ⟨LH.le_trans le1 le2,p,n,c',acc,rfl,h3,h4,h5,h6⟩
end Go.Y.Tre
end
section
namespace Go.Y
attribute [local irreducible] T.wp CV FWK
theorem t_sliceHigh{P:Program}{X:XP}{Q:Leaf->LH->Prop}{h:LH}{K:Value->T}{t el:TypeId}{s b:Nat}{z:Option Value}{p:Option Addr}{n c i:Nat}(hu:P.underlying t=some (.slice el))(hi:(P.info? el).map (fun i=>(i.size,i.bytes,i.zero))=some (s,b,z))(hin:i<=c)
 (hk:(K (.slice p i c)).wp X P Q h):(T.sem false (Instr.sliceAt t (.slice p n c) none (some (.int .i64 (i:Int))) none) K).wp X P Q h:=by
 obtain⟨inf,g1,g2,_,_⟩:=info_of hi;refine t_sem (A:=fun v h'=>v=.slice p i c/\h'=h.get) ?_ (by rintro v h' ⟨rfl,rfl⟩;exact hk);unfold Instr.sliceAt;simp only[lwp_bind,lwp_underlying hu];unfold Instr.slice;simp only[lwp_bind,lwp_underlying hu];unfold Instr.sliceBounds Instr.sliceBound;simp only[lwp_bind,lwp_pure,asIntOf];rw[if_pos (show 0<=(i:Int)/\(i:Int)<=(c:Int) by omega)];simp only[lwp_pure,lwp_sizeOf g1,Int.toNat_natCast,g2,Nat.zero_mul,Nat.sub_zero];have e:(p.map fun x:Addr=>x.add 0)=p:=by cases p<;>simp[Addr.add]
 rw[e];simp
end Go.Y
end
section
namespace Go.TM
theorem nodup_len:∀ {l m:List Int},l.Nodup->(∀ v∈l,v∈m)->l.length<=m.length
 | [],m,_,_=>Nat.zero_le _
 | a::l,m,hn,hs=>by
  have ha:=hs a (by simp);have hn':=List.nodup_cons.1 hn;have:=nodup_len (l:=l) (m:=m.erase a) hn'.2 fun v hv=>by
   rw[List.mem_erase_of_ne]
   ·exact hs v (by simp[hv])
   ·rintro rfl;exact hn'.1 hv
  have h2:=List.length_erase_of_mem ha;have h3:=List.length_pos_of_mem ha;simp only[List.length_cons];omega
def SpE(h:Cells)(a:Addr)(s:Tr.Sp):Prop:=h.cell? (a.add 0)=some (.int .i64 s.first)/\h.cell? (a.add 1)=some (.int .i64 s.last)
def SpEnc(s:Tr.Sp)(ws:List Value):Prop:=ws=[.int .i64 s.first,.int .i64 s.last]
theorem SpE.grow:Grow SpE:=fun _ _ _ _ hl h=>⟨hl _ _ h.1,hl _ _ h.2⟩
theorem SpEnc.len:∀ d ws,SpEnc d ws->ws.length=2:=by rintro d _ rfl;rfl
theorem SpEnc.e{h':Cells}:∀ a d ws,SpEnc d ws->(∀ (j:Nat) w,ws[j]?=some w->h'.cell? (a.add j)=some w)->SpE h' a d:=by
 rintro a d _ rfl hc;exact⟨hc 0 _ rfl,hc 1 _ rfl⟩
theorem Rows.last{α:Type}{Enc:α->List Value->Prop}{vs:List Value}{l:List α}{x:α}(r:Rows Enc vs (l++[x])):∃ us ws,vs=us++ws/\Rows Enc us l/\Enc x ws:=by
 generalize he:l++[x]=m at r;cases r with
 | nil=>simp at he
 | snoc r hx =>
  rename_i us l' y ws;have:=List.append_inj' he rfl;obtain⟨rfl,h2⟩:=this;simp at h2;subst h2;exact⟨us,ws,rfl,r,hx⟩
theorem Growing.lastSp{el:TypeId}{h₀ h:Cells}{p:Option Addr}{n c:Nat}{out:List Tr.Sp}{s:Tr.Sp}(g:Growing SpEnc el 2 h₀ h p n c (out++[s])) :
  ∃ r cs,p=some ⟨r,0,none⟩/\h r=some (true,.cells cs el (0,0))/\h₀ r=none/\n=out.length+1/\2*out.length+1<cs.size/\cs[2*out.length+1]?=some (.int .i64 s.last) /\
   ∀ v:Int,Growing SpEnc el 2 h₀ (h.upd r (true,.cells (cs.setIfInBounds (2*out.length+1) (.int .i64 v)) el (0,0))) p n c (out++[⟨s.first,v⟩]):=by
 have hn:=g.count SpEnc.len (by omega);obtain⟨vs,⟨h1,h2⟩,h3⟩:=g.row;obtain⟨us,ws,rfl,h4,rfl⟩:=h3.last;have hus:=h4.len SpEnc.len;rcases h2 with⟨_,h2,_⟩|⟨r,cs,rfl,hr,hcs,hnc,hv⟩
 ·simp at hn;omega
 ·have hn':n=out.length+1:=by simpa using hn
  have hc1:cs[2*out.length+1]?=some (.int .i64 s.last):=by
   refine hv _ _ ?_;rw[List.getElem?_append_right (by omega)];rw[show 2*out.length+1-us.length=1 by omega];rfl
  refine⟨r,cs,rfl,hr,g.new _ rfl,hn',(Array.getElem?_eq_some_iff.1 hc1).1,hc1,fun v=>?_⟩;refine⟨⟨us++[.int .i64 s.first,.int .i64 v],⟨by rw[List.length_append,hus,hn'];simp;omega,.inr ⟨r,_,rfl,Cells.upd_self _ _ _,by simp;exact hcs,hnc,fun j w hj=>?_⟩⟩,Rows.snoc (x:=(⟨s.first,v⟩ : Tr.Sp)) (ws:=[.int .i64 s.first,.int .i64 v]) h4 rfl⟩,g.new⟩;by_cases e:j=2*out.length+1
  ·subst e;rw[Array.getElem?_setIfInBounds_self_of_lt (Array.getElem?_eq_some_iff.1 hc1).1];rw[List.getElem?_append_right (by omega),show 2*out.length+1-us.length=1 by omega]at hj;exact hj
  ·rw[Array.getElem?_setIfInBounds_ne (Ne.symm e)];refine hv j w ?_;by_cases e2:j<us.length
   ·rw[List.getElem?_append_left e2]at hj ⊢;exact hj
   ·rw[List.getElem?_append_right (by omega)]at hj ⊢
    match hq:j-us.length,hj with
    | 0,hj=>exact hj
    | 1,hj=>omega
    | q+2,hj=>simp at hj
end Go.TM
namespace Go.Y.Tre
open Go.TM.Tr
attribute [local irreducible] T.wp CV FWK
def SpansR(h:Cells)(x:TF)(k i:Int)(r:Value):Prop :=
 (askedItemT x k i≠0/\r=.tuple #[.slice none 0 0,.int .i64 (askedItemT x k i)]) \/
 (askedItemT x k i=0/\∃ p n c l,r=.tuple #[.slice p n c,.int .i64 0]/\IsDays x l/\Sl SpE 2 h p n (spansT x k i l)/\n<=c)
theorem join_none{d e:Int}:join [] d e=[⟨d,e-1⟩]:=rfl
theorem join_last{out:List Sp}{s:Sp}{d e:Int}:join (out++[s]) d e=if s.last=d-1 then out++[⟨s.first,e-1⟩] else (out++[s])++[⟨d,e-1⟩]:=by
 unfold join;simp
theorem c2023{h:LH}(hk:Kinds h.get){f:TC}{x:TF}(hx:TreatyR h.get f x)(k i:Int):Gr Tryz.prog 19 #[treatyV f x,.int .i64 k,.int .i64 i] h fun r h'=>SpansR h'.get x k i r:=by
 refine w2023 _ _ _ _ _ _ _ _ _ _ _ X0_ok ?_;unfold n2023;refine t_pu (c2058 hk hx k i) ?_;refine yI (fun e=>?_) (fun e=>?_)
 ·exact t_ret ⟨LH.le_refl _,.inl ⟨by simpa using e,rfl⟩⟩
 have e0:askedItemT x k i=0:=by simpa using e
 have hck:=(asked_ok (askedItem_ok e0).1).1;have rt:=Right.of hck;have hmany:=rt.many;have hn:=hx.2.1;refine t_makeMap fun m hm0=>?_;have lem:∀ {h':LH} {o:Obj},h.le h'->h.le { h' with get:=h'.get.upd m (true,o) }:=by
  intro h' o hl;refine⟨fun a y ha=>?_,hl.2⟩;have:a≠m:=by rintro rfl;rw[hm0]at ha;cases ha
  show Cells.upd _ _ _ a=_;rw[Cells.upd_ne _ _ this];exact hl.1 a y ha
 refine gZ ?_;refine t_putKey (l:=[]) undMap i64_3 ⟨#[],0,Cells.upd_self _ _ _,Keys.nil⟩ fun es1 c1 l1 hm1 k1 hl1=>?_;refine t_putKey (l:=l1) undMap i64_3 ⟨es1,c1,hm1,k1⟩ fun es2 c2 l2 hm2 k2 hl2=>?_;have le2:=lem (o:=.map es2 c2) (lem (o:=.map es1 c1) (lem (o:=.map #[] 0) (LH.le_refl h)));refine t_loop (fun mm vs h'=>h.le h'/\∃ (j:Nat) (es:Array MapEntry) (c:Nat) (l:List Int),vs=[.int .i64 j]/\j<=f.n/\mm=f.n-j/\h'.get m=some (true,.map es c)/\Keys es c l/\∀ v,v∈l↔v=0\/v=10000\/∃ e∈x.events.take j,e.day=v)
  ⟨le2,0,es2,c2,l2,rfl,Nat.zero_le _,rfl,hm2,k2,fun v=>by rw[hl2,hl1];simp;omega⟩ ?_
 rintro Y mm vs h3 hY ⟨le3,j,es,c,l,rfl,hj,rfl,hm3,k3,hl3⟩;refine yJ (fun e1=>?_) (fun e1=>?_)
 ·obtain⟨e,a,he,ha,g0,g1,g2,⟨q,mq,cq,g3,g6,g5⟩,g4⟩:=(hx.2.le EventE.grow le3.1).at (i:=j) (by omega);refine gZ ?_;refine t_putKey (l:=l) undMap i64_3 ⟨es,c,hm3,k3⟩ fun es' c' l' hm' k' hl'=>?_;refine t_again (hY (f.n-(j+1)) _ _ (by omega) ⟨lem le3,j+1,es',c',l',?_,by omega,rfl,hm',k',fun v=>?_⟩)
  ·rw[wrap_id (by omega) (by omega)];rfl
  ·rw[hl',hl3,List.take_add_one,he];simp only[List.mem_append,Option.toList,List.mem_singleton];constructor
   ·rintro(rfl|h1|h1|⟨e',h1,h2⟩)
    ·exact .inr (.inr ⟨e,.inr rfl,rfl⟩)
    ·exact .inl h1
    ·exact .inr (.inl h1)
    ·exact .inr (.inr ⟨e',.inl h1,h2⟩)
   ·rintro(h1|h1|⟨e',h1|rfl,h2⟩)
    ·exact .inr (.inl h1)
    ·exact .inr (.inr (.inl h1))
    ·exact .inr (.inr (.inr ⟨e',h1,h2⟩))
    ·exact .inl h2.symm
 ·refine gZ ?_;rw[List.take_of_length_le (by omega)]at hl3;have hl12:l.length<=12:=by
   have:=nodup_len (m:=0::10000::x.events.map (·.day)) k3.nodup fun v hv=>by
    rcases(hl3 v).1 hv with rfl|rfl|⟨e,he,rfl⟩
    ·simp
    ·simp
    ·simp only[List.mem_cons,List.mem_map];exact .inr (.inr ⟨e,he,rfl⟩)
   simp at this;omega
  have hlne:l≠[]:=by
   rintro rfl;have:=(hl3 0).2 (.inl rfl);simp at this
  refine t_gr (c2059 hm3 k3 hlne hl12) ?_;rintro _ h4 le4 ⟨p,n,c',days,rfl,hs,hnc,hup,hmem⟩;have isd:IsDays x days:=⟨hup,fun v=>by rw[hmem,hl3]⟩
  have hdn:=hs.1;have hd2:2<=days.length:=by
   have h0:(0:Int)∈days:=(isd.mem 0).2 (.inl rfl);have h1:(10000:Int)∈days:=(isd.mem 10000).2 (.inr (.inl rfl))
   match days,h0,h1 with
   | [],h0,_=>simp at h0
   | [a],h0,h1=>simp at h0 h1;omega
   | a::b::l,_,_=>simp
  have hd12:days.length<=12:=by
   have:=nodup_len (m:=l) (hup.imp fun h=>by omega) fun v hv=>(hmem v).1 hv;omega
  have hbound:∀ v∈days,0<=v/\v<=10000:=by
   intro v hv;rcases(isd.mem v).1 hv with rfl|rfl|⟨e,he,rfl⟩
   ·omega
   ·omega
   ·have:=rt.ok e he;omega
  have le04:=LH.le_trans le3 le4;refine gZ ?_;have hw:wrap .i64 ((n:Int)-1)=((n-1:Nat):Int):=by rw[wrap_id (by omega) (by omega)];omega
  rw[hw];refine t_sliceHigh und50 inf3 (by omega) ?_;refine gZ ?_;refine t_loop (fun mm vs h'=>h4.le h'/\∃ (j:Nat) (q:Option Addr) (m cc:Nat) (out:List Sp),vs=[.slice q m cc,.int .i64 j]/\j<=n-1/\mm=n-1-j/\out.length<=j/\Growing SpEnc 33 2 h4.get h'.get q m cc out/\spansT x k i days=spansGo (fun d=>decide (0<=dateOn x k i d)) (days.drop j) out)
   ⟨LH.le_refl _,0,none,0,0,[],rfl,Nat.zero_le _,rfl,Nat.le_refl _,Growing.nil,rfl⟩ ?_
  clear hY e1 hj;rintro Y mm vs h5 hY ⟨le5,j,q,mq,cc,out,rfl,hj,rfl,hol,g,hc⟩;have le05:=LH.le_trans le04 le5;have hmq:=g.count SpEnc.len (by omega);have next:∀ h' q' m' c' out',h4.le h'->j+1<=n-1->out'.length<=j+1->Growing SpEnc 33 2 h4.get h'.get q' m' c' out'->spansT x k i days=spansGo (fun d=>decide (0<=dateOn x k i d)) (days.drop (j+1)) out'->Y [.slice q' m' c',.int .i64 (wrap .i64 ((j:Int)+1))] h':=by
   intro h' q' m' c' out' hle' hlt hol' g' hc';refine hY (n-1-(j+1)) _ _ (by omega) ⟨hle',j+1,q',m',c',out',?_,by omega,rfl,hol',g',hc'⟩;rw[wrap_id (by omega) (by omega)];rfl
  refine yJ (fun e2=>?_) (fun e2=>?_)
  ·obtain⟨d,a,hd,ha,e3⟩:=(hs.le IntE.grow le5.1).at (i:=j) (by omega);obtain⟨d2,a2,hd2',ha2,e4⟩:=(hs.le IntE.grow le5.1).at (i:=j+1) (by omega);unfold IntE at e3 e4;rw[ha]at ha2;cases ha2;have hwj:wrap .i64 ((j:Int)+1)=((j+1:Nat):Int):=by rw[wrap_id (by omega) (by omega)];rfl
   rw[drop_of hd,drop_of hd2',spansGo]at hc;rw[<- drop_of hd2']at hc;have hdb:=hbound d (List.mem_of_getElem? hd);have hdb2:=hbound d2 (List.mem_of_getElem? hd2');rw[hwj]at next ⊢
   refine gZ ?_;refine t_gr (c2060 (hk.le le05.1) (hx.le le05.1) rt k i d) ?_;rintro _ h6 le6 rfl;have le46:=LH.le_trans le5 le6;have g6:=g.le le6.1;refine yJ (fun e5=>?_) (fun e5=>?_)
   ·rw[if_neg (by simp;omega)]at hc;exact t_again (next h6 q mq cc out le46 (by omega) (by omega) g6 hc)
   ·rw[if_pos (by simp;omega)]at hc;have hwd:wrap .i64 (d2-1)=d2-1:=wrap_id (by omega) (by omega);have hwd1:wrap .i64 (d-1)=d-1:=wrap_id (by omega) (by omega);rw[hwd,hwd1];have push:spansT x k i days=spansGo (fun d=>decide (0<=dateOn x k i d)) (days.drop (j+1)) (out++[⟨d,d2-1⟩])->∀ {K:Value->T} {Q:Leaf->LH->Prop},(∀ p' c' h',h4.le h'->Growing SpEnc 33 2 h4.get h'.get p' (mq+1) c' (out++[⟨d,d2-1⟩])->(K (.slice p' (mq+1) c')).wp X0 Tryz.prog Q h') ->
      (T.sem false (Instr.buildSlice 62 1 #[(0,.agg #[.int .i64 d,.int .i64 (d2-1)])]) fun v=>T.unS v fun a m mc=>T.sem false (Builtin.append_ #[62,62] 62 #[.slice q mq cc,.slice a m mc]) K).wp X0 Tryz.prog Q h6:=by
     intro _ K Q hK;refine t_push (⟨d,d2-1⟩ : Sp) [.int .i64 d,.int .i64 (d2-1)] rfl rfl und22 inf30 rfl (by omega) (by decide) (by kernel_rfl) rfl (by simp;exact⟨rfl,rfl⟩) (by omega) g6 le46 rfl ?_;intro p' c' h7 le7 _ g7;exact hK p' c' h7 le7 g7
    refine t_if (fun e6=>?_) (fun e6=>?_)
    ·obtain⟨out',s,rfl⟩ : ∃ out' s,out=out'++[s]:=⟨out.dropLast,out.getLast (by rintro rfl;simp at hmq;omega),(List.dropLast_concat_getLast _).symm⟩
     obtain⟨r,cs,rfl,hr6,hr0,hmq',hlt,hcs,hset⟩:=g6.lastSp;have hwm:wrap .i64 ((mq:Int)-1)=(out'.length:Int):=by rw[wrap_id (by omega) (by omega)];omega
     have hcell:h6.get.cell? ((Addr.add ⟨r,0,none⟩ ((out'.length:Int).toNat*2)).add 1)=some (.int .i64 s.last):=by
      rw[add_plain,add_plain];have:0+(out'.length:Int).toNat*2+1=2*out'.length+1:=by simp;omega
      rw[this];simp only[Cells.cell?,hr6,Option.isSome_none,Bool.false_eq_true,if_false];exact hcs
     rw[join_last]at hc;rw[hwm];refine gT (by omega) (gS2 rfl (gL0 hcell ?_));refine t_cond (fun e7=>?_) (fun e7=>?_)
     ·rw[if_pos (by simpa using e7)]at hc;refine gT (by omega) (gS2 rfl ?_);have haddr:((Addr.add ⟨r,0,none⟩ ((out'.length:Int).toNat*2)).add 1).add 0=⟨r,2*out'.length+1,none⟩:=by
       rw[add_plain,add_plain,add_plain];have:0+(out'.length:Int).toNat*2+1+0=2*out'.length+1:=by simp;omega
       rw[this]
      rw[haddr];have hcell2:h6.get.cell? ⟨r,2*out'.length+1,none⟩=some (.int .i64 s.last):=by
       simp only[Cells.cell?,hr6,Option.isSome_none,Bool.false_eq_true,if_false];exact hcs
      refine t_store rfl ⟨_,hr6⟩ hcell2 (by simp[Cells.frozen?,hr6]) ?_;have hupd:h6.get.setCell ⟨r,2*out'.length+1,none⟩ (.int .i64 (d2-1))=h6.get.upd r (true,.cells (cs.setIfInBounds (2*out'.length+1) (.int .i64 (d2-1))) 33 (0,0)):=by
       funext b;unfold Cells.setCell Cells.upd;by_cases e:b=r
       ·subst e;simp[hr6]
       ·simp[e]
      rw[hupd];refine t_again (next _ _ _ _ (out'++[⟨s.first,d2-1⟩]) ?_ (by omega) (by simp at hol ⊢;omega) (hset (d2-1)) hc);refine⟨fun b y hb=>?_,le46.2⟩;have hne:b≠r:=by rintro rfl;rw[hr0]at hb;cases hb
      show Cells.upd _ _ _ b=_;rw[Cells.upd_ne _ _ hne];exact le46.1 b y hb
     ·rw[if_neg (by simpa using e7)]at hc;refine push hc fun p' c' h7 le7 g7=>?_;refine gZ ?_;exact t_again (next h7 p' _ c' _ le7 (by omega) (by simp at hol ⊢;omega) g7 hc)
    ·have hout:out=[]:=List.eq_nil_of_length_eq_zero (by omega);subst hout;rw[join_none]at hc;refine push hc fun p' c' h7 le7 g7=>?_;refine gZ ?_;exact t_again (next h7 p' _ c' _ le7 (by omega) (by simp) g7 hc)
  ·refine gZ ?_;have hjn:j=n-1:=by omega
   have hfin:spansT x k i days=out:=by
    rw[hc];have hlen1:(days.drop j).length=1:=by rw[List.length_drop];omega
    match hd:days.drop j,hlen1 with
    | [d],_=>rfl
   refine t_ret ⟨le05,.inr ⟨e0,q,mq,cc,days,rfl,isd,?_,?_⟩⟩
   ·rw[hfin];exact g.sl SpEnc.len (by omega) SpEnc.e (by omega)
   ·obtain⟨vs,o,_⟩:=g.row;exact o.le_cap
end Go.Y.Tre
end
section
namespace Go.TM
variable {P:Program}
theorem setCell_at{h:Cells}{r i:Nat}{m:Bool}{cs:Array Value}{el:TypeId}{v:Value}(hr:h r=some (m,.cells cs el (0,0))):h.setCell ⟨r,i,none⟩ v=h.upd r (m,.cells (cs.setIfInBounds i v) el (0,0)):=by
 funext b;unfold Cells.setCell Cells.upd;by_cases e:b=r
 ·subst e;simp[hr]
 ·simp[e]
theorem t_newSt2{X:XP}{Q:Leaf->LH->Prop}{h:LH}{e:TypeId}{v₀ v:Value}{k:Nat->T}(h1:isOne v=true)(hk:∀ r h',h.le h'->h.get r=none->h'.get=h.get.upd r (true,.cells #[v] e (0,0))->h'.get.cell? ⟨r,0,none⟩=some v->(k r).wp X P Q h') :
  (T.new e #[v₀] fun r=>T.store (Addr.add ⟨r,0,none⟩ 0) v (k r)).wp X P Q h:=by
 refine t_new fun r hr=>?_;have ha:Addr.add (⟨r,0,none⟩ : Addr) 0=⟨r,0,none⟩:=by rw[add_plain]
 rw[ha];refine t_storeU (o:=0) rfl h1 (by simp) ?_;have:(#[v₀]:Array Value).setIfInBounds 0 v=#[v]:=rfl;rw[this];exact hk r _ (LH.upd_le hr) hr rfl (cell_upd rfl)
theorem cell_freeze2(F:Nat->Bool)(h:Cells)(a:Addr):(freezeC F h).cell? a=h.cell? a:=by
 unfold Cells.cell? freezeC;cases h a.block with
 | none=>rfl
 | some x=>obtain⟨m,o⟩:=x;cases o<;>rfl
theorem rd_freeze2(F:Nat->Bool)(h:Cells):Rd h (freezeC F h):=fun a v hc=>by rw[cell_freeze2];exact hc
theorem rd_drop2{h:Cells}{c s:Nat}(hs:h c=some (true,.chan 0 #[] false s s false)):Rd h (dropC h c):=by
 intro a v hc;unfold Cells.cell? dropC at *;by_cases e:a.block=c
 ·rw[e,hs]at hc;cases hc
 ·rw[if_neg e];exact hc
def Hand2(q1 q2:Nat)(h:LH):Prop:=(h.chans=[]/\q1≠q2/\(∃ s,h.get q1=some (true,.chan 0 #[] false s s false))/\∃ s,h.get q2=some (true,.chan 0 #[] false s s false))\/h.chans=[q2,q1]
theorem Hand2.le{q1 q2:Nat}{h h':LH}(hl:h.le h')(hd:Hand2 q1 q2 h):Hand2 q1 q2 h':=by
 rcases hd with⟨a,b,⟨s,c⟩,t,d⟩|a
 ·exact .inl ⟨by rw[hl.2.1,a],b,⟨s,hl.1 _ _ c⟩,t,hl.1 _ _ d⟩
 ·exact .inr (by rw[hl.2.1,a])
theorem spawnW_two{f:FuncId}{cap:Array Value}{h:LH}{Q:LH->Prop}{s:Script}(q1 q2:Nat)(hgu:[]∉h.pend)(hst:Hand2 q1 q2 h)(hne:s≠[])(hs:∀ y∈s,y.1=q1\/y.1=q2)(c:∀ hc,Rd h.get hc->FWK XW P .deferred f cap ⟨hc,[],[],s⟩ fun _ _=>False)
 (hQ:∀ h',Rd h.get h'.get->h'.chans=[q2,q1]->h'.todo=h.todo->h'.pend=h.pend++[s]->Q h'):SpawnW XT P (.func (.func f) #[] cap) #[] h Q:=by
 have key:∀ h1:LH,Rd h.get h1.get->h1.chans=[q2,q1]->h1.todo=h.todo->h1.pend=h.pend->SpawnW XT P (.func (.func f) #[] cap) #[] h1 Q:=by
  intro h1 r1 c1 t1 p1;refine spawnW (fun _=>true) (freezeC (fun _=>true) h1.get) s hne (hargs:=cap) (by simp) ?_ (by rw[p1];exact hgu) ?_ (c _ (r1.trans (rd_freeze2 _ _))) ?_
  ·intro r x hx;refine⟨?_,hx⟩;unfold freezeC at hx;cases hy:h1.get r with
   | none=>rw[hy]at hx;cases hx
   | some y=>rw[hy]at hx;simp at hx;rw[<- hx]
  ·intro y hy;rw[c1];rcases hs y hy with e|e<;>simp[e]
  ·exact hQ _ (r1.trans (rd_freeze2 _ _)) c1 t1 (by show h1.pend++_=_;rw[p1])
 rcases hst with⟨h1,hq,⟨s1,h2⟩,s2,h3⟩|h1
 ·refine SpawnW.opened hgu q1 s1 h2 ?_;have h3':dropC h.get q1 q2=some (true,.chan 0 #[] false s2 s2 false):=by unfold dropC;rw[if_neg (Ne.symm hq)];exact h3
  refine SpawnW.opened hgu q2 s2 h3' (key _ ((rd_drop2 h2).trans (rd_drop2 h3')) ?_ rfl rfl);show q2::q1::h.chans=_;rw[h1]
 ·exact key h (Rd.refl _) h1 rfl rfl
def scr(q1 q2:Nat)(φ:Nat->Value->Cells->Prop)(ψ:Value->Cells->Prop)(x:Nat×Bool):Script:=if x.2 then [(q1,φ x.1),(q2,ψ)] else [(q2,ψ)]
theorem commW_sel{last:Bool}{q1 q2:Nat}{z1 z2:Value}{φ:Nat->Value->Cells->Prop}{ψ:Value->Cells->Prop}{rem:List (Nat×Bool)}{h:LH}{Q:Value->LH->Prop}(hp:h.pend=rem.map (scr q1 q2 φ ψ))(hc:h.chans=[q2,q1])(hq:q1≠q2)(hne:rem≠[])
 (hQ1:∀ l1 i l2 v h₂,rem=l1++(i,true)::l2->h₂.todo=h.todo->h₂.pend=(l1++(i,false)::l2).map (scr q1 q2 φ ψ)->h₂.chans=[q2,q1]->(∃ hv,φ i v hv/\hv.le h₂.get)->h.get.le h₂.get->Q (commResult #[rcase q1 z1,rcase q2 z2] .select (0:Nat) v true) h₂)
 (hQ2:∀ l1 i l2 v h₂,rem=l1++(i,false)::l2->h₂.todo=h.todo->h₂.pend=(l1++l2).map (scr q1 q2 φ ψ)->((l1++l2≠[]/\h₂.chans=[q2,q1])\/(l1++l2=[]/\h₂.chans=[]))->(∃ hv,ψ v hv)->h.get.le h₂.get->Q (commResult #[rcase q1 z1,rcase q2 z2] .select (1:Nat) v true) h₂):CommW XT P last #[rcase q1 z1,rcase q2 z2] .select h Q:=by
 refine CommW.closed (CommW.closed (commW_recv ?_ (by rw[hp];simpa using hne) ?_ ?_))
 ·intro k cc hk
  match k,hk with
  | 0,hk=>simp at hk;subst hk;exact⟨q1,z1,rfl,by rw[hc];simp⟩
  | 1,hk=>simp at hk;subst hk;exact⟨q2,z2,rfl,by rw[hc];simp⟩
  | k+2,hk=>simp at hk
 ·intro s hs;rw[hp]at hs;obtain⟨⟨i,b⟩,hi,rfl⟩:=List.mem_map.1 hs;cases b with
  | true=>exact⟨q1,φ i,[(q2,ψ)],0,z1,rfl,rfl⟩
  | false=>exact⟨q2,ψ,[],1,z2,rfl,rfl⟩
 ·intro pre χ s post k c v hv z' hpe hcase hd hown hφ;rw[hp]at hpe;obtain⟨l1,l2,rfl,hl1,hl2⟩:=List.map_eq_append_iff.1 hpe;obtain⟨⟨i,b⟩,l3,rfl,hi,hl3⟩:=List.map_eq_cons_iff.1 hl2;have le1:h.get.le (h.get.add hv):=Cells.le_add _ _;have le2:hv.le (h.get.add hv):=fun r x hr=>Cells.add_right' hd hr;cases b with
  | true =>
   simp only[scr,if_true,List.cons.injEq,Prod.mk.injEq]at hi;obtain⟨⟨rfl,rfl⟩,rfl⟩:=hi;have hk0:k=0:=by
    match k,hcase with
    | 0,_=>rfl
    | 1,hcase=>simp[rcase]at hcase;exact absurd hcase.1.symm hq
    | k+2,hcase=>simp at hcase
   subst hk0;refine .inl (.inl (hQ1 l1 i l3 v _ rfl rfl ?_ hc ⟨hv,hφ,le2⟩ le1));show pre++cons' [(q2,ψ)] post=_;rw[<- hl1,<- hl3,List.map_append,List.map_cons];rfl
  | false =>
   simp only[scr,Bool.false_eq_true,if_false,List.cons.injEq,Prod.mk.injEq]at hi;obtain⟨⟨rfl,rfl⟩,rfl⟩:=hi;have hk1:k=1:=by
    match k,hcase with
    | 0,hcase=>simp[rcase]at hcase;exact absurd hcase.1 hq
    | 1,_=>rfl
    | k+2,hcase=>simp at hcase
   subst hk1;have hpend:pre++cons' [] post=(l1++l3).map (scr q1 q2 φ ψ):=by
    show pre++post=_;rw[<- hl1,<- hl3,List.map_append]
   by_cases hn:l1++l3=[]
   ·right;refine⟨q2,by show q2∈h.chans;rw[hc];simp,by show pre++cons' [] post=[];rw[hpend,hn];rfl,fun s hs=>?_⟩;right;refine⟨q1,?_,by show pre++cons' [] post=[];rw[hpend,hn];rfl,fun s' hs'=>?_⟩
    ·show q1∈h.chans.filter _;rw[hc];simp[hq]
    ·refine hQ2 l1 i l3 v _ rfl rfl hpend (.inr ⟨hn,?_⟩) ⟨hv,hφ⟩ ?_
     ·show (h.chans.filter _).filter _=[];rw[hc];simp[hq]
     ·exact Cells.le_trans le1 (Cells.le_trans (Cells.le_upd _ hs) (Cells.le_upd _ hs'))
   ·exact .inl (.inl (hQ2 l1 i l3 v _ rfl rfl hpend (.inl ⟨hn,hc⟩) ⟨hv,hφ⟩ le1))
/-! ### Two channels and their boxes, made in any order -/
structure Opening(t1 t2:TypeId)(h₀ h:LH)(c1 c2:Option Nat)(b1 b2:Option (Nat×Bool)):Prop where
 le:h₀.le h
 hc1:∀ q,c1=some q->h.get q=some (true,.chan 0 #[] false 0 0 false)
 hc2:∀ q,c2=some q->h.get q=some (true,.chan 0 #[] false 0 0 false)
 ne:∀ q q',c1=some q->c2=some q'->q≠q'
 hb1:∀ r s,b1=some (r,s)->h₀.get r=none/\h.get r=some (true,.cells #[.chan (if s then c1 else none)] t1 (0,0))
 hb2:∀ r s,b2=some (r,s)->h₀.get r=none/\h.get r=some (true,.cells #[.chan (if s then c2 else none)] t2 (0,0))
 bne:∀ r s r' s',b1=some (r,s)->b2=some (r',s')->r≠r'
section
variable {X:XP} {Q:Leaf->LH->Prop} {h₀ h:LH} {c1 c2:Option Nat} {b1 b2:Option (Nat×Bool)} {t1 t2:TypeId}
theorem Opening.start:Opening t1 t2 h₀ h₀ none none none none:=⟨LH.le_refl _,fun _ h=>(by cases h),fun _ h=>(by cases h),fun _ _ h=>(by cases h),fun _ _ h=>(by cases h),fun _ _ h=>(by cases h),fun _ _ _ _ h=>(by cases h)⟩
theorem ne_of_get{h:Cells}{a b:Nat}{x:Bool×Obj}(ha:h a=none)(hb:h b=some x):b≠a:=by rintro rfl;rw[ha]at hb;cases hb
theorem op_chan1{k:Value->T}{el:TypeId}{d:ChanDir}{s b:Nat}{z:Option Value}(hu:P.underlying t1=some (.chan d el))(hi:(P.info? el).map (fun i=>(i.size,i.bytes,i.zero))=some (s,b,z))(O:Opening t1 t2 h₀ h none c2 b1 b2)
 (hk:∀ q h',Opening t1 t2 h₀ h' (some q) c2 (b1.map fun x=>(x.1,false)) b2->(k (.chan (some q))).wp X P Q h'):(T.sem false (Instr.makeChan t1 (.int .i64 0)) k).wp X P Q h:=by
 refine t_makeChan hu hi fun q hq=>hk q _ ?_;have hle:=LH.upd_le (x:=(true,.chan 0 #[] false 0 0 false)) hq;refine⟨LH.le_trans O.le hle,fun q' e=>by cases e;exact Cells.upd_self _ _ _,fun q' e=>hle.1 _ _ (O.hc2 q' e),fun a b ha hb=>by cases ha;exact(ne_of_get hq (O.hc2 b hb)).symm,fun r s hr=>?_,fun r s hr=>⟨(O.hb2 r s hr).1,hle.1 _ _ (O.hb2 r s hr).2⟩,fun r s r' s' h1 h2=>?_⟩
 ·cases hb:b1 with
  | none=>rw[hb]at hr;cases hr
  | some x =>
   rw[hb]at hr;cases hr;have:=O.hb1 x.1 x.2 hb;refine⟨this.1,?_⟩;have h3:=hle.1 _ _ this.2;rw[h3];cases x.2<;>rfl
 ·cases hb:b1 with
  | none=>rw[hb]at h1;cases h1
  | some x=>rw[hb]at h1;cases h1;exact O.bne x.1 x.2 r' s' hb h2
theorem op_chan2{k:Value->T}{el:TypeId}{d:ChanDir}{s b:Nat}{z:Option Value}(hu:P.underlying t2=some (.chan d el))(hi:(P.info? el).map (fun i=>(i.size,i.bytes,i.zero))=some (s,b,z))(O:Opening t1 t2 h₀ h c1 none b1 b2)
 (hk:∀ q h',Opening t1 t2 h₀ h' c1 (some q) b1 (b2.map fun x=>(x.1,false))->(k (.chan (some q))).wp X P Q h'):(T.sem false (Instr.makeChan t2 (.int .i64 0)) k).wp X P Q h:=by
 refine t_makeChan hu hi fun q hq=>hk q _ ?_;have hle:=LH.upd_le (x:=(true,.chan 0 #[] false 0 0 false)) hq;refine⟨LH.le_trans O.le hle,fun q' e=>hle.1 _ _ (O.hc1 q' e),fun q' e=>by cases e;exact Cells.upd_self _ _ _,fun a b ha hb=>by cases hb;exact ne_of_get hq (O.hc1 a ha),fun r s hr=>⟨(O.hb1 r s hr).1,hle.1 _ _ (O.hb1 r s hr).2⟩,fun r s hr=>?_,fun r s r' s' h1 h2=>?_⟩
 ·cases hb:b2 with
  | none=>rw[hb]at hr;cases hr
  | some x =>
   rw[hb]at hr;cases hr;have:=O.hb2 x.1 x.2 hb;refine⟨this.1,?_⟩;have h3:=hle.1 _ _ this.2;rw[h3];cases x.2<;>rfl
 ·cases hb:b2 with
  | none=>rw[hb]at h2;cases h2
  | some x=>rw[hb]at h2;cases h2;exact O.bne r s x.1 x.2 h1 hb
theorem op_new1{k:Nat->T}(O:Opening t1 t2 h₀ h c1 c2 none b2)(hk:∀ r h',Opening t1 t2 h₀ h' c1 c2 (some (r,false)) b2->(k r).wp X P Q h'):(T.new t1 #[.chan none] k).wp X P Q h:=by
 refine t_new fun q hq=>hk q _ ?_;have hle:=LH.upd_le (x:=(true,.cells #[.chan none] t1 (0,0))) hq;have h0:h₀.get q=none:=by
  cases hx:h₀.get q with
  | none=>rfl
  | some x=>rw[O.le.1 _ _ hx]at hq;cases hq
 exact⟨LH.le_trans O.le hle,fun q' e=>hle.1 _ _ (O.hc1 q' e),fun q' e=>hle.1 _ _ (O.hc2 q' e),O.ne,fun r s hr=>by cases hr;exact⟨h0,Cells.upd_self _ _ _⟩,fun r s hr=>⟨(O.hb2 r s hr).1,hle.1 _ _ (O.hb2 r s hr).2⟩,fun r s r' s' h1 h2=>by cases h1;exact(ne_of_get hq (O.hb2 r' s' h2).2).symm⟩
theorem op_new2{k:Nat->T}(O:Opening t1 t2 h₀ h c1 c2 b1 none)(hk:∀ r h',Opening t1 t2 h₀ h' c1 c2 b1 (some (r,false))->(k r).wp X P Q h'):(T.new t2 #[.chan none] k).wp X P Q h:=by
 refine t_new fun q hq=>hk q _ ?_;have hle:=LH.upd_le (x:=(true,.cells #[.chan none] t2 (0,0))) hq;have h0:h₀.get q=none:=by
  cases hx:h₀.get q with
  | none=>rfl
  | some x=>rw[O.le.1 _ _ hx]at hq;cases hq
 exact⟨LH.le_trans O.le hle,fun q' e=>hle.1 _ _ (O.hc1 q' e),fun q' e=>hle.1 _ _ (O.hc2 q' e),O.ne,fun r s hr=>⟨(O.hb1 r s hr).1,hle.1 _ _ (O.hb1 r s hr).2⟩,fun r s hr=>by cases hr;exact⟨h0,Cells.upd_self _ _ _⟩,fun r s r' s' h1 h2=>by cases h2;exact ne_of_get hq (O.hb1 r s h1).2⟩
theorem op_store1{k:T}{q r:Nat}(O:Opening t1 t2 h₀ h (some q) c2 (some (r,false)) b2)(hk:∀ h',Opening t1 t2 h₀ h' (some q) c2 (some (r,true)) b2->k.wp X P Q h'):(T.store (Addr.add ⟨r,0,none⟩ 0) (.chan (some q)) k).wp X P Q h:=by
 have hr:=(O.hb1 r false rfl).2;have ha:Addr.add (⟨r,0,none⟩ : Addr) 0=⟨r,0,none⟩:=by rw[add_plain]
 rw[ha];refine t_store rfl ⟨_,hr⟩ (v₀:=.chan none) (by simp[Cells.cell?,hr]) (by simp[Cells.frozen?,hr]) ?_;rw[setCell_at hr];refine hk _ ?_;have keep:∀ b x,h.get b=some x->b≠r->(h.get.upd r (true,.cells ((#[.chan (if false=true then some q else none)]:Array Value).setIfInBounds 0 (.chan (some q))) t1 (0,0))) b=some x:=fun b x hb hne=>by rw[Cells.upd_ne _ _ hne];exact hb
 have cne:∀ b,h.get b=some (true,.chan 0 #[] false 0 0 false)->b≠r:=fun b hb e=>by rw[e,hr]at hb;cases hb
 refine⟨⟨fun b x hb=>keep b x (O.le.1 b x hb) (ne_of_get (O.hb1 r false rfl).1 hb),O.le.2⟩,fun q' e=>keep _ _ (O.hc1 q' e) (cne _ (O.hc1 q' e)),fun q' e=>keep _ _ (O.hc2 q' e) (cne _ (O.hc2 q' e)),O.ne,fun r' s hr'=>?_,fun r' s hr'=>⟨(O.hb2 r' s hr').1,keep _ _ (O.hb2 r' s hr').2 (O.bne r false r' s rfl hr').symm⟩,fun a s r' s' h1 h2=>by cases h1;exact O.bne r false r' s' rfl h2⟩;cases hr';exact⟨(O.hb1 r false rfl).1,Cells.upd_self _ _ _⟩
theorem op_store2{k:T}{q r:Nat}(O:Opening t1 t2 h₀ h c1 (some q) b1 (some (r,false)))(hk:∀ h',Opening t1 t2 h₀ h' c1 (some q) b1 (some (r,true))->k.wp X P Q h'):(T.store (Addr.add ⟨r,0,none⟩ 0) (.chan (some q)) k).wp X P Q h:=by
 have hr:=(O.hb2 r false rfl).2;have ha:Addr.add (⟨r,0,none⟩ : Addr) 0=⟨r,0,none⟩:=by rw[add_plain]
 rw[ha];refine t_store rfl ⟨_,hr⟩ (v₀:=.chan none) (by simp[Cells.cell?,hr]) (by simp[Cells.frozen?,hr]) ?_;rw[setCell_at hr];refine hk _ ?_;have keep:∀ b x,h.get b=some x->b≠r->(h.get.upd r (true,.cells ((#[.chan (if false=true then some q else none)]:Array Value).setIfInBounds 0 (.chan (some q))) t2 (0,0))) b=some x:=fun b x hb hne=>by rw[Cells.upd_ne _ _ hne];exact hb
 have cne:∀ b,h.get b=some (true,.chan 0 #[] false 0 0 false)->b≠r:=fun b hb e=>by rw[e,hr]at hb;cases hb
 refine⟨⟨fun b x hb=>keep b x (O.le.1 b x hb) (ne_of_get (O.hb2 r false rfl).1 hb),O.le.2⟩,fun q' e=>keep _ _ (O.hc1 q' e) (cne _ (O.hc1 q' e)),fun q' e=>keep _ _ (O.hc2 q' e) (cne _ (O.hc2 q' e)),O.ne,fun r' s hr'=>⟨(O.hb1 r' s hr').1,keep _ _ (O.hb1 r' s hr').2 (O.bne r' s r false hr' rfl)⟩,fun r' s hr'=>?_,fun a s r' s' h1 h2=>by cases h2;exact O.bne a s r false h1 rfl⟩;cases hr';exact⟨(O.hb2 r false rfl).1,Cells.upd_self _ _ _⟩
end
end Go.TM
end
namespace Go.Y.Tre
section
open Go.TM.Tr
attribute [local irreducible] T.wp CV FWK
theorem bit_test{i j:Nat}(hi:i<2^32):(wrap .i64 (((BitVec.ofInt 64 (Int.fdiv (i:Int) (2^min (j:Int).toNat 64)) &&& BitVec.ofInt 64 1).toNat:Nat):Int)==1)=i.testBit j:=by
 have hq:∃ q:Nat,Int.fdiv (i:Int) (2^min (j:Int).toNat 64)=(q:Int)/\q<=i/\q%2=(i / 2^j)%2:=by
  by_cases hj:j<=64
  ·have hm:min (j:Int).toNat 64=j:=by simp;omega
   refine⟨i / 2^j,?_,Nat.div_le_self _ _,rfl⟩;rw[hm];have:(2^j:Int)=((2^j:Nat):Int):=by simp
   rw[this,<- Int.ofNat_fdiv]
  ·have hm:min (j:Int).toNat 64=64:=by simp;omega
   refine⟨0,?_,Nat.zero_le _,?_⟩
   ·rw[hm];have:(2^64:Int)=((2^64:Nat):Int):=by simp
    rw[this,<- Int.ofNat_fdiv];have:i / 2^64=0:=Nat.div_eq_of_lt (by omega);rw[this]
   ·have:i / 2^j=0:=Nat.div_eq_of_lt (Nat.lt_of_lt_of_le hi (Nat.pow_le_pow_right (by omega) (by omega)));rw[this]
 obtain⟨q,h1,h2,h3⟩:=hq;rw[h1];have a1:(BitVec.ofInt 64 (q:Int)).toNat=q:=by rw[BitVec.toNat_ofInt];omega
 have a2:(BitVec.ofInt 64 1).toNat=1:=rfl;rw[BitVec.toNat_and,a1,a2,Nat.and_one_is_mod,wrap_id (by omega) (by omega),Nat.testBit_eq_decide_div_mod_eq,<- h3];by_cases e:q%2=1
 ·rw[e];rfl
 ·have:q%2=0:=by omega
  rw[this];rfl
theorem sets_wrap{n:Nat}(hn:n<=10):wrap .i64 (1*2^min (Int.toNat (n:Int)) 64)=((2^n:Nat):Int):=by
 have e:min (Int.toNat (n:Int)) 64=n:=by simp;omega
 have h2:(2:Nat)^n<=2^10:=Nat.pow_le_pow_right (by omega) hn;have e2:(1:Int)*2^n=((2^n:Nat):Int):=by simp
 rw[e,e2];generalize 2^n=m at h2;rw[wrap_id (by omega) (by omega)]
def bitsTo(l:List Int)(i j:Nat):List Int:=(((List.range l.length).take j).filter fun b=>i.testBit b).map fun b=>l.getD b 0
def bitsL(l:List Int)(i:Nat):List Int:=((List.range l.length).filter fun b=>i.testBit b).map fun b=>l.getD b 0
theorem bits_all{l:List Int}{i j:Nat}(hj:l.length<=j):bitsTo l i j=bitsL l i:=by
 unfold bitsTo bitsL;rw[List.take_of_length_le (by simpa using hj)]
theorem bits_take{l:List Int}{i j:Nat}{y:Int}(hy:l[j]?=some y):bitsTo l i (j+1)=bitsTo l i j++if i.testBit j then [y] else []:=by
 have hj:j<l.length:=(List.getElem?_eq_some_iff.1 hy).1;unfold bitsTo;rw[List.take_succ_eq_append_getElem (by simpa using hj),List.filter_append,List.map_append];congr 1;simp only[List.getElem_range,List.filter_cons,List.filter_nil];split
 ·simp[List.getD,hy]
 ·rfl
theorem range_getD(l:List Int):(List.range l.length).map (fun b=>l.getD b 0)=l:=by
 refine List.ext_getElem (by simp) fun i h1 h2=>?_;simp[List.getD,List.getElem?_eq_getElem h2]
theorem bits_len{l:List Int}{i j:Nat}:(bitsTo l i j).length<=l.length:=by
 unfold bitsTo;rw[List.length_map];refine Nat.le_trans (List.length_filter_le _ _) ?_;rw[List.length_take,List.length_range];omega
theorem bits_sub{l:List Int}{i:Nat}:(bitsL l i).Sublist l:=by
 unfold bitsL;have h:((List.range l.length).filter fun b=>i.testBit b).Sublist (List.range l.length):=List.filter_sublist;have:=h.map fun b=>l.getD b 0;rwa[range_getD]at this
theorem sub_bits{l m:List Int}(hn:l.Nodup)(h:m.Sublist l):∃ i,i<2^l.length/\bitsL l i=m:=by
 obtain⟨i,hi,hb⟩:=bits_of (fun b=>decide (l.getD b 0∈m)) l.length;refine⟨i,hi,?_⟩;unfold bitsL;rw[List.filter_congr (q:=(fun x=>decide (x∈m))∘fun b=>l.getD b 0) fun b hbm=>hb b (List.mem_range.1 hbm),<- List.filter_map,range_getD];exact filter_sub h hn
structure TAt(h:Cells)(a:Addr)(f:TC)(x:TF):Prop where
 f0:h.cell? (a.add 0)=some (.int .i64 x.items)
 f1:h.cell? (a.add 1)=some (.int .i64 x.lands)
 f2:h.cell? (a.add 2)=some (.int .i64 x.start)
 f3:h.cell? (a.add 3)=some (.int .i64 x.depend)
 f4:h.cell? (a.add 4)=some (.int .i64 x.refuse)
 f5:h.cell? (a.add 5)=some (.int .i64 x.turn)
 f6:h.cell? (a.add 6)=some (.slice f.p f.n f.c)
theorem TAt.rd{h h':Cells}{a:Addr}{f:TC}{x:TF}(hl:Rd h h')(m:TAt h a f x):TAt h' a f x:=⟨hl _ _ m.f0,hl _ _ m.f1,hl _ _ m.f2,hl _ _ m.f3,hl _ _ m.f4,hl _ _ m.f5,hl _ _ m.f6⟩
theorem TAt.le{h h':Cells}{a:Addr}{f:TC}{x:TF}(hl:h.le h')(m:TAt h a f x):TAt h' a f x:=m.rd (Rd.of_le hl)
def Found(x:TF)(i:Nat)(v:Value)(hv:Cells):Prop:=∃ a n c,v=.slice (some a) n c/\Sl IntE 1 hv (some a) n (bitsL (giving x) i)/\n<=c
def Done(v:Value)(_:Cells):Prop:=v=.bool true
def okB(x:TF)(k it d:Int)(i:Nat):Bool:=holdsB x k it d (bitsL (giving x) i)
theorem giving_ten{x:TF}(rt:Right x):(giving x).length<=10:=by
 have:=giving_len x.events 0;have:=rt.many;unfold giving;omega
theorem c2073{hc:Cells}{q1 q2 i:Nat}{z0 z1 z2 z3 z4 z5 z6 z7:Addr}{f:TC}{x:TF}{k it d:Int}(hk:Kinds hc)(hx:TreatyR hc f x)(rt:Right x)(hkd:KindsOk x)(hat:TAt hc z2 f x)(hi:i<2^32)
 {ap:Option Addr}{an ac:Nat}(h0:hc.cell? z0=some (.slice ap an ac))(hal:Sl IntE 1 hc ap an (giving x))(h1:hc.cell? z1=some (.int .i64 (i:Int)))(h3:hc.cell? z3=some (.int .i64 k))(h4:hc.cell? z4=some (.int .i64 it))(h5:hc.cell? z5=some (.int .i64 d))
 (h6:hc.cell? z6=some (.chan (some q1)))(h7:hc.cell? z7=some (.chan (some q2))) :
  FWK XW Tryz.prog .deferred 44 #[.pointer (some z0),.pointer (some z1),.pointer (some z2),.pointer (some z3),.pointer (some z4),.pointer (some z5),.pointer (some z6),.pointer (some z7)] ⟨hc,[],[],scr q1 q2 (Found x) Done (i,okB x k it d i)⟩ fun _ _=>False:=by
 generalize htd:scr q1 q2 (Found x) Done (i,okB x k it d i)=td;refine w2073 _ _ _ _ _ _ _ _ XW_ok ?_;unfold n2073;have hn:=hal.1;have h10:=giving_ten rt;refine t_build0 und50 inf3 fun b0 hb0=>?_;have le0:LH.le ⟨hc,[],[],td⟩ _:=LH.upd_le (x:=(true,.cells #[] 3 (0,0))) hb0;have k0:=Cells.cell?_le le0.1 h0;refine gZ ?_;refine t_loop (fun mm vs h'=>LH.le ⟨hc,[],[],td⟩ h'/\∃ (j:Nat) (a:Addr) (n c:Nat),vs=[.slice (some a) n c,.int .i64 j]/\j<=an/\mm=an-j/\Growing IntEnc 3 1 hc h'.get (some a) n c (bitsTo (giving x) i j))
  ⟨le0,0,_,0,0,rfl,Nat.zero_le _,rfl,⟨[],⟨rfl,.inr ⟨b0,#[],rfl,Cells.upd_self _ _ _,rfl,Nat.le_refl _,fun j v hv=>by simp at hv⟩⟩,by unfold bitsTo;exact .nil⟩,fun a ha=>by cases ha;exact hb0⟩ ?_
 rintro Y mm vs h₁ hY ⟨hle,j,a,n,c,rfl,hj,rfl,g⟩;have hng:=g.count IntEnc.len (by omega);have hlen:=bits_len (l:=giving x) (i:=i) (j:=j);refine yJ (fun e1=>?_) (fun e1=>?_)
 ·obtain⟨y,ya,hy,hya,e2⟩:=(hal.le IntE.grow hle.1).at (i:=j) (by omega);unfold IntE at e2;have k1:=Cells.cell?_le hle.1 h1;refine gZ ?_;rw[bit_test hi];have hst:=bits_take (i:=i) hy;refine t_cond (fun b=>?_) (fun b=>?_)
  ·rw[if_pos b]at hst;refine t_push (h₀:=⟨hc,[],[],td⟩) y [.int .i64 y] rfl rfl und50 inf3 rfl (by omega) (by decide) (by kernel_rfl) rfl (by simp;rfl) (by omega) g hle rfl ?_;intro p' c' h₂ hle2 _ g2;refine gZ ?_;obtain⟨a',rfl⟩ : ∃ a',p'=some a':=by
    obtain⟨vs,⟨_,h6⟩,_⟩:=g2.row;rcases h6 with⟨_,h7,_⟩|⟨r,cs,h7,_⟩
    ·omega
    ·exact⟨_,h7⟩
   refine t_again (hY (an-(j+1)) _ _ (by omega) ⟨hle2,j+1,a',n+1,c',?_,by omega,rfl,by rw[hst];exact g2⟩);rw[wrap_id (by omega) (by omega)];rfl
  ·rw[if_neg (by rw[b];simp),List.append_nil]at hst;refine t_again (hY (an-(j+1)) _ _ (by omega) ⟨hle,j+1,a,n,c,?_,by omega,rfl,by rw[hst];exact g⟩);rw[wrap_id (by omega) (by omega)];rfl
 ·refine gZ ?_;rw[bits_all (by omega)]at g;rw[bits_all (by omega)]at hlen;obtain⟨g0,g1,g2,g3,g4,g5,g6⟩:=hat.le hle.1;have k3:=Cells.cell?_le hle.1 h3;have k4:=Cells.cell?_le hle.1 h4;have k5:=Cells.cell?_le hle.1 h5;refine gZ ?_;refine t_gr (c2069 (hk.le hle.1) (hx.le hle.1) rt hkd k it d (g.sl IntEnc.len (by omega) IntEnc.e (by omega))) ?_;rintro _ h₂ le2 rfl;have hle2:=LH.le_trans hle le2;have k6:=Cells.cell?_le hle2.1 h6;have k7:=Cells.cell?_le hle2.1 h7;refine yI (fun b=>?_) (fun b=>?_)
  ·refine t_loadC k6 ?_;refine t_comm ?_;have b':okB x k it d i=true:=b;have htd':td=[(q1,Found x i),(q2,Done)]:=by rw[<- htd,b'];rfl
   have g7:=g.le le2.1;obtain⟨vs,⟨o1,o2⟩,rows⟩:=g7.row;rcases o2 with⟨o3,_⟩|⟨r,cs,o3,o4,o5,o6,o7⟩
   ·cases o3
   ·cases o3;have hnew:hc r=none:=g.new _ rfl;refine commW_send (z:=.tuple #[]) (φ:=Found x i) (s:=[(q2,Done)]) (hv:=fun b=>if b=r then h₂.get b else none) (hr:=fun b=>if b=r then none else h₂.get b) (hle2.2.2.2.trans htd') ?_ (fun b=>?_) (fun b x hx=>?_) ?_ (fun h=>by cases h) (fun _=>?_)
    ·funext b;unfold Cells.add;by_cases e:b=r
     ·subst e;simp[o4]
     ·simp[e]
    ·by_cases e:b=r
     ·right;simp[e]
     ·left;simp[e]
    ·have hx':(if b=r then h₂.get b else none)=some x:=hx;split at hx'
     ·rename_i e;subst e;rw[o4]at hx';cases hx';rfl
     ·cases hx'
    ·refine⟨_,_,_,rfl,?_,o6⟩;refine rows.sl IntEnc.len (by omega) IntEnc.e (el:=3) ⟨o1,.inr ⟨r,cs,rfl,?_,o5,o6,o7⟩⟩ (by omega);show (if r=r then h₂.get r else none)=_;rw[if_pos rfl];exact o4
    ·have hz:z7.block≠r:=by
      intro e;unfold Cells.cell? at h7;rw[e,hnew]at h7;cases h7
     have k7':Cells.cell? (fun b=>if b=r then none else h₂.get b) z7=some (.chan (some q2)):=by
      have hb:(fun b=>if b=r then none else h₂.get b) z7.block=h₂.get z7.block:=if_neg hz;unfold Cells.cell? at k7 ⊢;rw[hb];exact k7
     refine t_loadC k7' ?_;refine t_comm ?_;refine commW_send (z:=.tuple #[]) (φ:=Done) (s:=[]) (hv:=fun _=>none) (hr:=fun b=>if b=r then none else h₂.get b) rfl ?_ (fun r=>.inl rfl) (fun r x hx=>by cases hx) rfl (fun _=>rfl) (fun h=>absurd rfl h);funext r;rfl
  ·refine t_loadC k7 ?_;refine t_comm ?_;have b':okB x k it d i=false:=b;have htd':td=[(q2,Done)]:=by rw[<- htd,b'];rfl
   refine commW_send (z:=.tuple #[]) (φ:=Done) (s:=[]) (hv:=fun _=>none) (hr:=h₂.get) (hle2.2.2.2.trans htd') ?_ (fun r=>.inl rfl) (fun r x hx=>by cases hx) rfl (fun _=>rfl) (fun h=>absurd rfl h);funext r;rfl
end
section
open Go.TM.Tr
attribute [local irreducible] T.wp CV FWK
def BestR(h:Cells)(x:TF)(k it d:Int)(rem:List (Nat×Bool))(p:Option Addr)(n:Nat)(held:Bool):Prop :=
 (held=false/\p=none/\n=0/\∀ j,j<2^(giving x).length->(j,true)∉rem->okB x k it d j=false) \/
 (held=true/\∃ i a,p=some a/\i<2^(giving x).length/\okB x k it d i=true/\Sl IntE 1 h (some a) n (bitsL (giving x) i)/\∀ j,j<2^(giving x).length->(j,true)∉rem->okB x k it d j=true->fewerF (bitsL (giving x) i) (bitsL (giving x) j)<=0)
def weight:Nat×Bool->Nat|(_,true)=>2|(_,false)=>1
def NeedsR(h':Cells)(x:TF)(k it d:Int)(r:Value):Prop :=
 (askedAllT x k it d≠0/\r=.tuple #[.slice none 0 0,.bool false,.int .i64 (askedAllT x k it d)]) \/
 (askedAllT x k it d=0/\¬ 0<=dateOn x k it d/\r=.tuple #[.slice none 0 0,.bool false,.int .i64 0]) \/
 (askedAllT x k it d=0/\0<=dateOn x k it d/\∃ p n c,r=.tuple #[.slice p n c,.bool true,.int .i64 0]/\Sl IntE 1 h' p n (needT x k it d)/\n<=c)
theorem BestR.done{h:Cells}{x:TF}(v:Ok x){k it d:Int}{p:Option Addr}{n:Nat}{b:Bool}(hb:BestR h x k it d [] p n b):(¬ 0<=dateOn x k it d/\b=false/\p=none/\n=0)\/(0<=dateOn x k it d/\b=true/\Sl IntE 1 h p n (needT x k it d)):=by
 have hn:(giving x).Nodup:=(giving_sorted x.events 0).imp fun h=>by omega
 rcases hb with⟨h1,h2,h3,h4⟩|⟨h1,i,a,h2,h3,h4,h5,h6⟩
 ·left;refine⟨fun hd=>?_,h1,h2,h3⟩;obtain⟨a1,a2,_⟩:=need_spec (k:=k) (i:=it) (d:=d) hd;obtain⟨j,hj,hjb⟩:=sub_bits hn a2;have:=h4 j hj (by simp);unfold okB at this;rw[hjb,a1]at this;cases this
 ·have hd:0<=dateOn x k it d:=by
   by_cases hd:0<=dateOn x k it d
   ·exact hd
   ·have:=none_holds v hd (k:=k) (i:=it) (d:=d) (bits_sub (l:=giving x) (i:=i));unfold okB at h4;rw[this]at h4;cases h4
  refine .inr ⟨hd,h1,?_⟩;have:=need_one hd (l:=bitsL (giving x) i) bits_sub h4 fun m hm ho=>by
   obtain⟨j,hj,hjb⟩:=sub_bits hn hm;have:=h6 j hj (by simp) (by unfold okB;rw[hjb];exact ho);rwa[hjb]at this
  rw[h2,<- this];exact h5
theorem Sl.same{h:Cells}{p:Option Addr}{n:Nat}{a b:List Int}(ha:Sl IntE 1 h p n a)(hb:Sl IntE 1 h p n b):a=b:=by
 refine List.ext_getElem (by rw[<- ha.1,<- hb.1]) fun i h1 h2=>?_;obtain⟨x,c,e1,e2,e3⟩:=ha.at (i:=i) (by rw[ha.1];exact h1);obtain⟨y,d,e4,e5,e6⟩:=hb.at (i:=i) (by rw[hb.1];exact h2);rw[e2]at e5;cases e5;unfold IntE at e3 e6;rw[e3]at e6;cases e6;rw[List.getElem?_eq_getElem h1]at e1;rw[List.getElem?_eq_getElem h2]at e4;exact(Option.some.inj e1).trans (Option.some.inj e4).symm
theorem BestR.rd{h h':Cells}(hr:Rd h h'){x:TF}{k it d:Int}{rem:List (Nat×Bool)}{p:Option Addr}{n:Nat}{b:Bool}(hb:BestR h x k it d rem p n b):BestR h' x k it d rem p n b:=by
 rcases hb with hb|⟨h1,i,a,h2,h3,h4,h5,h6⟩
 ·exact .inl hb
 ·exact .inr ⟨h1,i,a,h2,h3,h4,h5.rd IntE.grow hr,h6⟩
theorem mem_but{l1 l2:List (Nat×Bool)}{i j:Nat}(h:(j,true)∉l1++(i,false)::l2):j=i\/(j,true)∉l1++(i,true)::l2:=by
 by_cases e:j=i
 ·exact .inl e
 ·right;simp only[List.mem_append,List.mem_cons,Prod.mk.injEq,not_or]at h ⊢;refine⟨h.1,by simp[e],h.2.2⟩
theorem BestR.drop{h:Cells}{x:TF}{k it d:Int}{l1 l2:List (Nat×Bool)}{i:Nat}{p:Option Addr}{n:Nat}{b:Bool}(hb:BestR h x k it d (l1++(i,false)::l2) p n b):BestR h x k it d (l1++l2) p n b:=by
 have key:∀ j,(j,true)∉l1++l2->(j,true)∉l1++(i,false)::l2:=by
  intro j hj;simp only[List.mem_append,List.mem_cons,Prod.mk.injEq,not_or]at hj ⊢;exact⟨hj.1,by simp,hj.2⟩
 rcases hb with⟨h1,h2,h3,h4⟩|⟨h1,i',a,h2,h3,h4,h5,h6⟩
 ·exact .inl ⟨h1,h2,h3,fun j hj hn=>h4 j hj (key j hn)⟩
 ·exact .inr ⟨h1,i',a,h2,h3,h4,h5,fun j hj hn=>h6 j hj (key j hn)⟩
theorem BestR.take{h h':Cells}{x:TF}{k it d:Int}{l1 l2:List (Nat×Bool)}{i:Nat}{p:Option Addr}{n n':Nat}{a:Addr}{b:Bool}(hb:BestR h x k it d (l1++(i,true)::l2) p n b)(hi:okB x k it d i=true)(hlt:i<2^(giving x).length)(hs:Sl IntE 1 h' (some a) n' (bitsL (giving x) i))
 (hle:b=false\/∀ j,Sl IntE 1 h p n (bitsL (giving x) j)->fewerF (bitsL (giving x) i) (bitsL (giving x) j)<=0):BestR h' x k it d (l1++(i,false)::l2) (some a) n' true:=by
 refine .inr ⟨rfl,i,a,rfl,hlt,hi,hs,fun j hj hn ho=>?_⟩;rcases mem_but hn with rfl|hn
 ·exact fewer_self _
 ·rcases hb with⟨h1,h2,h3,h4⟩|⟨h1,i',a',h2,h3,h4,h5,h6⟩
  ·have:=h4 j hj hn;rw[this]at ho;cases ho
  ·have:=hle.resolve_left (by rw[h1];simp) i' (by rw[h2];exact h5);exact fewer_trans this (h6 j hj hn ho)
theorem BestR.stay{h h':Cells}(hr:Rd h h'){x:TF}{k it d:Int}{l1 l2:List (Nat×Bool)}{i:Nat}{p:Option Addr}{n:Nat}(hb:BestR h x k it d (l1++(i,true)::l2) p n true)
 (hle:∀ j,Sl IntE 1 h p n (bitsL (giving x) j)->fewerF (bitsL (giving x) j) (bitsL (giving x) i)<=0):BestR h' x k it d (l1++(i,false)::l2) p n true:=by
 rcases hb with⟨h1,h2,h3,h4⟩|⟨h1,i',a',h2,h3,h4,h5,h6⟩
 ·cases h1
 ·refine .inr ⟨rfl,i',a',h2,h3,h4,h5.rd IntE.grow hr,fun j hj hn ho=>?_⟩;rcases mem_but hn with rfl|hn
  ·exact hle i' (by rw[h2];exact h5)
  ·exact h6 j hj hn ho
def AllT(x:TF)(k it d:Int)(j:Nat):List (Nat×Bool):=(List.range j).map fun i=>(i,okB x k it d i)
theorem c2044{h:LH}(hch:h.chans=[])(hpe:h.pend=[])(hk:Kinds h.get){f:TC}{x:TF}(hx:TreatyR h.get f x)(k it d:Int) :
  FW XT Tryz.prog 21 #[treatyV f x,k,it,d] h fun r h'=>Rd h.get h'.get/\h'.chans=[]/\h'.pend=[]/\h'.todo=h.todo/\NeedsR h'.get x k it d r:=by
 refine w2044 _ _ _ _ _ _ _ _ _ _ _ _ XT_ok ?_;unfold n2044;refine t_new fun r hr=>?_;have le0:h.le _:=LH.upd_le (x:=(true,.cells #[.int .i64 x.items,.int .i64 x.lands,.int .i64 x.start,.int .i64 x.depend,.int .i64 x.refuse,.int .i64 x.turn,.slice f.p f.n f.c] 24 (0,0))) hr;have hat:TAt (h.get.upd r (true,.cells #[.int .i64 x.items,.int .i64 x.lands,.int .i64 x.start,.int .i64 x.depend,.int .i64 x.refuse,.int .i64 x.turn,.slice f.p f.n f.c] 24 (0,0))) ⟨r,0,none⟩ f x :=
  ⟨cell_upd rfl,cell_upd rfl,cell_upd rfl,cell_upd rfl,cell_upd rfl,cell_upd rfl,cell_upd rfl⟩
 generalize hh0:({ h with get:=h.get.upd r (true,.cells #[.int .i64 x.items,.int .i64 x.lands,.int .i64 x.start,.int .i64 x.depend,.int .i64 x.refuse,.int .i64 x.turn,.slice f.p f.n f.c] 24 (0,0)) }:LH)=h0 at le0 ⊢;have hat:TAt h0.get ⟨r,0,none⟩ f x:=by rw[<- hh0];exact hat
 refine t_new fun r1 hr1=>?_;have le1:h0.le _:=LH.upd_le (x:=(true,.cells #[.int .i64 k] 3 (0,0))) hr1;have z1:Cells.cell? (h0.get.upd r1 (true,.cells #[.int .i64 k] 3 (0,0))) ⟨r1,0,none⟩=some (.int .i64 k):=cell_upd rfl;refine t_new fun r2 hr2=>?_;have le2:=LH.upd_le (h:={ h0 with get:=h0.get.upd r1 (true,.cells #[.int .i64 k] 3 (0,0)) }) (x:=(true,.cells #[.int .i64 it] 3 (0,0))) hr2;have z2:Cells.cell? ((h0.get.upd r1 (true,.cells #[.int .i64 k] 3 (0,0))).upd r2 (true,.cells #[.int .i64 it] 3 (0,0))) ⟨r2,0,none⟩=some (.int .i64 it):=cell_upd rfl;refine t_new fun r3 hr3=>?_;have le3:=LH.upd_le (h:={ h0 with get:=(h0.get.upd r1 (true,.cells #[.int .i64 k] 3 (0,0))).upd r2 (true,.cells #[.int .i64 it] 3 (0,0)) }) (x:=(true,.cells #[.int .i64 d] 3 (0,0))) hr3;have z3:Cells.cell? (((h0.get.upd r1 (true,.cells #[.int .i64 k] 3 (0,0))).upd r2 (true,.cells #[.int .i64 it] 3 (0,0))).upd r3 (true,.cells #[.int .i64 d] 3 (0,0))) ⟨r3,0,none⟩=some (.int .i64 d):=cell_upd rfl;have z1:=Cells.cell?_le (LH.le_trans le2 le3).1 z1;have z2:=Cells.cell?_le le3.1 z2;have hat:=hat.le (LH.le_trans le1 (LH.le_trans le2 le3)).1;obtain⟨g0,g1,g2,g3,g4,g5,g6⟩:=id hat;have le03:=LH.le_trans le0 (LH.le_trans le1 (LH.le_trans le2 le3));generalize hh3:({ h0 with get:=((h0.get.upd r1 (true,.cells #[.int .i64 k] 3 (0,0))).upd r2 (true,.cells #[.int .i64 it] 3 (0,0))).upd r3 (true,.cells #[.int .i64 d] 3 (0,0)) }:LH)=h3 at le03 ⊢;have e3:h3.get=((h0.get.upd r1 (true,.cells #[.int .i64 k] 3 (0,0))).upd r2 (true,.cells #[.int .i64 it] 3 (0,0))).upd r3 (true,.cells #[.int .i64 d] 3 (0,0)):=by rw[<- hh3]
 rw[<- e3]at z1 z2 z3 hat g0 g1 g2 g3 g4 g5 g6;clear hh3 e3;refine gZ ?_;refine t_pu (c2066 (hk.le le03.1) (hx.le le03.1) k it d) ?_;refine yI (fun e=>?_) (fun e=>?_)
 ·exact t_ret ⟨Rd.of_le le03.1,by rw[le03.2.1,hch],by rw[le03.2.2.1,hpe],le03.2.2.2,.inl ⟨by simpa using e,rfl⟩⟩
 have ea:askedAllT x k it d=0:=by simpa using e
 have hck:=(asked_ok (askedItem_ok (askedAll_ok ea).1).1).1;have rt:=Right.of hck;have hkd:=KindsOk.of hck;have h10:=giving_ten rt;refine gZ ?_;refine t_gr (c2067 (hk.le le03.1) (hx.le le03.1) hkd rt.many) ?_;rintro _ h₄ le4 ⟨ap,an,ac,rfl,hal,_⟩;have han:=hal.1;refine gZ ?_;refine t_newSt2 rfl fun r4 h₅ le5 _ _ z0=>?_;have le35:=LH.le_trans le4 le5;refine t_blk (fun vs h'=>∃ b1 b2 q1 q2,vs=[.pointer (some ⟨b1,0,none⟩),.pointer (some ⟨b2,0,none⟩)]/\Opening 96 97 h₅ h' (some q1) (some q2) (some (b1,true)) (some (b2,true))) ?_ ?_
 ·have O:Opening 96 97 h₅ h₅ none none none none:=Opening.start
  repeat' first
   | refine t_both ?_ ?_
   | (refine op_new1 (by assumption) ?_;intro _ _ _)
   | (refine op_new2 (by assumption) ?_;intro _ _ _)
   | (refine op_chan1 undCI inf50 (by assumption) ?_;intro _ _ _)
   | (refine op_chan2 undCB inf4 (by assumption) ?_;intro _ _ _)
   | refine t_unC ?_
   | (refine op_store1 (by assumption) ?_;intro _ _)
   | (refine op_store2 (by assumption) ?_;intro _ _)
   | exact t_again ⟨_,_,_,_,rfl,by assumption⟩
 rintro _ h₆ ⟨b1,b2,q1,q2,rfl,O⟩;have le6:=O.le;have le36:=LH.le_trans le35 le6;have le06:=LH.le_trans le03 le36;have z0:=Cells.cell?_le le6.1 z0;have z1:=Cells.cell?_le le36.1 z1;have z2:=Cells.cell?_le le36.1 z2;have z3:=Cells.cell?_le le36.1 z3;have hat:=hat.le le36.1;have hal:=hal.le IntE.grow (LH.le_trans le5 le6).1;have zc1:h₆.get.cell? ⟨b1,0,none⟩=some (.chan (some q1)):=by
  have:=(O.hb1 b1 true rfl).2;simp[Cells.cell?,this]
 have zc2:h₆.get.cell? ⟨b2,0,none⟩=some (.chan (some q2)):=by
  have:=(O.hb2 b2 true rfl).2;simp[Cells.cell?,this]
 have hq:=O.ne q1 q2 rfl rfl;have hq1:=O.hc1 q1 rfl;have hq2:=O.hc2 q2 rfl;refine gZ ?_;rw[sets_wrap (by omega)];have h1024:2^an<=2^10:=Nat.pow_le_pow_right (by omega) (by omega);have hNe:(2:Nat)^an=2^(giving x).length:=by rw[han]
 have hNpos:0<2^an:=Nat.pow_pos (by omega);generalize hN:(2:Nat)^an=N at h1024 hNe hNpos ⊢;refine gZ ?_;refine t_loop (fun mm vs h'=>∃ j:Nat,vs=[.int .i64 j]/\j<=N/\mm=N-j/\Rd h₆.get h'.get/\h'.todo=h.todo/\h'.pend=(AllT x k it d j).map (scr q1 q2 (Found x) Done)/\Hand2 q1 q2 h'/\(0<j->h'.chans=[q2,q1]))
  ⟨0,rfl,Nat.zero_le _,rfl,Rd.refl _,le06.2.2.2,by rw[le06.2.2.1,hpe];rfl,.inl ⟨by rw[le06.2.1,hch],hq,⟨0,hq1⟩,0,hq2⟩,fun hh=>absurd hh (by omega)⟩ ?_
 rintro Y mm vs h₇ hY ⟨j,rfl,hj,rfl,rd7,td7,pd7,hand7,ch7⟩;refine yJ (fun e1=>?_) (fun e1=>?_)
 ·refine t_newSt2 rfl fun r5 h₈ le8 _ _ z5=>?_;have rd8:=rd7.trans (Rd.of_le le8.1);refine t_spawn (spawnW_two q1 q2 (s:=scr q1 q2 (Found x) Done (j,okB x k it d j)) (by rw[le8.2.2.1,pd7];intro hm;obtain⟨z,_,hz⟩:=List.mem_map.1 hm;unfold scr at hz;split at hz<;>cases hz) (hand7.le le8) ?_ ?_ (fun hc hrd=>?_) (fun h₉ r9 c9 t9 p9=>?_))
  ·unfold scr;split<;>simp
  ·intro y hy;unfold scr at hy;split at hy
   ·simp at hy;rcases hy with rfl|rfl<;>simp
   ·simp at hy;simp[hy]
  ·have rdc:=rd8.trans hrd;exact c2073 ((hk.le le06.1).rd rdc) ((hx.le le06.1).rd rdc) rt hkd (hat.rd rdc) (by omega) (rdc _ _ z0) (hal.rd IntE.grow rdc) (hrd _ _ z5) (rdc _ _ z1) (rdc _ _ z2) (rdc _ _ z3) (rdc _ _ zc1) (rdc _ _ zc2)
  ·refine t_again (hY (N-(j+1)) _ _ (by omega) ⟨j+1,?_,by omega,rfl,rd8.trans r9,(t9.trans le8.2.2.2).trans td7,?_,.inr c9,fun _=>c9⟩)
   ·rw[wrap_id (by omega) (by omega)];rfl
   ·rw[p9,le8.2.2.1,pd7,AllT,AllT,List.range_succ,List.map_append,List.map_append];rfl
 ·refine gZ ?_;have hjN:j=N:=by omega
  subst hjN;refine t_loop (fun mm vs h'=>∃ (rem:List (Nat×Bool)) (b:Bool) (p:Option Addr) (n c:Nat),vs=[.slice p n c,.bool b,.int .i64 rem.length]/\rem.length<=j/\mm=(rem.map weight).sum/\(∀ i o,(i,o)∈rem->i<j)/\(∀ i,(i,true)∈rem->okB x k it d i=true)/\Rd h₆.get h'.get/\h'.todo=h.todo/\h'.pend=rem.map (scr q1 q2 (Found x) Done) /\
    ((rem≠[]/\h'.chans=[q2,q1])\/(rem=[]/\h'.chans=[]))/\BestR h'.get x k it d rem p n b/\n<=c/\(b=false->c=0))
   ⟨AllT x k it d j,false,none,0,0,by simp[AllT],by simp[AllT],rfl,?_,?_,rd7,td7,pd7,.inl ⟨?_,ch7 hNpos⟩,.inl ⟨rfl,rfl,rfl,?_⟩,Nat.le_refl _,fun _=>rfl⟩ ?_
  ·intro i o hi;simp[AllT]at hi;omega
  ·intro i hi;simp[AllT]at hi;exact(by obtain⟨a0,a1,a2,a3⟩:=hi;rw[<- a2];exact a3)
  ·intro hh;have:=congrArg List.length hh;simp[AllT]at this;omega
  ·intro i hi hn;cases ho:okB x k it d i with
   | false=>rfl
   | true=>exact absurd (List.mem_map.2 ⟨i,List.mem_range.2 (by omega),by rw[ho]⟩) hn
  rintro Y2 mm vs h₈ hY2 ⟨rem,b,p,n,c,rfl,hlen,rfl,hrem,hok,rd8,td8,pd8,hst8,best,hcap,hc0⟩;refine yJ (fun e2=>?_) (fun e2=>?_)
  ·have hne:rem≠[]:=by rintro rfl;simp at e2
   have hc8:h₈.chans=[q2,q1]:=by
    rcases hst8 with⟨_,a⟩|⟨a,_⟩
    ·exact a
    ·exact absurd a hne
   refine t_loadC (rd8 _ _ zc1) ?_;refine t_loadC (rd8 _ _ zc2) ?_;refine t_comm (commW_sel (φ:=Found x) (ψ:=Done) pd8 hc8 hq hne ?_ ?_)
   ·rintro l1 i l2 v h₉ hrem' ht hpd hc9 ⟨hv,⟨a,n',c',rfl,hs9,hcap9⟩,hle⟩ hle9;have hcr:commResult #[Conc.rcase q1 (.slice none 0 0),Conc.rcase q2 (.bool false)] .select ((0:Nat):Int) (.slice (some a) n' c') true=.tuple #[.int .i64 0,.bool true,.slice (some a) n' c',.bool false]:=by simp[commResult,Conc.rcase,goInt]
    rw[hcr];subst hrem';have rd9:=Rd.of_le hle9;have hs9:=hs9.rd IntE.grow (Rd.of_le hle);have hi:i<2^(giving x).length:=by have:=hrem i true (by simp);omega
    have hoi:okB x k it d i=true:=hok i (by simp);have next:∀ p' n' c',BestR h₉.get x k it d (l1++(i,false)::l2) p' n' true->n'<=c'->Y2 [.slice p' n' c',.bool true,.int .i64 ((l1++(i,true)::l2).length:Nat)] h₉:=by
     intro p' n' c' hb hcap';refine hY2 (((l1++(i,false)::l2).map weight).sum) _ _ (by simp[weight]) ⟨l1++(i,false)::l2,true,p',n',c',by simp,by simpa using hlen,rfl,?_,?_,rd8.trans rd9,ht.trans td8,hpd,.inl ⟨by simp,hc9⟩,hb,hcap',fun h=>by cases h⟩
     ·intro i' o hi';simp only[List.mem_append,List.mem_cons,Prod.mk.injEq]at hi';rcases hi' with h1|h1|h1
      ·exact hrem i' o (by simp[h1])
      ·rw[h1.1];exact hrem i true (by simp)
      ·exact hrem i' o (by simp[h1])
     ·intro i' hi';simp at hi';exact hok i' (by rcases hi' with h1|h1<;>simp[h1])
    refine yT ?_;refine t_cond (fun e3=>?_) (fun e3=>?_)
    ·exact t_again (next _ _ _ (best.take hoi hi hs9 (.inl (by simpa using e3))) hcap9)
    ·have hbt:b=true:=by simpa using e3
     subst hbt;obtain⟨k',a',hk',hs'⟩ : ∃ k' a',p=some a'/\Sl IntE 1 h₈.get (some a') n (bitsL (giving x) k'):=by
      rcases best with⟨b1,_⟩|⟨_,k',a',b1,_,_,b4,_⟩
      ·cases b1
      ·exact⟨k',a',b1,b4⟩
     subst hk';refine t_pu (c2074 hs9 (hs'.rd IntE.grow rd9)) ?_;have same:∀ k2,Sl IntE 1 h₈.get (some a') n (bitsL (giving x) k2)->bitsL (giving x) k2=bitsL (giving x) k':=fun k2 h3=>Sl.same h3 hs';refine yJ (fun e4=>?_) (fun e4=>?_)
     ·refine t_again (next _ _ _ (best.take hoi hi hs9 (.inr fun k2 h3=>?_)) hcap9);rw[same k2 h3];omega
     ·refine t_again (next _ _ _ (best.stay rd9 fun k2 h3=>?_) hcap);rw[same k2 h3,fewer_neg];omega
   ·intro l1 i l2 v h₉ hrem' ht hpd hst9 ⟨hv,hval⟩ hle9;have hval:v=.bool true:=hval;subst hval;have hcr:commResult #[Conc.rcase q1 (.slice none 0 0),Conc.rcase q2 (.bool false)] .select ((1:Nat):Int) (.bool true) true=.tuple #[.int .i64 1,.bool true,.slice none 0 0,.bool true]:=by simp[commResult,Conc.rcase,goInt]
    rw[hcr];subst hrem';have rd9:=Rd.of_le hle9;have hl:(l1++(i,false)::l2).length=(l1++l2).length+1:=by simp;omega
    refine gZ ?_;refine t_again (hY2 (((l1++l2).map weight).sum) _ _ (by simp[weight]) ⟨l1++l2,b,p,n,c,?_,by omega,rfl,?_,?_,rd8.trans rd9,ht.trans td8,hpd,hst9,(best.drop).rd rd9,hcap,hc0⟩)
    ·rw[hl,wrap_id (by omega) (by omega)];congr 3;congr 1;omega
    ·intro i' o hi';simp only[List.mem_append]at hi';exact hrem i' o (by rcases hi' with h1|h1<;>simp[h1])
    ·intro i' hi';simp only[List.mem_append]at hi';exact hok i' (by rcases hi' with h1|h1<;>simp[h1])
  ·refine gZ ?_;have hrem0:rem=[]:=List.length_eq_zero_iff.1 (by omega);subst hrem0;have hc8:h₈.chans=[]:=by
    rcases hst8 with⟨a,_⟩|⟨_,a⟩
    ·exact absurd rfl a
    ·exact a
   refine t_ret ⟨(Rd.of_le le06.1).trans rd8,hc8,pd8,td8,.inr ?_⟩;rcases best.done rt.ok with⟨a1,rfl,rfl,rfl⟩|⟨a1,rfl,a2⟩
   ·have:=hc0 rfl;subst this;exact .inl ⟨ea,a1,rfl⟩
   ·exact .inr ⟨ea,a1,_,_,_,rfl,a2,hcap⟩
end
section
open Go.TM.Tr
attribute [local irreducible] T.wp CV FWK
theorem c2020{h:LH}{p q:Option Addr}{n c m d:Nat}{a b:List Bool}(ha:Sl BoolE 1 h.get p n a)(hb:Sl BoolE 1 h.get q m b):Pu Tryz.prog 22 #[.slice p n c,.slice q m d] h (.bool (decide (a=b))):=by
 refine w2020 _ _ _ _ _ _ X0_ok ?_;unfold n2020;have hn:=ha.1;have hm:=hb.1;have hbn:=ha.2.1;have hbm:=hb.2.1;refine t_cond (fun e=>?_) (fun e=>?_)
 ·have:a≠b:=by rintro rfl;simp at e;omega
  exact t_ret ⟨by simp[this],rfl⟩
 have hnm:n=m:=by simp at e;omega
 refine t_loop (fun mm vs h'=>h=h'/\∃ i:Nat,vs=[.bool false,.int .i64 i]/\i<=n/\mm=n-i/\a.take i=b.take i) ⟨rfl,0,rfl,Nat.zero_le _,rfl,rfl⟩ ?_;rintro Y mm vs _ hY ⟨rfl,i,rfl,hi,rfl,hc⟩;refine yJ (fun e=>?_) (fun e=>?_)
 ·obtain⟨x,a1,hx,ha1,e1⟩:=ha.at (i:=i) (by omega);obtain⟨y,a2,hy,ha2,e2⟩:=hb.at (i:=i) (by omega);unfold BoolE at e1 e2;rw[add_zero']at e1 e2;refine yI (fun b1=>?_) (fun b1=>?_)
  ·refine gZ ?_;have:a≠b:=by rintro rfl;rw[hx]at hy;cases hy;simp at b1
   exact t_ret ⟨by simp[this],rfl⟩
  ·have b2:x=y:=by cases x<;>cases y<;>simp_all
   refine t_again (hY (n-(i+1)) _ _ (by omega) ⟨rfl,i+1,?_,by omega,rfl,?_⟩)
   ·rw[wrap_id (by omega) (by omega)];rfl
   ·rw[List.take_add_one,List.take_add_one,hc,hx,hy,b2]
 ·refine gZ ?_;rw[List.take_of_length_le (by omega),List.take_of_length_le (by omega)]at hc;exact t_ret ⟨by simp[hc],rfl⟩
theorem c2025{h:LH}{p q:Option Addr}{n c m d:Nat}{a b:List Sp}(ha:Sl SpE 2 h.get p n a)(hb:Sl SpE 2 h.get q m b):Pu Tryz.prog 24 #[.slice p n c,.slice q m d] h (.bool (decide (a=b))):=by
 refine w2025 _ _ _ _ _ _ X0_ok ?_;unfold n2025;have hn:=ha.1;have hm:=hb.1;have hbn:=ha.2.1;have hbm:=hb.2.1;refine t_cond (fun e=>?_) (fun e=>?_)
 ·have:a≠b:=by rintro rfl;simp at e;omega
  exact t_ret ⟨by simp[this],rfl⟩
 have hnm:n=m:=by simp at e;omega
 refine t_loop (fun mm vs h'=>h=h'/\∃ i:Nat,vs=[.bool false,.int .i64 i]/\i<=n/\mm=n-i/\a.take i=b.take i) ⟨rfl,0,rfl,Nat.zero_le _,rfl,rfl⟩ ?_;rintro Y mm vs _ hY ⟨rfl,i,rfl,hi,rfl,hc⟩;refine yJ (fun e=>?_) (fun e=>?_)
 ·obtain⟨x,a1,hx,ha1,e1,e3⟩:=ha.at (i:=i) (by omega);obtain⟨y,a2,hy,ha2,e2,e4⟩:=hb.at (i:=i) (by omega);refine gZ ?_;refine t_ne2 two30 g30 ?_;refine yI (fun b1=>?_) (fun b1=>?_)
  ·refine gZ ?_;have:a≠b:=by rintro rfl;rw[hx]at hy;cases hy;simp at b1
   exact t_ret ⟨by simp[this],rfl⟩
  ·have b2:x=y:=by obtain⟨x1,x2⟩:=x;obtain⟨y1,y2⟩:=y;simp at b1;simp[b1]
   refine t_again (hY (n-(i+1)) _ _ (by omega) ⟨rfl,i+1,?_,by omega,rfl,?_⟩)
   ·rw[wrap_id (by omega) (by omega)];rfl
   ·rw[List.take_add_one,List.take_add_one,hc,hx,hy,b2]
 ·refine gZ ?_;rw[List.take_of_length_le (by omega),List.take_of_length_le (by omega)]at hc;exact t_ret ⟨by simp[hc],rfl⟩
end
end Go.Y.Tre
section
namespace Go.Y
set_option maxHeartbeats 0
set_option linter.unusedVariables false
variable {X:XP} {h:LH} {A:Value->LH->Prop}
def n2016(x_0 x_1 x_2 x_3 x_4 x_5:Int)(x_6p:Option Addr)(x_6n x_6c:Nat):T:=bif decide ((↑x_6n:Int)>20) then .rt (.bool true) else .loop [false,.int .i64 0] (fun vs=>.popB vs fun b vs=>.pi vs fun n vs=>.unNil vs (bif decide (n<(↑x_6n:Int)) then .need (0<=n/\n<(↑x_6n:Int)) (.someA x_6p fun a=>.loadS ((a.add (n.toNat*5)).add 3) fun p n_1 c=>bif decide ((↑n_1:Int)>20) then .rn [true,n] else .ag [b,.int .i64 (wrap .i64 (n+1))]) else .bk [b,n])) (fun vs=>.popB vs fun b vs=>.pi vs fun n vs=>.unNil vs (.rt (.bool false))) (fun vs=>.popB vs fun b vs=>.pi vs fun n vs=>.unNil vs (.rt (.bool b))) fun x x_6=>.fail
theorem w2016(x_0 x_1 x_2 x_3 x_4 x_5:Int)(x_6p:Option Addr)(x_6n x_6c:Nat):FX X 11 #[.agg #[x_0,x_1,x_2,x_3,x_4,x_5,.slice x_6p x_6n x_6c]] h A (n2016 x_0 x_1 x_2 x_3 x_4 x_5 x_6p x_6n x_6c):=fk [1] [⟨0,[(2,.bool),(3,.int .i64)],[1],[],[],[]⟩] [] Tryz.f11
def n2017  : T:=.cl 16 #[] fun v=>.unAgg v fun l=>.pi l fun n vs=>.pi vs fun n_1 vs=>.pi vs fun n_2 vs=>.pi vs fun n_3 vs=>.pi vs fun n_4 vs=>.pi vs fun n_5 vs=>.popS vs fun a n_6 c vs=>.unNil vs (.cT 17 #[.agg #[n,n_1,n_2,n_3,n_4,n_5,.slice a n_6 c],.int .i64 0,.int .i64 15] fun v vs=>.unS v fun a_1 n_7 c_1=>.unCons vs fun v vs=>.ui v fun n_8=>.unNil vs (.cT 17 #[.agg #[n,n_1,n_2,n_3,n_4,n_5,.slice a n_6 c],.int .i64 1,.int .i64 40] fun v vs=>.unS v fun a_2 n_9 c_2=>.unCons vs fun v vs=>.ui v fun n_10=>.unNil vs (.cT 18 #[.agg #[n,n_1,n_2,n_3,n_4,n_5,.slice a n_6 c],.int .i64 0,.int .i64 18] fun v vs=>.unS v fun a_3 n_11 c_3=>.unCons vs fun v vs=>.ui v fun n_12=>.unNil vs (.cT 18 #[.agg #[n,n_1,n_2,n_3,n_4,n_5,.slice a n_6 c],.int .i64 0,.int .i64 44] fun v vs=>.unS v fun a_4 n_13 c_4=>.unCons vs fun v vs=>.ui v fun n_14=>.unNil vs (.cT 19 #[.agg #[n,n_1,n_2,n_3,n_4,n_5,.slice a n_6 c],.int .i64 0,.int .i64 0] fun v vs=>.unS v fun a_5 n_15 c_5=>.unCons vs fun v vs=>.ui v fun n_16=>.unNil vs (.cT 19 #[.agg #[n,n_1,n_2,n_3,n_4,n_5,.slice a n_6 c],.int .i64 0,.int .i64 1] fun v vs=>.unS v fun a_6 n_17 c_6=>.unCons vs fun v vs=>.ui v fun n_18=>.unNil vs (.cT 20 #[.agg #[n,n_1,n_2,n_3,n_4,n_5,.slice a n_6 c],.int .i64 1,.int .i64 45] fun v vs=>.unS v fun a_7 n_19 c_7=>.unCons vs fun v vs=>.ui v fun n_20=>.unNil vs (.cT 20 #[.agg #[n,n_1,n_2,n_3,n_4,n_5,.slice a n_6 c],.int .i64 1,.int .i64 46] fun v vs=>.unS v fun a_8 n_21 c_8=>.unCons vs fun v vs=>.ui v fun n_22=>.unNil vs (.cT 21 #[.agg #[n,n_1,n_2,n_3,n_4,n_5,.slice a n_6 c],.int .i64 0,.int .i64 0,.int .i64 44] fun v vs=>.unS v fun a n c=>.unCons vs fun v vs=>.unB v fun b=>.unCons vs fun v vs=>.ui v fun n_23=>.unNil vs (.blk (bif n_8 != 0 then .rn [false] else bif n_10 != 0 then .rn [false] else bif n_12 != 0 then .rn [false] else bif n_14 != 0 then .rn [false] else bif n_16 != 0 then .rn [false] else bif n_18 != 0 then .rn [false] else bif n_20 != 0 then .rn [false] else bif n_22 != 0 then .rn [false] else bif n_23 != 0 then .rn [false] else .ag [false]) (fun vs=>.popB vs fun b_1 vs=>.unNil vs (.blk (.sem false (Instr.buildSlice 57 3 #[(0,.bool true),(1,.bool false),(2,.bool true)]) fun v=>.unS v fun a_9 n_24 c_9=>.cB 22 #[.slice a_1 n_7 c_1,.slice a_9 n_24 c_9] fun b_2=>bif !b_2 then .rn [false] else .sem false (Instr.buildSlice 57 3 #[(0,.bool false),(1,.bool true),(2,.bool false)]) fun v=>.unS v fun a_10 n_25 c_10=>.cB 22 #[.slice a_2 n_9 c_2,.slice a_10 n_25 c_10] fun b_3=>bif !b_3 then .rn [false] else .sem false (Instr.buildSlice 31 3 #[(0,.int .i64 3),(1,.int .i64 (-1)),(2,.int .i64 12)]) fun v=>.unS v fun a_11 n_26 c_11=>.cB 23 #[.slice a_3 n_11 c_3,.slice a_11 n_26 c_11] fun b_4=>bif !b_4 then .rn [false] else .sem false (Instr.buildSlice 31 3 #[(0,.int .i64 3),(1,.int .i64 12),(2,.int .i64 (-1))]) fun v=>.unS v fun a_12 n_27 c_12=>.cB 23 #[.slice a_4 n_13 c_4,.slice a_12 n_27 c_12] fun b_5=>bif !b_5 then .rn [false] else bif !b then .rn [false] else .sem false (Instr.buildSlice 31 2 #[(0,.int .i64 0),(1,.int .i64 5)]) fun v=>.unS v fun a_13 n_28 c_13=>.cB 23 #[.slice a n c,.slice a_13 n_28 c_13] fun b=>bif !b then .rn [false] else .ag [b_1]) (fun vs=>.popB vs fun b vs=>.unNil vs (.cl 25 #[.int .i64 12,.int .i64 39] fun v=>.unAgg v fun l=>.pi l fun n vs=>.pi vs fun n_24 vs=>.unNil vs (.cl 25 #[.int .i64 44,.int .i64 9999] fun v=>.unAgg v fun l=>.pi l fun n_25 vs=>.pi vs fun n_26 vs=>.unNil vs (.sem false (Instr.buildSlice 62 2 #[(0,.agg #[n,n_24]),(1,.agg #[n_25,n_26])]) fun v=>.unS v fun a n c=>.cB 24 #[.slice a_5 n_15 c_5,.slice a n c] fun b=>bif b then .cl 25 #[.int .i64 12,.int .i64 14] fun v=>.unAgg v fun l=>.pi l fun n vs=>.pi vs fun n_27 vs=>.unNil vs (.cl 25 #[.int .i64 25,.int .i64 9999] fun v=>.unAgg v fun l=>.pi l fun n_28 vs=>.pi vs fun n_29 vs=>.unNil vs (.sem false (Instr.buildSlice 62 2 #[(0,.agg #[n,n_27]),(1,.agg #[n_28,n_29])]) fun v=>.unS v fun a n c=>.cB 24 #[.slice a_6 n_17 c_6,.slice a n c] fun b=>bif b then .sem false (Instr.buildSlice 31 1 #[(0,.int .i64 0)]) fun v=>.unS v fun a n c=>.cB 23 #[.slice a_7 n_19 c_7,.slice a n c] fun b=>bif b then .rt (.bool ((↑n_21:Int)==0)) else .rt (.bool false) else .rt (.bool false))) else .rt (.bool false))))) (fun vs=>.popB vs fun b vs=>.unNil vs (.rt (.bool b))) fun x x_1=>.fail)) (fun vs=>.popB vs fun b vs=>.unNil vs (.rt (.bool b))) fun x x_1=>.fail))))))))))
theorem w2017  : FX X 7 #[] h A (n2017):=fk [1] [] [⟨15,[(0,.bool)],[1],[],[],[]⟩,⟨13,[(0,.bool)],[1],[],[],[]⟩] Tryz.f7
def n2031(x_0 x_1 x_2 x_3 x_4 x_5:Int)(x_6p:Option Addr)(x_6n x_6c:Nat):T:=.cB 11 #[.agg #[x_0,x_1,x_2,x_3,x_4,x_5,.slice x_6p x_6n x_6c]] fun b=>bif !b then .cI 12 #[.agg #[x_0,x_1,x_2,x_3,x_4,x_5,.slice x_6p x_6n x_6c]] fun n=>.rt (.bool (n==0)) else .rt (.bool false)
theorem w2031(x_0 x_1 x_2 x_3 x_4 x_5:Int)(x_6p:Option Addr)(x_6n x_6c:Nat):FX X 4 #[.agg #[x_0,x_1,x_2,x_3,x_4,x_5,.slice x_6p x_6n x_6c]] h A (n2031 x_0 x_1 x_2 x_3 x_4 x_5 x_6p x_6n x_6c):=fk [1] [] [] Tryz.f4
def n2032(n:Int):T:=.need ((10000:Int)≠0) (.rt (.int .i64 (Int.tmod (wrap .i64 n) 10000)))
theorem w2032(n:Int):FX X 8 #[.int .u16 n] h A (n2032 n):=fk [] [] [] Tryz.f8
def n2034(x_0 x_1 x_2 x_3 x_4 x_5:Int)(x_6p:Option Addr)(x_6n x_6c:Nat)(y_0 y_1 y_2 y_3 y_4 y_5:Int)(y_6p:Option Addr)(y_6n y_6c:Nat)(land day:Int):T:=.cB 28 #[.agg #[x_0,x_1,x_2,x_3,x_4,x_5,.slice x_6p x_6n x_6c],.agg #[y_0,y_1,y_2,y_3,y_4,y_5,.slice y_6p y_6n y_6c],land,day] fun b=>bif b then .cB 28 #[.agg #[y_0,y_1,y_2,y_3,y_4,y_5,.slice y_6p y_6n y_6c],.agg #[x_0,x_1,x_2,x_3,x_4,x_5,.slice x_6p x_6n x_6c],land,day] fun b=>.rt (.bool b) else .rt (.bool false)
theorem w2034(x_0 x_1 x_2 x_3 x_4 x_5:Int)(x_6p:Option Addr)(x_6n x_6c:Nat)(y_0 y_1 y_2 y_3 y_4 y_5:Int)(y_6p:Option Addr)(y_6n y_6c:Nat)(land day:Int):FX X 10 #[.agg #[x_0,x_1,x_2,x_3,x_4,x_5,.slice x_6p x_6n x_6c],.agg #[y_0,y_1,y_2,y_3,y_4,y_5,.slice y_6p y_6n y_6c],land,day] h A (n2034 x_0 x_1 x_2 x_3 x_4 x_5 x_6p x_6n x_6c y_0 y_1 y_2 y_3 y_4 y_5 y_6p y_6n y_6c land day):=fk [4,5] [] [] Tryz.f10
def n2048  : T:=.sem false (Instr.buildSlice 31 3 #[(0,.int .i64 0),(1,.int .i64 1),(2,.int .i64 2)]) fun v=>.unS v fun a n c=>.sem false (Instr.buildSlice 31 1 #[(0,.int .i64 1)]) fun v=>.unS v fun a_1 n_1 c_1=>.sem false (Instr.buildSlice 31 1 #[(0,.int .i64 1)]) fun v=>.unS v fun a_2 n_2 c_2=>.sem false (Instr.buildSlice 31 1 #[(0,.int .i64 2)]) fun v=>.unS v fun a_3 n_3 c_3=>.sem false (Instr.buildSlice 31 1 #[(0,.int .i64 0)]) fun v=>.unS v fun a_4 n_4 c_4=>.sem false (Instr.buildSlice 31 1 #[(0,.int .i64 0)]) fun v=>.unS v fun a_5 n_5 c_5=>.sem false (Instr.buildSlice 31 2 #[(0,.int .i64 0),(1,.int .i64 1)]) fun v=>.unS v fun a_6 n_6 c_6=>.sem false (Instr.buildSlice 31 1 #[(0,.int .i64 1)]) fun v=>.unS v fun a_7 n_7 c_7=>.sem false (Instr.buildSlice 31 1 #[(0,.int .i64 1)]) fun v=>.unS v fun a_8 n_8 c_8=>.sem false (Instr.buildSlice 31 1 #[(0,.int .i64 0)]) fun v=>.unS v fun a_9 n_9 c_9=>.sem false (Instr.buildSlice 22 10 #[(0,.agg #[.int .i64 0,.int .i64 12,.int .i64 0,.slice a n c,.int .i64 0]),(1,.agg #[.int .i64 1,.int .i64 15,.int .i64 0,.slice a_1 n_1 c_1,.int .i64 0]),(2,.agg #[.int .i64 2,.int .i64 25,.int .i64 0,.slice a_2 n_2 c_2,.int .i64 0]),(3,.agg #[.int .i64 3,.int .i64 22,.int .i64 0,.slice a_3 n_3 c_3,.int .i64 0]),(4,.agg #[.int .i64 4,.int .i64 40,.int .i64 0,.slice a_4 n_4 c_4,.int .i64 30]),(5,.agg #[.int .i64 5,.int .i64 44,.int .i64 0,.slice a_5 n_5 c_5,.int .i64 0]),(6,.agg #[.int .i64 0,.int .i64 20,.int .i64 1,.slice a_6 n_6 c_6,.int .i64 0]),(7,.agg #[.int .i64 1,.int .i64 27,.int .i64 1,.slice a_7 n_7 c_7,.int .i64 0]),(8,.agg #[.int .i64 4,.int .i64 50,.int .i64 0,.slice a_8 n_8 c_8,.int .i64 31]),(9,.agg #[.int .i64 6,.int .i64 18,.int .i64 0,.slice a_9 n_9 c_9,.int .i64 3])]) fun v=>.unS v fun a n c=>.rt (.agg #[.int .i64 3,.int .i64 2,.int .i64 10,.int .i64 20,.int .i64 6,.int .i64 5,.slice a n c])
theorem w2048  : FX X 16 #[] h A (n2048):=fk [0] [] [] Tryz.f16
def n2049(a b:Int):T:=.rt (.agg #[a,b])
theorem w2049(a b:Int):FX X 25 #[a,b] h A (n2049 a b):=fk [4] [] [] Tryz.f25
end Go.Y
end
namespace Go.Y.Tre
section
open Go.TM.Tr
attribute [local irreducible] T.wp CV FWK
def bigB(x:TF):Bool:=decide (20<x.events.length)||x.events.any fun e=>decide (20<e.items.length)
theorem c2016{h:LH}{f:TC}{x:TF}(hx:TreatyR h.get f x):Pu Tryz.prog 11 #[treatyV f x] h (.bool (bigB x)):=by
 refine w2016 _ _ _ _ _ _ _ _ _ X0_ok ?_;unfold n2016;have hn:=hx.2.1;have hb:=hx.2.2.1;refine t_if (fun e=>?_) (fun e=>?_)
 ·exact t_ret ⟨by rw[bigB,decide_eq_true (by omega)];rfl,rfl⟩
 have h0:bigB x=x.events.any fun e=>decide (20<e.items.length):=by rw[bigB,decide_eq_false (by omega)];rfl
 refine t_loop (fun mm vs h'=>h=h'/\∃ j:Nat,vs=[.bool false,.int .i64 j]/\j<=f.n/\mm=f.n-j/\bigB x=(x.events.drop j).any fun e=>decide (20<e.items.length)) ⟨rfl,0,rfl,Nat.zero_le _,rfl,h0⟩ ?_;rintro Y mm vs _ hY ⟨rfl,j,rfl,hj,rfl,hc⟩;refine yJ (fun e1=>?_) (fun e1=>?_)
 ·obtain⟨y,a,hy,ha,g0,g1,g2,⟨q,m,c,g3,_,g5⟩,g4⟩:=hx.2.at (i:=j) (by omega);rw[drop_of hy,List.any_cons]at hc;have hm:=g5.1;refine yJ (fun e2=>?_) (fun e2=>?_)
  ·refine gZ ?_;rw[decide_eq_true (by omega),Bool.true_or]at hc;exact t_ret ⟨by rw[hc],rfl⟩
  ·rw[decide_eq_false (by omega),Bool.false_or]at hc;refine t_again (hY (f.n-(j+1)) _ _ (by omega) ⟨rfl,j+1,?_,by omega,rfl,hc⟩);rw[wrap_id (by omega) (by omega)];rfl
 ·refine gZ ?_;rw[List.drop_eq_nil_of_le (by omega)]at hc;exact t_ret ⟨by rw[hc];rfl,rfl⟩
def fitB(x:TF):Bool:=!bigB x&&(checkT x==0)
theorem c2031{h:LH}{f:TC}{x:TF}(hx:TreatyR h.get f x):Pu Tryz.prog 4 #[treatyV f x] h (.bool (fitB x)):=by
 refine w2031 _ _ _ _ _ _ _ _ _ X0_ok ?_;unfold n2031;refine t_pu (c2016 hx) ?_;refine yI (fun e=>?_) (fun e=>?_)
 ·refine t_pu (c2022 hx) ?_;refine gZ ?_;exact t_ret ⟨by rw[fitB,e];rfl,rfl⟩
 ·exact t_ret ⟨by rw[fitB,e];rfl,rfl⟩
theorem fit_ok{x:TF}(h:fitB x=true):checkT x=0:=by
 unfold fitB at h;simp at h;exact h.2
theorem c2032{h:LH}{n:Int}(hn:0<=n/\n<=65535):Pu Tryz.prog 8 #[.int .u16 n] h (.int .i64 (n%10000)):=by
 refine w2032 _ X0_ok ?_;unfold n2032;refine gT (by omega) ?_;rw[wrap_id (by omega) (by omega),Int.tmod_eq_emod_of_nonneg hn.1];exact t_ret ⟨rfl,rfl⟩
theorem c2049{h:LH}(a b:Int):Pu Tryz.prog 25 #[a,b] h (.agg #[a,b]):=by
 refine w2049 _ _ X0_ok ?_;unfold n2049;exact t_ret ⟨rfl,rfl⟩
section
variable {X:XP} {Q:Leaf->LH->Prop} {h:LH} {n:Nat} {parts:Array (Nat×Value)} {k:Value->T}
theorem t_ints(l:List Int)(hn:n*1<=2^24)(hl:l.length=n)(hpos:n*1≠0)
 (hf:Instr.fill (fun i=>some (i*1,1)) ((Array.range (n*1)).map ((Value.int .i64 0).cells[·%(Value.int .i64 0).cells.size]!)) parts.toList=some (l.map (Value.int .i64)).toArray)
 (hk:∀ r h',h.le h'->Sl IntE 1 h'.get (some ⟨r,0,none⟩) n l->(k (.slice (some ⟨r,0,none⟩) n n)).wp X Tryz.prog Q h'):(T.sem false (Instr.buildSlice 31 n parts) k).wp X Tryz.prog Q h:=by
 refine t_buildR (l.map (Value.int .i64)) und50 inf3 hn hpos hf fun r h' le _ hc=>hk r h' le ?_;refine⟨hl.symm,by omega,fun i x hx=>⟨_,rfl,?_⟩⟩;unfold IntE;rw[Nat.mul_one];exact hc i _ (by rw[List.getElem?_map,hx];rfl)
theorem t_bools(l:List Bool)(hn:n*1<=2^24)(hl:l.length=n)(hpos:n*1≠0)
 (hf:Instr.fill (fun i=>some (i*1,1)) ((Array.range (n*1)).map ((Value.bool false).cells[·%(Value.bool false).cells.size]!)) parts.toList=some (l.map Value.bool).toArray)
 (hk:∀ r h',h.le h'->Sl BoolE 1 h'.get (some ⟨r,0,none⟩) n l->(k (.slice (some ⟨r,0,none⟩) n n)).wp X Tryz.prog Q h'):(T.sem false (Instr.buildSlice 57 n parts) k).wp X Tryz.prog Q h:=by
 refine t_buildR (l.map Value.bool) undBs inf4 hn hpos hf fun r h' le _ hc=>hk r h' le ?_;refine⟨hl.symm,by omega,fun i x hx=>⟨_,rfl,?_⟩⟩;unfold BoolE;rw[Nat.mul_one,add_zero'];exact hc i _ (by rw[List.getElem?_map,hx];rfl)
end
theorem sp_two{h:Cells}{r:Nat}{a b:Sp}(hc:∀ (j:Nat) w,[Value.int .i64 a.first,.int .i64 a.last,.int .i64 b.first,.int .i64 b.last][j]?=some w->h.cell? (Addr.add ⟨r,0,none⟩ j)=some w):Sl SpE 2 h (some ⟨r,0,none⟩) 2 [a,b]:=by
 refine⟨rfl,by simp,fun i x hx=>⟨_,rfl,?_⟩⟩
 match i,hx with
 | 0,hx=>cases hx;exact⟨hc 0 _ rfl,hc 1 _ rfl⟩
 | 1,hx=>cases hx;exact⟨by rw[add_plain,add_plain];exact hc 2 _ rfl,by rw[add_plain,add_plain];exact hc 3 _ rfl⟩
 | i+2,hx=>simp at hx
def exT:TF:=⟨3,2,10,20,6,5,[⟨0,12,0,[0,1,2],0⟩,⟨1,15,0,[1],0⟩,⟨2,25,0,[1],0⟩,⟨3,22,0,[2],0⟩,⟨4,40,0,[0],30⟩,⟨5,44,0,[0],0⟩,⟨0,20,1,[0,1],0⟩,⟨1,27,1,[1],0⟩,⟨4,50,0,[1],31⟩,⟨6,18,0,[0],3⟩]⟩
theorem c2048{h:LH}:Gr Tryz.prog 16 #[] h fun r h'=>∃ f,r=treatyV f exT/\TreatyR h'.get f exT:=by
 refine w2048 X0_ok ?_;unfold n2048;refine t_ints [0,1,2] (by decide) rfl (by decide) (by kernel_rfl) fun r0 h0 l0 s0=>?_;refine gZ ?_;refine t_ints [1] (by decide) rfl (by decide) (by kernel_rfl) fun r1 h1 l1 s1=>?_;refine gZ ?_;refine t_ints [1] (by decide) rfl (by decide) (by kernel_rfl) fun r2 h2 l2 s2=>?_;refine gZ ?_;refine t_ints [2] (by decide) rfl (by decide) (by kernel_rfl) fun r3 h3 l3 s3=>?_;refine gZ ?_;refine t_ints [0] (by decide) rfl (by decide) (by kernel_rfl) fun r4 h4 l4 s4=>?_;refine gZ ?_;refine t_ints [0] (by decide) rfl (by decide) (by kernel_rfl) fun r5 h5 l5 s5=>?_;refine gZ ?_;refine t_ints [0,1] (by decide) rfl (by decide) (by kernel_rfl) fun r6 h6 l6 s6=>?_;refine gZ ?_;refine t_ints [1] (by decide) rfl (by decide) (by kernel_rfl) fun r7 h7 l7 s7=>?_;refine gZ ?_;refine t_ints [1] (by decide) rfl (by decide) (by kernel_rfl) fun r8 h8 l8 s8=>?_;refine gZ ?_;refine t_ints [0] (by decide) rfl (by decide) (by kernel_rfl) fun r9 h9 l9 s9=>?_;refine gZ ?_;have s0:=s0.le IntE.grow (LH.le_trans l1 (LH.le_trans l2 (LH.le_trans l3 (LH.le_trans l4 (LH.le_trans l5 (LH.le_trans l6 (LH.le_trans l7 (LH.le_trans l8 (l9))))))))).1;have s1:=s1.le IntE.grow (LH.le_trans l2 (LH.le_trans l3 (LH.le_trans l4 (LH.le_trans l5 (LH.le_trans l6 (LH.le_trans l7 (LH.le_trans l8 (l9)))))))).1;have s2:=s2.le IntE.grow (LH.le_trans l3 (LH.le_trans l4 (LH.le_trans l5 (LH.le_trans l6 (LH.le_trans l7 (LH.le_trans l8 (l9))))))).1;have s3:=s3.le IntE.grow (LH.le_trans l4 (LH.le_trans l5 (LH.le_trans l6 (LH.le_trans l7 (LH.le_trans l8 (l9)))))).1;have s4:=s4.le IntE.grow (LH.le_trans l5 (LH.le_trans l6 (LH.le_trans l7 (LH.le_trans l8 (l9))))).1;have s5:=s5.le IntE.grow (LH.le_trans l6 (LH.le_trans l7 (LH.le_trans l8 (l9)))).1;have s6:=s6.le IntE.grow (LH.le_trans l7 (LH.le_trans l8 (l9))).1;have s7:=s7.le IntE.grow (LH.le_trans l8 (l9)).1;have s8:=s8.le IntE.grow (l9).1;have l09:h.le h9:=LH.le_trans l0 (LH.le_trans l1 (LH.le_trans l2 (LH.le_trans l3 (LH.le_trans l4 (LH.le_trans l5 (LH.le_trans l6 (LH.le_trans l7 (LH.le_trans l8 (l9)))))))));refine t_build undEvs infEv (by decide) (by decide) (cells:=#[.int .i64 0,.int .i64 12,.int .i64 0,.slice (some ⟨r0,0,none⟩) 3 3,.int .i64 0,.int .i64 1,.int .i64 15,.int .i64 0,.slice (some ⟨r1,0,none⟩) 1 1,.int .i64 0,.int .i64 2,.int .i64 25,.int .i64 0,.slice (some ⟨r2,0,none⟩) 1 1,.int .i64 0,.int .i64 3,.int .i64 22,.int .i64 0,.slice (some ⟨r3,0,none⟩) 1 1,.int .i64 0,.int .i64 4,.int .i64 40,.int .i64 0,.slice (some ⟨r4,0,none⟩) 1 1,.int .i64 30,.int .i64 5,.int .i64 44,.int .i64 0,.slice (some ⟨r5,0,none⟩) 1 1,.int .i64 0,.int .i64 0,.int .i64 20,.int .i64 1,.slice (some ⟨r6,0,none⟩) 2 2,.int .i64 0,.int .i64 1,.int .i64 27,.int .i64 1,.slice (some ⟨r7,0,none⟩) 1 1,.int .i64 0,.int .i64 4,.int .i64 50,.int .i64 0,.slice (some ⟨r8,0,none⟩) 1 1,.int .i64 31,.int .i64 6,.int .i64 18,.int .i64 0,.slice (some ⟨r9,0,none⟩) 1 1,.int .i64 3]) (by kernel_rfl) fun r hr=>?_;have la:=LH.upd_le (x:=(true,.cells #[.int .i64 0,.int .i64 12,.int .i64 0,.slice (some ⟨r0,0,none⟩) 3 3,.int .i64 0,.int .i64 1,.int .i64 15,.int .i64 0,.slice (some ⟨r1,0,none⟩) 1 1,.int .i64 0,.int .i64 2,.int .i64 25,.int .i64 0,.slice (some ⟨r2,0,none⟩) 1 1,.int .i64 0,.int .i64 3,.int .i64 22,.int .i64 0,.slice (some ⟨r3,0,none⟩) 1 1,.int .i64 0,.int .i64 4,.int .i64 40,.int .i64 0,.slice (some ⟨r4,0,none⟩) 1 1,.int .i64 30,.int .i64 5,.int .i64 44,.int .i64 0,.slice (some ⟨r5,0,none⟩) 1 1,.int .i64 0,.int .i64 0,.int .i64 20,.int .i64 1,.slice (some ⟨r6,0,none⟩) 2 2,.int .i64 0,.int .i64 1,.int .i64 27,.int .i64 1,.slice (some ⟨r7,0,none⟩) 1 1,.int .i64 0,.int .i64 4,.int .i64 50,.int .i64 0,.slice (some ⟨r8,0,none⟩) 1 1,.int .i64 31,.int .i64 6,.int .i64 18,.int .i64 0,.slice (some ⟨r9,0,none⟩) 1 1,.int .i64 3] 49 (0,0))) hr;have rows:Go.TM.Rows (EventEnc h9.get) [.int .i64 0,.int .i64 12,.int .i64 0,.slice (some ⟨r0,0,none⟩) 3 3,.int .i64 0,.int .i64 1,.int .i64 15,.int .i64 0,.slice (some ⟨r1,0,none⟩) 1 1,.int .i64 0,.int .i64 2,.int .i64 25,.int .i64 0,.slice (some ⟨r2,0,none⟩) 1 1,.int .i64 0,.int .i64 3,.int .i64 22,.int .i64 0,.slice (some ⟨r3,0,none⟩) 1 1,.int .i64 0,.int .i64 4,.int .i64 40,.int .i64 0,.slice (some ⟨r4,0,none⟩) 1 1,.int .i64 30,.int .i64 5,.int .i64 44,.int .i64 0,.slice (some ⟨r5,0,none⟩) 1 1,.int .i64 0,.int .i64 0,.int .i64 20,.int .i64 1,.slice (some ⟨r6,0,none⟩) 2 2,.int .i64 0,.int .i64 1,.int .i64 27,.int .i64 1,.slice (some ⟨r7,0,none⟩) 1 1,.int .i64 0,.int .i64 4,.int .i64 50,.int .i64 0,.slice (some ⟨r8,0,none⟩) 1 1,.int .i64 31,.int .i64 6,.int .i64 18,.int .i64 0,.slice (some ⟨r9,0,none⟩) 1 1,.int .i64 3] exT.events:=Go.TM.Rows.snoc (x:=(⟨6,18,0,[0],3⟩ : Ev)) (ws:=[.int .i64 6,.int .i64 18,.int .i64 0,.slice (some ⟨r9,0,none⟩) 1 1,.int .i64 3]) (Go.TM.Rows.snoc (x:=(⟨4,50,0,[1],31⟩ : Ev)) (ws:=[.int .i64 4,.int .i64 50,.int .i64 0,.slice (some ⟨r8,0,none⟩) 1 1,.int .i64 31]) (Go.TM.Rows.snoc (x:=(⟨1,27,1,[1],0⟩ : Ev)) (ws:=[.int .i64 1,.int .i64 27,.int .i64 1,.slice (some ⟨r7,0,none⟩) 1 1,.int .i64 0]) (Go.TM.Rows.snoc (x:=(⟨0,20,1,[0,1],0⟩ : Ev)) (ws:=[.int .i64 0,.int .i64 20,.int .i64 1,.slice (some ⟨r6,0,none⟩) 2 2,.int .i64 0]) (Go.TM.Rows.snoc (x:=(⟨5,44,0,[0],0⟩ : Ev)) (ws:=[.int .i64 5,.int .i64 44,.int .i64 0,.slice (some ⟨r5,0,none⟩) 1 1,.int .i64 0]) (Go.TM.Rows.snoc (x:=(⟨4,40,0,[0],30⟩ : Ev)) (ws:=[.int .i64 4,.int .i64 40,.int .i64 0,.slice (some ⟨r4,0,none⟩) 1 1,.int .i64 30]) (Go.TM.Rows.snoc (x:=(⟨3,22,0,[2],0⟩ : Ev)) (ws:=[.int .i64 3,.int .i64 22,.int .i64 0,.slice (some ⟨r3,0,none⟩) 1 1,.int .i64 0]) (Go.TM.Rows.snoc (x:=(⟨2,25,0,[1],0⟩ : Ev)) (ws:=[.int .i64 2,.int .i64 25,.int .i64 0,.slice (some ⟨r2,0,none⟩) 1 1,.int .i64 0]) (Go.TM.Rows.snoc (x:=(⟨1,15,0,[1],0⟩ : Ev)) (ws:=[.int .i64 1,.int .i64 15,.int .i64 0,.slice (some ⟨r1,0,none⟩) 1 1,.int .i64 0]) (Go.TM.Rows.snoc (x:=(⟨0,12,0,[0,1,2],0⟩ : Ev)) (ws:=[.int .i64 0,.int .i64 12,.int .i64 0,.slice (some ⟨r0,0,none⟩) 3 3,.int .i64 0]) (.nil) ⟨_,_,_,rfl,Nat.le_refl _,s0⟩) ⟨_,_,_,rfl,Nat.le_refl _,s1⟩) ⟨_,_,_,rfl,Nat.le_refl _,s2⟩) ⟨_,_,_,rfl,Nat.le_refl _,s3⟩) ⟨_,_,_,rfl,Nat.le_refl _,s4⟩) ⟨_,_,_,rfl,Nat.le_refl _,s5⟩) ⟨_,_,_,rfl,Nat.le_refl _,s6⟩) ⟨_,_,_,rfl,Nat.le_refl _,s7⟩) ⟨_,_,_,rfl,Nat.le_refl _,s8⟩) ⟨_,_,_,rfl,Nat.le_refl _,s9⟩;refine gZ ?_;refine t_ret ⟨LH.le_trans l09 la,⟨some ⟨r,0,none⟩,10,10⟩,rfl,Nat.le_refl _,?_⟩;refine rows.sl EventEnc.len (by omega) (EventEnc.e (Rd.of_le la.1)) (el:=49) ⟨rfl,.inr ⟨r,_,rfl,Cells.upd_self _ _ _,rfl,Nat.le_refl _,fun j v hv=>by simpa using hv⟩⟩ (by decide)
end
section
open Go.TM.Tr
attribute [local irreducible] T.wp CV FWK
def datesA(x:TF)(k d:Int):List Int:=if askedDayT x k d=0 then datesT x k d else []
def protA(x:TF)(k d:Int):List Bool:=if askedDayT x k d=0 then protT x k d else []
def turnsA(x:TF)(k d:Int):List Int:=if askedDayT x k d=0 then turnsT x k d else []
def SpansA(x:TF)(k i:Int)(m:List Sp):Prop:=(askedItemT x k i≠0/\m=[])\/(askedItemT x k i=0/\∃ l,IsDays x l/\m=spansT x k i l)
def needA(x:TF)(k i d:Int):List Int:=if askedAllT x k i d=0/\0<=dateOn x k i d then needT x k i d else []
def heldA(x:TF)(k i d:Int):Bool:=decide (askedAllT x k i d=0/\0<=dateOn x k i d)
theorem SpansA.one{x:TF}{k i:Int}{m m':List Sp}(h:SpansA x k i m)(h':SpansA x k i m'):m=m':=by
 rcases h with⟨h1,rfl⟩|⟨h1,l,h2,rfl⟩<;>rcases h' with⟨h3,rfl⟩|⟨h3,l',h4,rfl⟩
 ·rfl
 ·exact absurd h3 h1
 ·exact absurd h1 h3
 ·rw[h2.one h4]
theorem ProtR.form{h:Cells}{x:TF}{k d:Int}{r:Value}(hr:ProtR h x k d r):∃ p n c,r=.tuple #[.slice p n c,.int .i64 (askedDayT x k d)]/\Sl BoolE 1 h p n (protA x k d)/\n<=c:=hr
theorem DatesR.form{h:Cells}{x:TF}{k d:Int}{r:Value}(hr:DatesR h x k d r):∃ p n c,r=.tuple #[.slice p n c,.int .i64 (askedDayT x k d)]/\Sl IntE 1 h p n (datesA x k d)/\n<=c:=by
 rcases hr with⟨h1,rfl⟩|⟨h1,p,n,c,rfl,s,hn⟩
 ·exact⟨none,0,0,rfl,by rw[datesA,if_neg h1];exact Sl.nil,Nat.le_refl _⟩
 ·exact⟨p,n,c,by rw[h1],by rw[datesA,if_pos h1];exact s,hn⟩
theorem TurnsR.form{h:Cells}{x:TF}{k d:Int}{r:Value}(hr:TurnsR h x k d r):∃ p n c,r=.tuple #[.slice p n c,.int .i64 (askedDayT x k d)]/\Sl IntE 1 h p n (turnsA x k d)/\n<=c:=by
 rcases hr with⟨h1,rfl⟩|⟨h1,p,n,c,rfl,s,hn⟩
 ·exact⟨none,0,0,rfl,by rw[turnsA,if_neg h1];exact Sl.nil,Nat.le_refl _⟩
 ·exact⟨p,n,c,by rw[h1],by rw[turnsA,if_pos h1];exact s,hn⟩
theorem SpansR.form{h:Cells}{x:TF}{k i:Int}{r:Value}(hr:SpansR h x k i r):∃ p n c m,r=.tuple #[.slice p n c,.int .i64 (askedItemT x k i)]/\SpansA x k i m/\Sl SpE 2 h p n m/\n<=c:=by
 rcases hr with⟨h1,rfl⟩|⟨h1,p,n,c,l,rfl,hd,s,hn⟩
 ·exact⟨none,0,0,[],rfl,.inl ⟨h1,rfl⟩,Sl.nil,Nat.le_refl _⟩
 ·exact⟨p,n,c,_,by rw[h1],.inr ⟨h1,l,hd,rfl⟩,s,hn⟩
theorem NeedsR.form{h:Cells}{x:TF}{k i d:Int}{r:Value}(hr:NeedsR h x k i d r):∃ p n c,r=.tuple #[.slice p n c,.bool (heldA x k i d),.int .i64 (askedAllT x k i d)]/\Sl IntE 1 h p n (needA x k i d)/\n<=c:=by
 rcases hr with⟨h1,rfl⟩|⟨h1,h2,rfl⟩|⟨h1,h2,p,n,c,rfl,s,hn⟩
 ·exact⟨none,0,0,by rw[heldA,decide_eq_false (fun h=>h1 h.1)],by rw[needA,if_neg (fun h=>h1 h.1)];exact Sl.nil,Nat.le_refl _⟩
 ·exact⟨none,0,0,by rw[heldA,decide_eq_false (fun h=>h2 h.2),h1],by rw[needA,if_neg (fun h=>h2 h.2)];exact Sl.nil,Nat.le_refl _⟩
 ·exact⟨p,n,c,by rw[heldA,decide_eq_true ⟨h1,h2⟩,h1],by rw[needA,if_pos ⟨h1,h2⟩];exact s,hn⟩
/-! ### The chapter's examples -/
def exDays:List Int:=[0,12,15,18,20,22,25,27,40,44,50,10000]
theorem ex_days:IsDays exT exDays:=by
 refine⟨by decide +kernel,fun v=>?_⟩;simp only[exDays,exT,List.mem_cons,List.not_mem_nil,or_false,exists_eq_or_imp,false_and,exists_false,exists_eq_left];omega
theorem ex1:askedDayT exT 0 15=0/\protA exT 0 15=[true,false,true]:=by decide +kernel
theorem ex2:askedDayT exT 1 40=0/\protA exT 1 40=[false,true,false]:=by decide +kernel
theorem ex3:askedDayT exT 0 18=0/\datesA exT 0 18=[3,-1,12]:=by decide +kernel
theorem ex4:askedDayT exT 0 44=0/\datesA exT 0 44=[3,12,-1]:=by decide +kernel
theorem ex5:askedItemT exT 0 0=0/\spansT exT 0 0 exDays=[⟨12,39⟩,⟨44,9999⟩]:=by decide +kernel
theorem ex6:askedItemT exT 0 1=0/\spansT exT 0 1 exDays=[⟨12,14⟩,⟨25,9999⟩]:=by decide +kernel
theorem ex7:askedDayT exT 1 45=0/\turnsA exT 1 45=[0]:=by decide +kernel
theorem ex8:askedDayT exT 1 46=0/\turnsA exT 1 46=[]:=by decide +kernel
theorem ex9:askedAllT exT 0 0 44=0/\heldA exT 0 0 44=true/\needA exT 0 0 44=[0,5]:=by decide +kernel
theorem ex_spans{i:Int}(h0:askedItemT exT 0 i=0){m:List Sp}(h:SpansA exT 0 i m):m=spansT exT 0 i exDays:=h.one (.inr ⟨h0,_,ex_days,rfl⟩)
theorem c2017{h:LH}(hch:h.chans=[])(hpe:h.pend=[])(hk:Kinds h.get):FW XT Tryz.prog 7 #[] h fun r h'=>r=.bool true/\Rd h.get h'.get/\h'.chans=[]/\h'.pend=[]/\h'.todo=h.todo:=by
 refine w2017 XT_ok ?_;unfold n2017;refine t_gr c2048 ?_;rintro _ h0 le0 ⟨f,rfl,hx⟩;have e:treatyV f exT=.agg #[.int .i64 3,.int .i64 2,.int .i64 10,.int .i64 20,.int .i64 6,.int .i64 5,.slice f.p f.n f.c]:=rfl;rw[e];refine gZ ?_;have hk0:=hk.le le0.1;refine t_gr (c2018 hk0 hx 0 15) ?_;intro r1 h1 le1 hr;obtain⟨p1,n1,k1,rfl,s1,_⟩:=hr.form;rw[ex1.1];rw[ex1.2]at s1;refine gZ ?_;have hk1:=hk0.le le1.1;have hx1:=hx.le le1.1;refine t_gr (c2018 hk1 hx1 1 40) ?_;intro r2 h2 le2 hr;obtain⟨p2,n2,k2,rfl,s2,_⟩:=hr.form;rw[ex2.1];rw[ex2.2]at s2;refine gZ ?_;have hk2:=hk1.le le2.1;have hx2:=hx1.le le2.1;refine t_gr (c2026 hk2 hx2 0 18) ?_;intro r3 h3 le3 hr;obtain⟨p3,n3,k3,rfl,s3,_⟩:=hr.form;rw[ex3.1];rw[ex3.2]at s3;refine gZ ?_;have hk3:=hk2.le le3.1;have hx3:=hx2.le le3.1;refine t_gr (c2026 hk3 hx3 0 44) ?_;intro r4 h4 le4 hr;obtain⟨p4,n4,k4,rfl,s4,_⟩:=hr.form;rw[ex4.1];rw[ex4.2]at s4;refine gZ ?_;have hk4:=hk3.le le4.1;have hx4:=hx3.le le4.1;refine t_gr (c2023 hk4 hx4 0 0) ?_;intro r5 h5 le5 hr;obtain⟨p5,n5,k5,m5,rfl,sp5,s5,_⟩:=hr.form;obtain rfl:=ex_spans ex5.1 sp5;rw[ex5.1];rw[ex5.2]at s5;refine gZ ?_;have hk5:=hk4.le le5.1;have hx5:=hx4.le le5.1;refine t_gr (c2023 hk5 hx5 0 1) ?_;intro r6 h6 le6 hr;obtain⟨p6,n6,k6,m6,rfl,sp6,s6,_⟩:=hr.form;obtain rfl:=ex_spans ex6.1 sp6;rw[ex6.1];rw[ex6.2]at s6;refine gZ ?_;have hk6:=hk5.le le6.1;have hx6:=hx5.le le6.1;refine t_gr (c2029 hk6 hx6 1 45) ?_;intro r7 h7 le7 hr;obtain⟨p7,n7,k7,rfl,s7,_⟩:=hr.form;rw[ex7.1];rw[ex7.2]at s7;refine gZ ?_;have hk7:=hk6.le le7.1;have hx7:=hx6.le le7.1;refine t_gr (c2029 hk7 hx7 1 46) ?_;intro r8 h8 le8 hr;obtain⟨p8,n8,k8,rfl,s8,_⟩:=hr.form;rw[ex8.1];rw[ex8.2]at s8;refine gZ ?_;have hk8:=hk7.le le8.1;have hx8:=hx7.le le8.1;have le78:=le8;have le68:=LH.le_trans le7 le78;have le58:=LH.le_trans le6 le68;have le48:=LH.le_trans le5 le58;have le38:=LH.le_trans le4 le48;have le28:=LH.le_trans le3 le38;have le18:=LH.le_trans le2 le28;have le08:=LH.le_trans le0 (LH.le_trans le1 le18);refine t_call (c2044 (by rw[le08.2.1,hch]) (by rw[le08.2.2.1,hpe]) hk8 hx8 0 0 44) ?_;rintro r9 h9 ⟨rd9,hc9,hp9,ht9,hr⟩;obtain⟨p9,n9,k9,rfl,s9,_⟩:=hr.form;rw[ex9.1,ex9.2.1];rw[ex9.2.2]at s9;refine gZ ?_;have s1:=(s1.le BoolE.grow le18.1).rd BoolE.grow rd9;have s2:=(s2.le BoolE.grow le28.1).rd BoolE.grow rd9;have s3:=(s3.le IntE.grow le38.1).rd IntE.grow rd9;have s4:=(s4.le IntE.grow le48.1).rd IntE.grow rd9;have s5:=(s5.le SpE.grow le58.1).rd SpE.grow rd9;have s6:=(s6.le SpE.grow le68.1).rd SpE.grow rd9;have s7:=(s7.le IntE.grow le78.1).rd IntE.grow rd9;have s8:=s8.rd IntE.grow rd9;have hn8:n8=0:=s8.1;subst hn8;have rd09:=(Rd.of_le le08.1).trans rd9;refine t_blk (fun vs h'=>vs=[.bool false]/\h9=h') ?_ ?_
 ·refine t_cond (fun e=>absurd e (by decide)) (fun _=>?_);refine t_cond (fun e=>absurd e (by decide)) (fun _=>?_);refine t_cond (fun e=>absurd e (by decide)) (fun _=>?_);refine t_cond (fun e=>absurd e (by decide)) (fun _=>?_);refine t_cond (fun e=>absurd e (by decide)) (fun _=>?_);refine t_cond (fun e=>absurd e (by decide)) (fun _=>?_);refine t_cond (fun e=>absurd e (by decide)) (fun _=>?_);refine t_cond (fun e=>absurd e (by decide)) (fun _=>?_);refine t_cond (fun e=>absurd e (by decide)) (fun _=>?_);exact t_again ⟨rfl,rfl⟩
 rintro vs _ ⟨rfl,rfl⟩;refine gZ ?_;refine t_blk (fun vs h'=>vs=[.bool false]/\h9.le h') ?_ ?_
 ·refine t_bools [true,false,true] (by decide) rfl (by decide) (by kernel_rfl) fun q1 g1 lg1 u1=>?_;refine gZ ?_;have e1:=c2020 (h:=g1) (c:=k1) (d:=3) (s1.le BoolE.grow lg1.1) u1;rw[decide_eq_true rfl]at e1;refine t_pu e1 ?_;refine gZ ?_;refine t_cond (fun e=>absurd e (by decide)) (fun _=>?_);refine t_bools [false,true,false] (by decide) rfl (by decide) (by kernel_rfl) fun q2 g2 lg2 u2=>?_;refine gZ ?_;have lg:=LH.le_trans lg1 lg2;have e1:=c2020 (h:=g2) (c:=k2) (d:=3) (s2.le BoolE.grow lg.1) u2;rw[decide_eq_true rfl]at e1;refine t_pu e1 ?_;refine gZ ?_;refine t_cond (fun e=>absurd e (by decide)) (fun _=>?_);refine t_ints [3,-1,12] (by decide) rfl (by decide) (by kernel_rfl) fun q3 g3 lg3 u3=>?_;refine gZ ?_;have lg:=LH.le_trans lg lg3;have e1:=c35 (h:=g3) (c:=k3) (d:=3) (s3.le IntE.grow lg.1) u3;rw[decide_eq_true rfl]at e1;refine t_pu e1 ?_;refine gZ ?_;refine t_cond (fun e=>absurd e (by decide)) (fun _=>?_);refine t_ints [3,12,-1] (by decide) rfl (by decide) (by kernel_rfl) fun q4 g4 lg4 u4=>?_;refine gZ ?_;have lg:=LH.le_trans lg lg4;have e1:=c35 (h:=g4) (c:=k4) (d:=3) (s4.le IntE.grow lg.1) u4;rw[decide_eq_true rfl]at e1;refine t_pu e1 ?_;refine gZ ?_;refine t_cond (fun e=>absurd e (by decide)) (fun _=>?_);refine t_cond (fun e=>absurd e (by decide)) (fun _=>?_);refine t_ints [0,5] (by decide) rfl (by decide) (by kernel_rfl) fun q5 g5 lg5 u5=>?_;refine gZ ?_;have lg:=LH.le_trans lg lg5;have e1:=c35 (h:=g5) (c:=k9) (d:=2) (s9.le IntE.grow lg.1) u5;rw[decide_eq_true rfl]at e1;refine t_pu e1 ?_;refine gZ ?_;refine t_cond (fun e=>absurd e (by decide)) (fun _=>?_);exact t_again ⟨rfl,lg⟩
 rintro vs g ⟨rfl,lg⟩;refine gZ ?_;refine t_pu (c2049 _ _) ?_;refine gZ ?_;refine t_pu (c2049 _ _) ?_;refine gZ ?_;refine t_buildR [.int .i64 12,.int .i64 39,.int .i64 44,.int .i64 9999] und22 inf30 (by decide) (by decide) (by kernel_rfl) ?_;intro q6 g6 lg6 _ u6;refine gZ ?_;have lg:=LH.le_trans lg lg6;have e1:=c2025 (h:=g6) (c:=k5) (d:=2) (s5.le SpE.grow lg.1) (sp_two (a:=⟨12,39⟩) (b:=⟨44,9999⟩) u6);rw[decide_eq_true rfl]at e1;refine t_pu e1 ?_;refine yT ?_;refine t_pu (c2049 _ _) ?_;refine gZ ?_;refine t_pu (c2049 _ _) ?_;refine gZ ?_;refine t_buildR [.int .i64 12,.int .i64 14,.int .i64 25,.int .i64 9999] und22 inf30 (by decide) (by decide) (by kernel_rfl) ?_;intro q7 g7 lg7 _ u7;refine gZ ?_;have lg:=LH.le_trans lg lg7;have e1:=c2025 (h:=g7) (c:=k6) (d:=2) (s6.le SpE.grow lg.1) (sp_two (a:=⟨12,14⟩) (b:=⟨25,9999⟩) u7);rw[decide_eq_true rfl]at e1;refine t_pu e1 ?_;refine yT ?_;refine t_ints [0] (by decide) rfl (by decide) (by kernel_rfl) fun q8 g8 lg8 u8=>?_;refine gZ ?_;have lg:=LH.le_trans lg lg8;have e1:=c35 (h:=g8) (c:=k7) (d:=1) (s7.le IntE.grow lg.1) u8;rw[decide_eq_true rfl]at e1;refine t_pu e1 ?_;refine yT ?_;exact t_ret ⟨rfl,rd09.trans (Rd.of_le lg.1),lg.2.1.trans hc9,lg.2.2.1.trans hp9,by rw[lg.2.2.2,ht9,le08.2.2.2]⟩
def Fin(h:LH):Value->LH->Prop:=fun r h'=>r=.bool true/\h'.chans=[]/\h'.pend=[]/\h'.todo=h.todo
structure Idle(h h':LH):Prop where
 rd:Rd h.get h'.get
 chans:h'.chans=[]
 pend:h'.pend=[]
 todo:h'.todo=h.todo
theorem Idle.of{h h':LH}(hch:h.chans=[])(hpe:h.pend=[])(hle:h.le h'):Idle h h':=⟨Rd.of_le hle.1,by rw[hle.2.1,hch],by rw[hle.2.2.1,hpe],hle.2.2.2⟩
theorem t_shown{h h':LH}{k:Bool->T}{Q:Leaf->LH->Prop}(hk:Kinds h.get)(i:Idle h h')(hq:∀ h'',Idle h h''->(k true).wp XT Tryz.prog Q h'') :
  (T.call false 7 #[] fun v=>T.unB v k).wp XT Tryz.prog Q h':=by
 refine t_call (c2017 i.chans i.pend (hk.rd i.rd)) ?_;rintro _ h'' ⟨rfl,rd,h2,h3,h4⟩;exact gC (hq h'' ⟨i.rd.trans rd,h2,h3,h4.trans i.todo⟩)
theorem Idle.fin{h h':LH}(i:Idle h h'):Fin h (.bool true) h':=⟨rfl,i.chans,i.pend,i.todo⟩
end
end Go.Y.Tre
section
namespace Go.Y
set_option maxHeartbeats 0
set_option linter.unusedVariables false
variable {X:XP} {h:LH} {A:Value->LH->Prop}
def n2039(x_0 x_1 x_2 x_3 x_4 x_5:Int)(x_6p:Option Addr)(x_6n x_6c:Nat)(than_0 than_1 than_2 than_3 than_4 than_5:Int)(than_6p:Option Addr)(than_6n than_6c:Nat)(land day:Int):T:=.cT 17 #[.agg #[x_0,x_1,x_2,x_3,x_4,x_5,.slice x_6p x_6n x_6c],land,day] fun v vs=>.unS v fun a n c=>.unCons vs fun v vs=>.ui v fun n_1=>.unNil vs (.cT 17 #[.agg #[than_0,than_1,than_2,than_3,than_4,than_5,.slice than_6p than_6n than_6c],land,day] fun v vs=>.unS v fun a_1 n_2 c_1=>.unCons vs fun v vs=>.ui v fun n_3=>.unNil vs (.cT 18 #[.agg #[x_0,x_1,x_2,x_3,x_4,x_5,.slice x_6p x_6n x_6c],land,day] fun v vs=>.unS v fun a_2 n_4 c_2=>.unCons vs fun v vs=>.ui v fun n_5=>.unNil vs (.cT 18 #[.agg #[than_0,than_1,than_2,than_3,than_4,than_5,.slice than_6p than_6n than_6c],land,day] fun v vs=>.unS v fun a_3 n_6 c_3=>.unCons vs fun v vs=>.ui v fun n_7=>.unNil vs (.blk (bif n_1 != 0 then .rn [false] else bif n_3 != 0 then .rn [false] else bif n_5 != 0 then .rn [false] else bif n_7 != 0 then .rn [false] else bif (↑n:Int) != x_0 then .rn [false] else bif (↑n_2:Int) != x_0 then .rn [false] else bif (↑n_4:Int) != x_0 then .rn [false] else bif (↑n_6:Int) != x_0 then .rn [false] else .ag [false]) (fun vs=>.popB vs fun b vs=>.unNil vs (.loop [b,.int .i64 0] (fun vs=>.popB vs fun b vs=>.pi vs fun n_8 vs=>.unNil vs (bif decide (n_8<(↑n:Int)) then .need (0<=n_8/\n_8<(↑n_2:Int)) (.someA a_1 fun a_4=>.loadB (a_4.add (n_8.toNat*1)) fun b_1=>bif b_1 then .need (0<=n_8/\n_8<(↑n:Int)) (.someA a fun a_5=>.loadB (a_5.add (n_8.toNat*1)) fun b_2=>bif !b_2 then .nds [.U,.U,.U,.U,.U,.U,.U,.B (!b_2),.B (!b_2)] (.loadB (a_5.add (n_8.toNat*1)) fun b=>.nf b b_2 (.need (0<=n_8/\n_8<(↑n:Int)) (.someA a fun a_6=>.ne (.pointer (some (a_6.add (n_8.toNat*1)))) (.pointer (some (a_5.add (n_8.toNat*1)))) (.nds [n_8,.S a n c] (.nf b_1 true (.loadB (a_4.add (n_8.toNat*1)) fun b=>.nf b b_1 (.need (0<=n_8/\n_8<(↑n_2:Int)) (.someA a_1 fun a_7=>.ne (.pointer (some (a_7.add (n_8.toNat*1)))) (.pointer (some (a_4.add (n_8.toNat*1)))) (.nds [n_8,.S a_1 n_2 c_1,.U,.U,.U,.U,.U,.U,.B (!b_2),.B (!b_2)] (.loadB (a_5.add (n_8.toNat*1)) fun b=>.nf b b_2 (.need (0<=n_8/\n_8<(↑n:Int)) (.someA a fun a_8=>.ne (.pointer (some (a_8.add (n_8.toNat*1)))) (.pointer (some (a_5.add (n_8.toNat*1)))) (.nds [n_8,.S a n c] (.nf b_1 true (.loadB (a_4.add (n_8.toNat*1)) fun b=>.nf b b_1 (.need (0<=n_8/\n_8<(↑n_2:Int)) (.someA a_1 fun a_9=>.ne (.pointer (some (a_9.add (n_8.toNat*1)))) (.pointer (some (a_4.add (n_8.toNat*1)))) (.nds [n_8,.S a_1 n_2 c_1,.U,.U,.U,.U,.U,.U,.U,true,.U,.U,.U,.U,.U,.U,.B (!b_2),.B (!b_2)] (.loadB (a_5.add (n_8.toNat*1)) fun b=>.nf b b_2 (.need (0<=n_8/\n_8<(↑n:Int)) (.someA a fun a_10=>.ne (.pointer (some (a_10.add (n_8.toNat*1)))) (.pointer (some (a_5.add (n_8.toNat*1)))) (.nds [n_8,.S a n c] (.nf b_1 true (.loadB (a_4.add (n_8.toNat*1)) fun b=>.nf b b_1 (.need (0<=n_8/\n_8<(↑n_2:Int)) (.someA a_1 fun a_11=>.ne (.pointer (some (a_11.add (n_8.toNat*1)))) (.pointer (some (a_4.add (n_8.toNat*1)))) (.nds [n_8,.S a_1 n_2 c_1,.U,.U,.U,.U,.U,.U,true,.U,.U,.U,.U,.U,.U,.B (!b_2),.B (!b_2)] (.loadB (a_5.add (n_8.toNat*1)) fun b=>.nf b b_2 (.need (0<=n_8/\n_8<(↑n:Int)) (.someA a fun a_12=>.ne (.pointer (some (a_12.add (n_8.toNat*1)))) (.pointer (some (a_5.add (n_8.toNat*1)))) (.nds [n_8,.S a n c] (.nf b_1 true (.loadB (a_4.add (n_8.toNat*1)) fun b=>.nf b b_1 (.need (0<=n_8/\n_8<(↑n_2:Int)) (.someA a_1 fun a_13=>.ne (.pointer (some (a_13.add (n_8.toNat*1)))) (.pointer (some (a_4.add (n_8.toNat*1)))) (.nds [n_8,.S a_1 n_2 c_1,.U,.U,.U,.U,.U,.U,.U,.U,.U,.U,true,true,.U,.U,.U,.U,.U,.U,true,.U,.U,.U,.U,.U,.U,.B (!b_2),.B (!b_2)] (.loadB (a_5.add (n_8.toNat*1)) fun b=>.nf b b_2 (.need (0<=n_8/\n_8<(↑n:Int)) (.someA a fun a_14=>.ne (.pointer (some (a_14.add (n_8.toNat*1)))) (.pointer (some (a_5.add (n_8.toNat*1)))) (.nds [n_8,.S a n c] (.nf b_1 true (.loadB (a_4.add (n_8.toNat*1)) fun b=>.nf b b_1 (.need (0<=n_8/\n_8<(↑n_2:Int)) (.someA a_1 fun a=>.ne (.pointer (some (a.add (n_8.toNat*1)))) (.pointer (some (a_4.add (n_8.toNat*1)))) (.nds [n_8,.S a_1 n_2 c_1] (.rn [false,n_8])))))))))))))))))))))))))))))))))))))))))))))) else .need (0<=n_8/\n_8<(↑n:Int)) (.someA a fun a_6=>.loadB (a_6.add (n_8.toNat*1)) fun b_3=>.need (0<=n_8/\n_8<(↑n_4:Int)) (.someA a_2 fun a_7=>.li (a_7.add (n_8.toNat*1)) fun n_9=>bif !b_3==decide (n_9>=0) then .nds [.U,.U,.U,.U,.U,.U,.U,.B (!b_3==decide (n_9>=0)),.B (!b_3==decide (n_9>=0)),.B (decide (n_9>=0))] (.li (a_7.add (n_8.toNat*1)) fun n_10=>.ne n_10 n_9 (.need (0<=n_8/\n_8<(↑n_4:Int)) (.someA a_2 fun a_8=>.ne (.pointer (some (a_8.add (n_8.toNat*1)))) (.pointer (some (a_7.add (n_8.toNat*1)))) (.nds [n_8,.S a_2 n_4 c_2] (.loadB (a_6.add (n_8.toNat*1)) fun b=>.nf b b_3 (.need (0<=n_8/\n_8<(↑n:Int)) (.someA a fun a_9=>.ne (.pointer (some (a_9.add (n_8.toNat*1)))) (.pointer (some (a_6.add (n_8.toNat*1)))) (.nds [n_8,.S a n c] (.nf (!b_2) false (.nds [.B (!b_2),.B (!b_2)] (.loadB (a_5.add (n_8.toNat*1)) fun b=>.nf b b_2 (.need (0<=n_8/\n_8<(↑n:Int)) (.someA a fun a_10=>.ne (.pointer (some (a_10.add (n_8.toNat*1)))) (.pointer (some (a_5.add (n_8.toNat*1)))) (.nds [n_8,.S a n c] (.nf b_1 true (.loadB (a_4.add (n_8.toNat*1)) fun b=>.nf b b_1 (.need (0<=n_8/\n_8<(↑n_2:Int)) (.someA a_1 fun a_11=>.ne (.pointer (some (a_11.add (n_8.toNat*1)))) (.pointer (some (a_4.add (n_8.toNat*1)))) (.nds [n_8,.S a_1 n_2 c_1,.U,.U,.U,.U,.U,.U,.B (!b_3==decide (n_9>=0)),.B (!b_3==decide (n_9>=0)),.B (decide (n_9>=0))] (.li (a_7.add (n_8.toNat*1)) fun n_11=>.ne n_11 n_9 (.need (0<=n_8/\n_8<(↑n_4:Int)) (.someA a_2 fun a_12=>.ne (.pointer (some (a_12.add (n_8.toNat*1)))) (.pointer (some (a_7.add (n_8.toNat*1)))) (.nds [n_8,.S a_2 n_4 c_2] (.loadB (a_6.add (n_8.toNat*1)) fun b=>.nf b b_3 (.need (0<=n_8/\n_8<(↑n:Int)) (.someA a fun a_13=>.ne (.pointer (some (a_13.add (n_8.toNat*1)))) (.pointer (some (a_6.add (n_8.toNat*1)))) (.nds [n_8,.S a n c] (.nf (!b_2) false (.nds [.B (!b_2),.B (!b_2)] (.loadB (a_5.add (n_8.toNat*1)) fun b=>.nf b b_2 (.need (0<=n_8/\n_8<(↑n:Int)) (.someA a fun a_14=>.ne (.pointer (some (a_14.add (n_8.toNat*1)))) (.pointer (some (a_5.add (n_8.toNat*1)))) (.nds [n_8,.S a n c] (.nf b_1 true (.loadB (a_4.add (n_8.toNat*1)) fun b=>.nf b b_1 (.need (0<=n_8/\n_8<(↑n_2:Int)) (.someA a_1 fun a_15=>.ne (.pointer (some (a_15.add (n_8.toNat*1)))) (.pointer (some (a_4.add (n_8.toNat*1)))) (.nds [n_8,.S a_1 n_2 c_1,.U,.U,.U,.U,.U,.U,.U,.U,.U,.U,true,true,.U,.U,.U,.U,.U,.U,.B (!b_3==decide (n_9>=0)),.B (!b_3==decide (n_9>=0)),.B (decide (n_9>=0))] (.li (a_7.add (n_8.toNat*1)) fun n_12=>.ne n_12 n_9 (.need (0<=n_8/\n_8<(↑n_4:Int)) (.someA a_2 fun a_16=>.ne (.pointer (some (a_16.add (n_8.toNat*1)))) (.pointer (some (a_7.add (n_8.toNat*1)))) (.nds [n_8,.S a_2 n_4 c_2] (.loadB (a_6.add (n_8.toNat*1)) fun b=>.nf b b_3 (.need (0<=n_8/\n_8<(↑n:Int)) (.someA a fun a_17=>.ne (.pointer (some (a_17.add (n_8.toNat*1)))) (.pointer (some (a_6.add (n_8.toNat*1)))) (.nds [n_8,.S a n c] (.nf (!b_2) false (.nds [.B (!b_2),.B (!b_2)] (.loadB (a_5.add (n_8.toNat*1)) fun b=>.nf b b_2 (.need (0<=n_8/\n_8<(↑n:Int)) (.someA a fun a_18=>.ne (.pointer (some (a_18.add (n_8.toNat*1)))) (.pointer (some (a_5.add (n_8.toNat*1)))) (.nds [n_8,.S a n c] (.nf b_1 true (.loadB (a_4.add (n_8.toNat*1)) fun b=>.nf b b_1 (.need (0<=n_8/\n_8<(↑n_2:Int)) (.someA a_1 fun a=>.ne (.pointer (some (a.add (n_8.toNat*1)))) (.pointer (some (a_4.add (n_8.toNat*1)))) (.nds [n_8,.S a_1 n_2 c_1] (.rn [false,n_8])))))))))))))))))))))))))))))))))))))))))))))))))))))))))) else .need (0<=n_8/\n_8<(↑n_2:Int)) (.someA a_1 fun a_8=>.loadB (a_8.add (n_8.toNat*1)) fun b_4=>.need (0<=n_8/\n_8<(↑n_6:Int)) (.someA a_3 fun a_9=>.li (a_9.add (n_8.toNat*1)) fun n_10=>bif !b_4==decide (n_10>=0) then .nds [.U,.U,.U,.U,.U,.U,.U,.U,.U,.U] (.nf (!b_4==decide (n_10>=0)) true (.nds [.B (!b_4==decide (n_10>=0)),.B (!b_4==decide (n_10>=0)),.B (decide (n_10>=0))] (.li (a_9.add (n_8.toNat*1)) fun n_11=>.ne n_11 n_10 (.need (0<=n_8/\n_8<(↑n_6:Int)) (.someA a_3 fun a_10=>.ne (.pointer (some (a_10.add (n_8.toNat*1)))) (.pointer (some (a_9.add (n_8.toNat*1)))) (.nds [n_8,.S a_3 n_6 c_3] (.loadB (a_8.add (n_8.toNat*1)) fun b=>.nf b b_4 (.need (0<=n_8/\n_8<(↑n_2:Int)) (.someA a_1 fun a_11=>.ne (.pointer (some (a_11.add (n_8.toNat*1)))) (.pointer (some (a_8.add (n_8.toNat*1)))) (.nds [n_8,.S a_1 n_2 c_1] (.nf (!b_3==decide (n_9>=0)) false (.nds [.B (!b_3==decide (n_9>=0)),.B (!b_3==decide (n_9>=0)),.B (decide (n_9>=0))] (.li (a_7.add (n_8.toNat*1)) fun n_12=>.ne n_12 n_9 (.need (0<=n_8/\n_8<(↑n_4:Int)) (.someA a_2 fun a_12=>.ne (.pointer (some (a_12.add (n_8.toNat*1)))) (.pointer (some (a_7.add (n_8.toNat*1)))) (.nds [n_8,.S a_2 n_4 c_2] (.loadB (a_6.add (n_8.toNat*1)) fun b=>.nf b b_3 (.need (0<=n_8/\n_8<(↑n:Int)) (.someA a fun a_13=>.ne (.pointer (some (a_13.add (n_8.toNat*1)))) (.pointer (some (a_6.add (n_8.toNat*1)))) (.nds [n_8,.S a n c] (.nf (!b_2) false (.nds [.B (!b_2),.B (!b_2)] (.loadB (a_5.add (n_8.toNat*1)) fun b=>.nf b b_2 (.need (0<=n_8/\n_8<(↑n:Int)) (.someA a fun a_14=>.ne (.pointer (some (a_14.add (n_8.toNat*1)))) (.pointer (some (a_5.add (n_8.toNat*1)))) (.nds [n_8,.S a n c] (.nf b_1 true (.loadB (a_4.add (n_8.toNat*1)) fun b=>.nf b b_1 (.need (0<=n_8/\n_8<(↑n_2:Int)) (.someA a_1 fun a=>.ne (.pointer (some (a.add (n_8.toNat*1)))) (.pointer (some (a_4.add (n_8.toNat*1)))) (.nds [n_8,.S a_1 n_2 c_1] (.rn [false,n_8])))))))))))))))))))))))))))))))) else .need (0<=n_8/\n_8<(↑n_2:Int)) (.someA a_1 fun a_10=>.loadB (a_10.add (n_8.toNat*1)) fun b_5=>bif b_5 then .need (0<=n_8/\n_8<(↑n_4:Int)) (.someA a_2 fun a=>.li (a.add (n_8.toNat*1)) fun n=>.need (0<=n_8/\n_8<(↑n_6:Int)) (.someA a_3 fun a=>.li (a.add (n_8.toNat*1)) fun n_11=>bif decide (n>n_11) then .rn [false,n_8] else .ag [b,.int .i64 (wrap .i64 (n_8+1))])) else .nds [.U,.U,.U,.U,.U,.U] (.loadB (a_10.add (n_8.toNat*1)) fun b_6=>.nf b_6 b_5 (.need (0<=n_8/\n_8<(↑n_2:Int)) (.someA a_1 fun a_11=>.ne (.pointer (some (a_11.add (n_8.toNat*1)))) (.pointer (some (a_10.add (n_8.toNat*1)))) (.nds [n_8,.S a_1 n_2 c_1] (.nf (!b_4==decide (n_10>=0)) false (.nds [.B (!b_4==decide (n_10>=0)),.B (!b_4==decide (n_10>=0)),.B (decide (n_10>=0))] (.li (a_9.add (n_8.toNat*1)) fun n_11=>.ne n_11 n_10 (.need (0<=n_8/\n_8<(↑n_6:Int)) (.someA a_3 fun a_12=>.ne (.pointer (some (a_12.add (n_8.toNat*1)))) (.pointer (some (a_9.add (n_8.toNat*1)))) (.nds [n_8,.S a_3 n_6 c_3] (.loadB (a_8.add (n_8.toNat*1)) fun b_7=>.nf b_7 b_4 (.need (0<=n_8/\n_8<(↑n_2:Int)) (.someA a_1 fun a_13=>.ne (.pointer (some (a_13.add (n_8.toNat*1)))) (.pointer (some (a_8.add (n_8.toNat*1)))) (.nds [n_8,.S a_1 n_2 c_1] (.nf (!b_3==decide (n_9>=0)) false (.nds [.B (!b_3==decide (n_9>=0)),.B (!b_3==decide (n_9>=0)),.B (decide (n_9>=0))] (.li (a_7.add (n_8.toNat*1)) fun n_12=>.ne n_12 n_9 (.need (0<=n_8/\n_8<(↑n_4:Int)) (.someA a_2 fun a_14=>.ne (.pointer (some (a_14.add (n_8.toNat*1)))) (.pointer (some (a_7.add (n_8.toNat*1)))) (.nds [n_8,.S a_2 n_4 c_2] (.loadB (a_6.add (n_8.toNat*1)) fun b_8=>.nf b_8 b_3 (.need (0<=n_8/\n_8<(↑n:Int)) (.someA a fun a_15=>.ne (.pointer (some (a_15.add (n_8.toNat*1)))) (.pointer (some (a_6.add (n_8.toNat*1)))) (.nds [n_8,.S a n c] (.nf (!b_2) false (.nds [.B (!b_2),.B (!b_2)] (.loadB (a_5.add (n_8.toNat*1)) fun b_9=>.nf b_9 b_2 (.need (0<=n_8/\n_8<(↑n:Int)) (.someA a fun a_16=>.ne (.pointer (some (a_16.add (n_8.toNat*1)))) (.pointer (some (a_5.add (n_8.toNat*1)))) (.nds [n_8,.S a n c] (.nf b_1 true (.loadB (a_4.add (n_8.toNat*1)) fun b_10=>.nf b_10 b_1 (.need (0<=n_8/\n_8<(↑n_2:Int)) (.someA a_1 fun a=>.ne (.pointer (some (a.add (n_8.toNat*1)))) (.pointer (some (a_4.add (n_8.toNat*1)))) (.nds [n_8,.S a_1 n_2 c_1] (.ag [b,.int .i64 (wrap .i64 (n_8+1))])))))))))))))))))))))))))))))))))))))))))) else .nds [.U,.U,.U] (.loadB (a_4.add (n_8.toNat*1)) fun b_2=>.nf b_2 b_1 (.need (0<=n_8/\n_8<(↑n_2:Int)) (.someA a_1 fun a_5=>.ne (.pointer (some (a_5.add (n_8.toNat*1)))) (.pointer (some (a_4.add (n_8.toNat*1)))) (.nds [n_8,.S a_1 n_2 c_1] (.need (0<=n_8/\n_8<(↑n:Int)) (.someA a fun a_6=>.loadB (a_6.add (n_8.toNat*1)) fun b_3=>.need (0<=n_8/\n_8<(↑n_4:Int)) (.someA a_2 fun a_7=>.li (a_7.add (n_8.toNat*1)) fun n_9=>bif !b_3==decide (n_9>=0) then .nds [.U,.U,.U,.U,.U,.U,.U,.B (!b_3==decide (n_9>=0)),.B (!b_3==decide (n_9>=0)),.B (decide (n_9>=0))] (.li (a_7.add (n_8.toNat*1)) fun n_10=>.ne n_10 n_9 (.need (0<=n_8/\n_8<(↑n_4:Int)) (.someA a_2 fun a_8=>.ne (.pointer (some (a_8.add (n_8.toNat*1)))) (.pointer (some (a_7.add (n_8.toNat*1)))) (.nds [n_8,.S a_2 n_4 c_2] (.loadB (a_6.add (n_8.toNat*1)) fun b=>.nf b b_3 (.need (0<=n_8/\n_8<(↑n:Int)) (.someA a fun a_9=>.ne (.pointer (some (a_9.add (n_8.toNat*1)))) (.pointer (some (a_6.add (n_8.toNat*1)))) (.nds [n_8,.S a n c,false,false,.U,.U,.U] (.loadB (a_4.add (n_8.toNat*1)) fun b=>.nf b b_1 (.need (0<=n_8/\n_8<(↑n_2:Int)) (.someA a_1 fun a_10=>.ne (.pointer (some (a_10.add (n_8.toNat*1)))) (.pointer (some (a_4.add (n_8.toNat*1)))) (.nds [n_8,.S a_1 n_2 c_1,.U,.U,.U,.U,.U,.U,.B (!b_3==decide (n_9>=0)),.B (!b_3==decide (n_9>=0)),.B (decide (n_9>=0))] (.li (a_7.add (n_8.toNat*1)) fun n_11=>.ne n_11 n_9 (.need (0<=n_8/\n_8<(↑n_4:Int)) (.someA a_2 fun a_11=>.ne (.pointer (some (a_11.add (n_8.toNat*1)))) (.pointer (some (a_7.add (n_8.toNat*1)))) (.nds [n_8,.S a_2 n_4 c_2] (.loadB (a_6.add (n_8.toNat*1)) fun b=>.nf b b_3 (.need (0<=n_8/\n_8<(↑n:Int)) (.someA a fun a_12=>.ne (.pointer (some (a_12.add (n_8.toNat*1)))) (.pointer (some (a_6.add (n_8.toNat*1)))) (.nds [n_8,.S a n c,false,false,.U,.U,.U] (.loadB (a_4.add (n_8.toNat*1)) fun b=>.nf b b_1 (.need (0<=n_8/\n_8<(↑n_2:Int)) (.someA a_1 fun a_13=>.ne (.pointer (some (a_13.add (n_8.toNat*1)))) (.pointer (some (a_4.add (n_8.toNat*1)))) (.nds [n_8,.S a_1 n_2 c_1,.U,.U,.U,.U,.U,.U,.U,.U,.U,.U,true,true,.U,.U,.U,.U,.U,.U,.B (!b_3==decide (n_9>=0)),.B (!b_3==decide (n_9>=0)),.B (decide (n_9>=0))] (.li (a_7.add (n_8.toNat*1)) fun n_12=>.ne n_12 n_9 (.need (0<=n_8/\n_8<(↑n_4:Int)) (.someA a_2 fun a_14=>.ne (.pointer (some (a_14.add (n_8.toNat*1)))) (.pointer (some (a_7.add (n_8.toNat*1)))) (.nds [n_8,.S a_2 n_4 c_2] (.loadB (a_6.add (n_8.toNat*1)) fun b=>.nf b b_3 (.need (0<=n_8/\n_8<(↑n:Int)) (.someA a fun a_15=>.ne (.pointer (some (a_15.add (n_8.toNat*1)))) (.pointer (some (a_6.add (n_8.toNat*1)))) (.nds [n_8,.S a n c,false,false,.U,.U,.U] (.loadB (a_4.add (n_8.toNat*1)) fun b=>.nf b b_1 (.need (0<=n_8/\n_8<(↑n_2:Int)) (.someA a_1 fun a=>.ne (.pointer (some (a.add (n_8.toNat*1)))) (.pointer (some (a_4.add (n_8.toNat*1)))) (.nds [n_8,.S a_1 n_2 c_1] (.rn [false,n_8]))))))))))))))))))))))))))))))))))))) else .need (0<=n_8/\n_8<(↑n_2:Int)) (.someA a_1 fun a_8=>.loadB (a_8.add (n_8.toNat*1)) fun b_4=>.need (0<=n_8/\n_8<(↑n_6:Int)) (.someA a_3 fun a_9=>.li (a_9.add (n_8.toNat*1)) fun n_10=>bif !b_4==decide (n_10>=0) then .nds [.U,.U,.U,.U,.U,.U,.U,.U,.U,.U] (.nf (!b_4==decide (n_10>=0)) true (.nds [.B (!b_4==decide (n_10>=0)),.B (!b_4==decide (n_10>=0)),.B (decide (n_10>=0))] (.li (a_9.add (n_8.toNat*1)) fun n_11=>.ne n_11 n_10 (.need (0<=n_8/\n_8<(↑n_6:Int)) (.someA a_3 fun a_10=>.ne (.pointer (some (a_10.add (n_8.toNat*1)))) (.pointer (some (a_9.add (n_8.toNat*1)))) (.nds [n_8,.S a_3 n_6 c_3] (.loadB (a_8.add (n_8.toNat*1)) fun b=>.nf b b_4 (.need (0<=n_8/\n_8<(↑n_2:Int)) (.someA a_1 fun a_11=>.ne (.pointer (some (a_11.add (n_8.toNat*1)))) (.pointer (some (a_8.add (n_8.toNat*1)))) (.nds [n_8,.S a_1 n_2 c_1] (.nf (!b_3==decide (n_9>=0)) false (.nds [.B (!b_3==decide (n_9>=0)),.B (!b_3==decide (n_9>=0)),.B (decide (n_9>=0))] (.li (a_7.add (n_8.toNat*1)) fun n_12=>.ne n_12 n_9 (.need (0<=n_8/\n_8<(↑n_4:Int)) (.someA a_2 fun a_12=>.ne (.pointer (some (a_12.add (n_8.toNat*1)))) (.pointer (some (a_7.add (n_8.toNat*1)))) (.nds [n_8,.S a_2 n_4 c_2] (.loadB (a_6.add (n_8.toNat*1)) fun b=>.nf b b_3 (.need (0<=n_8/\n_8<(↑n:Int)) (.someA a fun a_13=>.ne (.pointer (some (a_13.add (n_8.toNat*1)))) (.pointer (some (a_6.add (n_8.toNat*1)))) (.nds [n_8,.S a n c,false,false,.U,.U,.U] (.loadB (a_4.add (n_8.toNat*1)) fun b=>.nf b b_1 (.need (0<=n_8/\n_8<(↑n_2:Int)) (.someA a_1 fun a=>.ne (.pointer (some (a.add (n_8.toNat*1)))) (.pointer (some (a_4.add (n_8.toNat*1)))) (.nds [n_8,.S a_1 n_2 c_1] (.rn [false,n_8]))))))))))))))))))))))))) else .need (0<=n_8/\n_8<(↑n_2:Int)) (.someA a_1 fun a_10=>.loadB (a_10.add (n_8.toNat*1)) fun b_5=>bif b_5 then .need (0<=n_8/\n_8<(↑n_4:Int)) (.someA a_2 fun a=>.li (a.add (n_8.toNat*1)) fun n=>.need (0<=n_8/\n_8<(↑n_6:Int)) (.someA a_3 fun a=>.li (a.add (n_8.toNat*1)) fun n_11=>bif decide (n>n_11) then .rn [false,n_8] else .ag [b,.int .i64 (wrap .i64 (n_8+1))])) else .nds [.U,.U,.U,.U,.U,.U] (.loadB (a_10.add (n_8.toNat*1)) fun b_6=>.nf b_6 b_5 (.need (0<=n_8/\n_8<(↑n_2:Int)) (.someA a_1 fun a_11=>.ne (.pointer (some (a_11.add (n_8.toNat*1)))) (.pointer (some (a_10.add (n_8.toNat*1)))) (.nds [n_8,.S a_1 n_2 c_1] (.nf (!b_4==decide (n_10>=0)) false (.nds [.B (!b_4==decide (n_10>=0)),.B (!b_4==decide (n_10>=0)),.B (decide (n_10>=0))] (.li (a_9.add (n_8.toNat*1)) fun n_11=>.ne n_11 n_10 (.need (0<=n_8/\n_8<(↑n_6:Int)) (.someA a_3 fun a_12=>.ne (.pointer (some (a_12.add (n_8.toNat*1)))) (.pointer (some (a_9.add (n_8.toNat*1)))) (.nds [n_8,.S a_3 n_6 c_3] (.loadB (a_8.add (n_8.toNat*1)) fun b_7=>.nf b_7 b_4 (.need (0<=n_8/\n_8<(↑n_2:Int)) (.someA a_1 fun a_13=>.ne (.pointer (some (a_13.add (n_8.toNat*1)))) (.pointer (some (a_8.add (n_8.toNat*1)))) (.nds [n_8,.S a_1 n_2 c_1] (.nf (!b_3==decide (n_9>=0)) false (.nds [.B (!b_3==decide (n_9>=0)),.B (!b_3==decide (n_9>=0)),.B (decide (n_9>=0))] (.li (a_7.add (n_8.toNat*1)) fun n_12=>.ne n_12 n_9 (.need (0<=n_8/\n_8<(↑n_4:Int)) (.someA a_2 fun a_14=>.ne (.pointer (some (a_14.add (n_8.toNat*1)))) (.pointer (some (a_7.add (n_8.toNat*1)))) (.nds [n_8,.S a_2 n_4 c_2] (.loadB (a_6.add (n_8.toNat*1)) fun b_8=>.nf b_8 b_3 (.need (0<=n_8/\n_8<(↑n:Int)) (.someA a fun a_15=>.ne (.pointer (some (a_15.add (n_8.toNat*1)))) (.pointer (some (a_6.add (n_8.toNat*1)))) (.nds [n_8,.S a n c,false,false,.U,.U,.U] (.loadB (a_4.add (n_8.toNat*1)) fun b_9=>.nf b_9 b_1 (.need (0<=n_8/\n_8<(↑n_2:Int)) (.someA a_1 fun a=>.ne (.pointer (some (a.add (n_8.toNat*1)))) (.pointer (some (a_4.add (n_8.toNat*1)))) (.nds [n_8,.S a_1 n_2 c_1] (.ag [b,.int .i64 (wrap .i64 (n_8+1))])))))))))))))))))))))))))))))))))))))))) else .bk [b,n_8])) (fun vs=>.popB vs fun b vs=>.pi vs fun n vs=>.unNil vs (.rt (.bool true))) (fun vs=>.popB vs fun b vs=>.pi vs fun n vs=>.unNil vs (.rt (.bool b))) fun x x_6=>.fail)) (fun vs=>.popB vs fun b vs=>.unNil vs (.rt (.bool b))) fun x x_6=>.fail))))
theorem w2039(x_0 x_1 x_2 x_3 x_4 x_5:Int)(x_6p:Option Addr)(x_6n x_6c:Nat)(than_0 than_1 than_2 than_3 than_4 than_5:Int)(than_6p:Option Addr)(than_6n than_6c:Nat)(land day:Int):FX X 28 #[.agg #[x_0,x_1,x_2,x_3,x_4,x_5,.slice x_6p x_6n x_6c],.agg #[than_0,than_1,than_2,than_3,than_4,than_5,.slice than_6p than_6n than_6c],land,day] h A (n2039 x_0 x_1 x_2 x_3 x_4 x_5 x_6p x_6n x_6c than_0 than_1 than_2 than_3 than_4 than_5 than_6p than_6n than_6c land day):=fk [4,5] [⟨0,[(8,.bool),(17,.int .i64)],[4,5],[],[],[]⟩] [⟨7,[(8,.bool)],[4,5],[],[],[]⟩] Tryz.f28
end Go.Y
end
namespace Go.Y.Tre
section
open Go.TM.Tr
attribute [local irreducible] T.wp CV FWK
theorem dates_at{x:TF}{k d:Int}{j:Nat}(h:j<x.items.toNat):(datesT x k d)[j]?=some (dateOn x k j d):=by
 unfold datesT;rw[List.getElem?_map,List.getElem?_range h];rfl
theorem prot_at{x:TF}{k d:Int}{j:Nat}(h:j<x.items.toNat):(protT x k d)[j]?=some (decide (dateOn x k j d>=0)):=by
 unfold protT;rw[List.getElem?_map,dates_at h];rfl
theorem prot_len(x:TF)(k d:Int):(protT x k d).length=x.items.toNat:=by unfold protT;rw[List.length_map,dates_len]
def NoLess(x y:TF)(k d:Int):Prop:=∀ i:Nat,(i:Int)<x.items->0<=dateOn y k i d->0<=dateOn x k i d/\dateOn x k i d<=dateOn y k i d
theorem bool_at{h:Cells}{p:Option Addr}{n:Nat}{l:List Bool}(s:Sl BoolE 1 h p n l){j:Nat}{b:Bool}(hb:l[j]?=some b):∃ a,p=some a/\h.cell? (a.add (j*1))=some (.bool b):=by
 obtain⟨a,ha,e⟩:=s.2.2 j b hb;unfold BoolE at e;rw[add_zero']at e;exact⟨a,ha,e⟩
theorem int_at{h:Cells}{p:Option Addr}{n:Nat}{l:List Int}(s:Sl IntE 1 h p n l){j:Nat}{b:Int}(hb:l[j]?=some b):∃ a,p=some a/\h.cell? (a.add (j*1))=some (.int .i64 b):=by
 obtain⟨a,ha,e⟩:=s.2.2 j b hb;unfold IntE at e;rw[add_zero']at e;exact⟨a,ha,e⟩
theorem c2039{h:LH}(hk:Kinds h.get){f g:TC}{x y:TF}(hx:TreatyR h.get f x)(hy:TreatyR h.get g y){k d:Int}(ax:askedDayT x k d=0)(ay:askedDayT y k d=0)(hi:y.items=x.items)(hn:NoLess x y k d) :
  Gr Tryz.prog 28 #[treatyV f x,treatyV g y,.int .i64 k,.int .i64 d] h fun r _=>r=.bool true:=by
 refine w2039 _ _ _ _ _ _ _ _ _ _ _ _ _ _ _ _ _ _ _ _ X0_ok ?_;unfold n2039;have hit:=(check_numbers (asked_ok (askedDay_ok ax).1).1).1;refine t_gr (c2018 hk hx k d) ?_;intro r1 h1 le1 hr;obtain⟨p1,n1,k1,rfl,s1,_⟩:=hr.form;rw[ax];rw[protA,if_pos ax]at s1;refine gZ ?_;refine t_gr (c2018 (hk.le le1.1) (hy.le le1.1) k d) ?_;intro r2 h2 le2 hr;obtain⟨p2,n2,k2,rfl,s2,_⟩:=hr.form;rw[ay];rw[protA,if_pos ay]at s2;refine gZ ?_;have l12:=LH.le_trans le1 le2;refine t_gr (c2026 (hk.le l12.1) (hx.le l12.1) k d) ?_;intro r3 h3 le3 hr;obtain⟨p3,n3,k3,rfl,s3,_⟩:=hr.form;rw[ax];rw[datesA,if_pos ax]at s3;refine gZ ?_;have l13:=LH.le_trans l12 le3;refine t_gr (c2026 (hk.le l13.1) (hy.le l13.1) k d) ?_;intro r4 h4 le4 hr;obtain⟨p4,n4,k4,rfl,s4,_⟩:=hr.form;rw[ay];rw[datesA,if_pos ay]at s4;refine gZ ?_;have l14:=LH.le_trans l13 le4;have s1:=s1.le BoolE.grow (LH.le_trans le2 (LH.le_trans le3 le4)).1;have s2:=s2.le BoolE.grow (LH.le_trans le3 le4).1;have s3:=s3.le IntE.grow le4.1;have m1:=s1.1;have m2:=s2.1;have m3:=s3.1;have m4:=s4.1;rw[prot_len]at m1 m2;rw[dates_len]at m3 m4;rw[hi]at m2 m4;refine t_blk (fun vs h'=>vs=[.bool false]/\h4=h') ?_ ?_
 ·refine t_cond (fun e=>absurd e (by simp)) (fun _=>?_);refine t_cond (fun e=>absurd e (by simp)) (fun _=>?_);refine t_cond (fun e=>absurd e (by simp)) (fun _=>?_);refine t_cond (fun e=>absurd e (by simp)) (fun _=>?_);refine t_cond (fun e=>absurd e (by simp;omega)) (fun _=>?_);refine t_cond (fun e=>absurd e (by simp;omega)) (fun _=>?_);refine t_cond (fun e=>absurd e (by simp;omega)) (fun _=>?_);refine t_cond (fun e=>absurd e (by simp;omega)) (fun _=>?_);exact t_again ⟨rfl,rfl⟩
 rintro vs _ ⟨rfl,rfl⟩;refine gZ ?_;refine t_loop (fun mm vs h'=>h4=h'/\∃ j:Nat,vs=[.bool false,.int .i64 j]/\j<=n1/\mm=n1-j) ⟨rfl,0,rfl,Nat.zero_le _,rfl⟩ ?_;rintro Y mm vs _ hY ⟨rfl,j,rfl,hj,rfl⟩;refine yJ (fun e1=>?_) (fun e1=>?_)
 ·have hjx:j<x.items.toNat:=by omega
  obtain⟨a1,ha1,g1⟩:=bool_at s1 (prot_at (k:=k) (d:=d) hjx);obtain⟨a2,ha2,g2⟩:=bool_at s2 (prot_at (x:=y) (k:=k) (d:=d) (j:=j) (by rw[hi];exact hjx));obtain⟨a3,ha3,g3⟩:=int_at s3 (dates_at (k:=k) (d:=d) hjx);obtain⟨a4,ha4,g4⟩:=int_at s4 (dates_at (x:=y) (k:=k) (d:=d) (j:=j) (by rw[hi];exact hjx));have hnj:=hn j (by omega);generalize dateOn x k j d=dx at g1 g3 hnj;generalize dateOn y k j d=dy at g2 g4 hnj;have next:Y [.bool false,.int .i64 (wrap .i64 ((j:Int)+1))] h4:=by
   refine hY (n1-(j+1)) _ _ (by omega) ⟨rfl,j+1,?_,by omega,rfl⟩;rw[wrap_id (by omega) (by omega)];rfl
  refine yI (fun d1=>?_) (fun d1=>?_)
  ·have d1':0<=dy:=by simpa using d1
   obtain⟨hx0,hxy⟩:=hnj d1';refine gZ ?_;refine t_cond (fun e=>absurd e (by simp;omega)) (fun _=>?_);refine gZ ?_;refine t_cond (fun e=>absurd e (by simp)) (fun _=>?_);refine gZ ?_;refine t_cond (fun e=>absurd e (by simp)) (fun _=>?_);refine gZ ?_;refine t_cond (fun _=>?_) (fun e=>absurd e (by rw[d1];simp));refine gZ ?_;refine t_cond (fun e=>absurd e (by simp;omega)) (fun _=>?_);exact t_again next
  ·refine gZ ?_;refine t_cond (fun e=>absurd e (by simp)) (fun _=>?_);refine gZ ?_;refine t_cond (fun e=>absurd e (by simp)) (fun _=>?_);refine gZ ?_;refine t_cond (fun e=>absurd e (by rw[d1];simp)) (fun _=>?_);simp only[beq_self_eq_true,Bool.not_true];refine gZ ?_;exact t_again next
 ·refine gZ ?_;exact t_ret ⟨l14,rfl⟩
def SameOn(x y:TF)(k d:Int):Prop:=y.items=x.items/\∀ i:Nat,(i:Int)<x.items->dateOn y k i d=dateOn x k i d
theorem c2034{h:LH}(hk:Kinds h.get){f g:TC}{x y:TF}(hx:TreatyR h.get f x)(hy:TreatyR h.get g y){k d:Int}(ax:askedDayT x k d=0)(ay:askedDayT y k d=0)(hs:SameOn x y k d) :
  Gr Tryz.prog 10 #[treatyV f x,treatyV g y,k,d] h fun r _=>r=.bool true:=by
 refine w2034 _ _ _ _ _ _ _ _ _ _ _ _ _ _ _ _ _ _ _ _ X0_ok ?_;unfold n2034;refine t_gr (c2039 hk hx hy ax ay hs.1 fun i hi h0=>by rw[hs.2 i hi]at h0 ⊢;exact⟨h0,Int.le_refl _⟩) ?_;rintro _ h1 le1 rfl;refine yT ?_;refine t_gr (c2039 (hk.le le1.1) (hy.le le1.1) (hx.le le1.1) ay ax hs.1.symm fun i hi h0=>by rw[hs.2 i (by rw[<- hs.1];exact hi)];exact⟨h0,Int.le_refl _⟩) ?_;rintro _ h2 le2 rfl;refine gZ ?_;exact t_ret ⟨LH.le_trans le1 le2,rfl⟩
end
section
open Go.TM.Tr
attribute [local irreducible] T.wp CV FWK
theorem mod_in{n m:Int}(hn:0<=n/\n<=65535)(hm:0<m):Int.tmod (IntKind.i64.wrap n) m=n%m/\0<=n%m/\n%m<m:=by
 rw[wrap_id (by omega) (by omega),Int.tmod_eq_emod_of_nonneg hn.1];exact⟨rfl,Int.emod_nonneg _ (by omega),Int.emod_lt_of_pos _ hm⟩
theorem day_mod(n:Int):0<=n%10000/\n%10000<=9999:=by omega
theorem asked_fit{x:TF}(h:checkT x=0){k d:Int}(hk:0<=k/\k<x.lands)(hd:0<=d/\d<=9999):askedDayT x k d=0:=by
 have h1:askedT x k=0:=by rw[askedT,if_neg (by simp[h]),if_neg (by simp[inB];omega)]
 rw[askedDayT,if_neg (by simp[h1]),if_pos (by simp[dayB,inB];omega)]
end
section
open Go.TM.Tr
attribute [local irreducible] T.wp CV FWK
def evCells(e:Ev)(q:Option Addr)(m c:Nat):List Value:=[.int .i64 e.kind,.int .i64 e.day,.int .i64 e.land,.slice q m c,.int .i64 e.since]
theorem ev_one(e:Ev)(q:Option Addr)(m c:Nat):∀ w∈evCells e q m c,isOne w=true:=by
 intro w hw;simp only[evCells,List.mem_cons,List.not_mem_nil,or_false]at hw;rcases hw with rfl|rfl|rfl|rfl|rfl<;>rfl
theorem own_of{α:Type}{Enc:α->List Value->Prop}{el:TypeId}{k:Nat}{h₀ h:Cells}{r n c:Nat}{l:List α}(g:Growing Enc el k h₀ h (some ⟨r,0,none⟩) n c l):∃ cs,h r=some (true,.cells cs el (0,0)):=by
 obtain⟨vs,⟨_,h2⟩,_⟩:=g.row;rcases h2 with⟨h3,_⟩|⟨r',cs,h3,h4,_⟩
 ·cases h3
 ·cases h3;exact⟨cs,h4⟩
end
end Go.Y.Tre
section
namespace Go.Y
set_option maxHeartbeats 0
set_option linter.unusedVariables false
variable {X:XP} {h:LH} {A:Value->LH->Prop}
def n3500(x_0 x_1 x_2 x_3 x_4 x_5:Int)(x_6p:Option Addr)(x_6n x_6c:Nat)(b_0p:Option Addr)(b_0n b_0c:Nat)(b_1p:Option Addr)(b_1n b_1c:Nat)(b_2p:Option Addr)(b_2n b_2c:Nat)(b_3p:Option Addr)(b_3n b_3c:Nat)(deed_0:ByteArray)(deed_1 deed_2 deed_3 deed_4:Int)(deed_5p:Option Addr)(deed_5n deed_5c:Nat)(deed_6 deed_7 right by0 land day:Int)(picksp:Option Addr)(picksn picksc:Nat):T:=.blk (.cB 4 #[.agg #[x_0,x_1,x_2,x_3,x_4,x_5,.slice x_6p x_6n x_6c]] fun b=>bif !b then .cB 7 #[] fun b=>.rn [b] else .cB 5 #[.agg #[.slice b_0p b_0n b_0c,.slice b_1p b_1n b_1c,.slice b_2p b_2n b_2c,.slice b_3p b_3n b_3c]] fun b=>bif b then .cB 7 #[] fun b=>.rn [b] else .cI 6 #[.agg #[.slice b_0p b_0n b_0c,.slice b_1p b_1n b_1c,.slice b_2p b_2n b_2c,.slice b_3p b_3n b_3c]] fun n=>bif n != 0 then .cB 7 #[] fun b=>.rn [b] else bif (↑b_0n:Int)==0 then .cB 7 #[] fun b=>.rn [b] else bif (↑b_1n:Int)==0 then .cB 7 #[] fun b=>.rn [b] else bif (↑b_2n:Int)==0 then .cB 7 #[] fun b=>.rn [b] else .ag [false]) (fun vs=>.popB vs fun b vs=>.unNil vs (.need (x_1≠0) (.need ((↑b_2n:Int)≠0) (.cI 8 #[.int .u16 day] fun n=>.need ((↑b_2n:Int)≠0) (.nds [.val (.int .i64 (Int.tmod (wrap .i64 right) (↑b_2n:Int))),.val (.int .i64 (↑b_2n:Int)),.S b_2p b_2n b_2c,.pp 9 2,.val (.int .i64 (wrap .i64 right)),.val (.int .u8 right)] (.need (x_1≠0) (.nds [.val (.int .i64 (Int.tmod (wrap .i64 land) x_1)),x_1,.pp 8 1,.val (.int .i64 (wrap .i64 land)),.val (.int .u8 land)] (.need ((↑b_2n:Int)≠0) (.nds [.val (.int .i64 (Int.tmod (wrap .i64 right) (↑b_2n:Int))),.val (.int .i64 (↑b_2n:Int)),.S b_2p b_2n b_2c,.pp 9 2,.val (.int .i64 (wrap .i64 right)),.val (.int .u8 right)] (.need ((↑b_2n:Int)≠0) (.nds [.val (.int .i64 (Int.tmod (wrap .i64 right) (↑b_2n:Int))),.val (.int .i64 (↑b_2n:Int)),.S b_2p b_2n b_2c,.pp 9 2,.val (.int .i64 (wrap .i64 right)),.val (.int .u8 right)] (.cT 9 #[.agg #[x_0,x_1,x_2,x_3,x_4,x_5,.slice x_6p x_6n x_6c],.agg #[.slice b_0p b_0n b_0c,.slice b_1p b_1n b_1c,.slice b_2p b_2n b_2c,.slice b_3p b_3n b_3c],.int .i64 (Int.tmod (wrap .i64 right) (↑b_2n:Int)),.slice picksp picksn picksc] fun v vs=>.unAgg v fun l=>.pi l fun n_1 vs_1=>.pi vs_1 fun n_2 vs_2=>.pi vs_2 fun n_3 vs_3=>.pi vs_3 fun n_4 vs_4=>.pi vs_4 fun n_5 vs_5=>.pi vs_5 fun n_6 vs_6=>.popS vs_6 fun a n_7 c vs_7=>.unNil vs_7 (.unCons vs fun v vs=>.unB v fun b_1=>.unNil vs (.loop [.int .i64 (wrap .i64 ((↑b_3n:Int)-1)),.slice b_0p b_0n b_0c,.slice b_1p b_1n b_1c,.slice b_2p b_2n b_2c,.slice none 0 0] (fun vs=>.pi vs fun n vs=>.popS vs fun a n_8 c vs=>.popS vs fun a_1 n_9 c_1 vs=>.popS vs fun a_2 n_10 c_2 vs=>.popS vs fun a_3 n_11 c_3 vs=>.unNil vs (bif decide (n>=0) then .need ((↑b_3n:Int)≠0) (.need (0<=Int.tmod (wrap .i64 (n+wrap .i64 by0)) (↑b_3n:Int)/\Int.tmod (wrap .i64 (n+wrap .i64 by0)) (↑b_3n:Int)<(↑b_3n:Int)) (.someA b_3p fun a_4=>.loadStr ((a_4.add ((Int.tmod (wrap .i64 (n+wrap .i64 by0)) (↑b_3n:Int)).toNat*8)).add 0) fun s=>.li ((a_4.add ((Int.tmod (wrap .i64 (n+wrap .i64 by0)) (↑b_3n:Int)).toNat*8)).add 1) fun n_12=>.li ((a_4.add ((Int.tmod (wrap .i64 (n+wrap .i64 by0)) (↑b_3n:Int)).toNat*8)).add 2) fun n_13=>.li ((a_4.add ((Int.tmod (wrap .i64 (n+wrap .i64 by0)) (↑b_3n:Int)).toNat*8)).add 3) fun n_14=>.li ((a_4.add ((Int.tmod (wrap .i64 (n+wrap .i64 by0)) (↑b_3n:Int)).toNat*8)).add 4) fun n_15=>.loadS ((a_4.add ((Int.tmod (wrap .i64 (n+wrap .i64 by0)) (↑b_3n:Int)).toNat*8)).add 5) fun p n_16 c_4=>.li ((a_4.add ((Int.tmod (wrap .i64 (n+wrap .i64 by0)) (↑b_3n:Int)).toNat*8)).add 6) fun n_17=>.li ((a_4.add ((Int.tmod (wrap .i64 (n+wrap .i64 by0)) (↑b_3n:Int)).toNat*8)).add 7) fun n_18=>.sem false (Instr.buildSlice 27 1 #[(0,.agg #[.string s,n_12,n_13,n_14,n_15,.slice p n_16 c_4,n_17,n_18])]) fun v=>.unS v fun a_5 n_19 c_5=>.need (0<=Int.tmod (wrap .i64 (n+wrap .i64 by0)) (↑b_3n:Int)/\Int.tmod (wrap .i64 (n+wrap .i64 by0)) (↑b_3n:Int)<(↑b_3n:Int)) (.someA b_3p fun a_6=>.ne (.pointer (some (a_6.add ((Int.tmod (wrap .i64 (n+wrap .i64 by0)) (↑b_3n:Int)).toNat*8)))) (.pointer (some (a_4.add ((Int.tmod (wrap .i64 (n+wrap .i64 by0)) (↑b_3n:Int)).toNat*8)))) (.need ((↑b_3n:Int)≠0) (.nds [.val (.int .i64 (Int.tmod (wrap .i64 (n+wrap .i64 by0)) (↑b_3n:Int))),.val (.int .i64 (↑b_3n:Int)),.S b_3p b_3n b_3c,.pp 9 3,.val (.int .i64 (wrap .i64 (n+wrap .i64 by0))),.val (.int .i64 (wrap .i64 by0)),.val (.int .u8 by0),n,.S b_3p b_3n b_3c,.pp 9 3,.S a_3 n_11 c_3,.pp 22 3] (.sem false (Builtin.append_ #[27,27] 27 #[.slice a_3 n_11 c_3,.slice a_5 n_19 c_5]) fun v=>.unS v fun a_7 n_20 c_6=>.need (0<=Int.tmod (wrap .i64 (n+wrap .i64 by0)) (↑b_3n:Int)/\Int.tmod (wrap .i64 (n+wrap .i64 by0)) (↑b_3n:Int)<(↑b_3n:Int)) (.someA b_3p fun a_8=>.ne (.pointer (some (a_8.add ((Int.tmod (wrap .i64 (n+wrap .i64 by0)) (↑b_3n:Int)).toNat*8)))) (.pointer (some (a_4.add ((Int.tmod (wrap .i64 (n+wrap .i64 by0)) (↑b_3n:Int)).toNat*8)))) (.need ((↑b_3n:Int)≠0) (.nds [.val (.int .i64 (Int.tmod (wrap .i64 (n+wrap .i64 by0)) (↑b_3n:Int))),.val (.int .i64 (↑b_3n:Int)),.S b_3p b_3n b_3c,.pp 9 3,.val (.int .i64 (wrap .i64 (n+wrap .i64 by0))),.val (.int .i64 (wrap .i64 by0)),.val (.int .u8 by0),n,.S b_3p b_3n b_3c,.pp 9 3,.pp 22 3] (.ag [.int .i64 (wrap .i64 (n-1)),.slice a n_8 c,.slice a_1 n_9 c_1,.slice a_2 n_10 c_2,.slice a_7 n_20 c_6])))))))))) else .bk [n,.slice a n_8 c,.slice a_1 n_9 c_1,.slice a_2 n_10 c_2,.slice a_3 n_11 c_3])) (fun vs=>.pi vs fun n_8 vs=>.popS vs fun a_1 n_9 c_1 vs=>.popS vs fun a_2 n_10 c_2 vs=>.popS vs fun a_3 n_11 c_3 vs=>.popS vs fun a_4 n_12 c_4 vs=>.unNil vs (.cT 9 #[.agg #[x_0,x_1,x_2,x_3,x_4,x_5,.slice x_6p x_6n x_6c],.agg #[.slice a_1 n_9 c_1,.slice a_2 n_10 c_2,.slice a_3 n_11 c_3,.slice a_4 n_12 c_4],.int .i64 (Int.tmod (wrap .i64 right) (↑b_2n:Int)),.slice picksp picksn picksc] fun v vs=>.unAgg v fun l=>.pi l fun n_13 vs_8=>.pi vs_8 fun n_14 vs_9=>.pi vs_9 fun n_15 vs_10=>.pi vs_10 fun n_16 vs_11=>.pi vs_11 fun n_17 vs_12=>.pi vs_12 fun n_18 vs_13=>.popS vs_13 fun a_5 n_19 c_5 vs_14=>.unNil vs_14 (.unCons vs fun v vs=>.unB v fun b_2=>.unNil vs (.blk (bif !b_1 then .rn [false] else bif !b_2 then .rn [false] else .cB 10 #[.agg #[n_1,n_2,n_3,n_4,n_5,n_6,.slice a n_7 c],.agg #[n_13,n_14,n_15,n_16,n_17,n_18,.slice a_5 n_19 c_5],.int .i64 (Int.tmod (wrap .i64 land) x_1),n] fun b_3=>bif !b_3 then .rn [false] else bif (↑n_7:Int) != (↑n_19:Int) then .rn [false] else .ag [b]) (fun vs=>.popB vs fun b vs=>.unNil vs (.blk (.both (.sem false (Instr.buildSlice 27 0 #[]) fun v=>.unS v fun a n c=>.nds [.val (.agg #[.string deed_0,deed_1,deed_2,deed_3,deed_4,.slice deed_5p deed_5n deed_5c,deed_6,deed_7]),.S b_3p b_3n b_3c,.pp 9 3] (.both (.sem false (Builtin.append_ #[27,27] 27 #[.slice a n c,.slice b_3p b_3n b_3c]) fun v=>.unS v fun a n c=>.nds [.val (.agg #[.string deed_0,deed_1,deed_2,deed_3,deed_4,.slice deed_5p deed_5n deed_5c,deed_6,deed_7]),.pp 9 3] (.sem false (Instr.buildSlice 27 1 #[(0,.agg #[.string deed_0,deed_1,deed_2,deed_3,deed_4,.slice deed_5p deed_5n deed_5c,deed_6,deed_7])]) fun v=>.unS v fun a_6 n_20 c_6=>.np 9 3 (.sem false (Builtin.append_ #[27,27] 27 #[.slice a n c,.slice a_6 n_20 c_6]) fun v=>.unS v fun a n c=>.np 9 3 (.ag [.slice b_0p b_0n b_0c,.slice b_1p b_1n b_1c,.slice b_2p b_2n b_2c,.slice a n c])))) (.sem false (Instr.buildSlice 27 1 #[(0,.agg #[.string deed_0,deed_1,deed_2,deed_3,deed_4,.slice deed_5p deed_5n deed_5c,deed_6,deed_7])]) fun v=>.unS v fun a_6 n_20 c_6=>.nds [.S b_3p b_3n b_3c,.pp 9 3] (.sem false (Builtin.append_ #[27,27] 27 #[.slice a n c,.slice b_3p b_3n b_3c]) fun v=>.unS v fun a n c=>.np 9 3 (.sem false (Builtin.append_ #[27,27] 27 #[.slice a n c,.slice a_6 n_20 c_6]) fun v=>.unS v fun a n c=>.np 9 3 (.ag [.slice b_0p b_0n b_0c,.slice b_1p b_1n b_1c,.slice b_2p b_2n b_2c,.slice a n c])))))) (.sem false (Instr.buildSlice 27 1 #[(0,.agg #[.string deed_0,deed_1,deed_2,deed_3,deed_4,.slice deed_5p deed_5n deed_5c,deed_6,deed_7])]) fun v=>.unS v fun a n c=>.nds [.S b_3p b_3n b_3c,.pp 9 3] (.sem false (Instr.buildSlice 27 0 #[]) fun v=>.unS v fun a_6 n_20 c_6=>.nds [.S b_3p b_3n b_3c,.pp 9 3] (.sem false (Builtin.append_ #[27,27] 27 #[.slice a_6 n_20 c_6,.slice b_3p b_3n b_3c]) fun v=>.unS v fun a_7 n_21 c_7=>.np 9 3 (.sem false (Builtin.append_ #[27,27] 27 #[.slice a_7 n_21 c_7,.slice a n c]) fun v=>.unS v fun a n c=>.np 9 3 (.ag [.slice b_0p b_0n b_0c,.slice b_1p b_1n b_1c,.slice b_2p b_2n b_2c,.slice a n c])))))) (fun vs=>.popS vs fun a_6 n_20 c_6 vs=>.popS vs fun a_7 n_21 c_7 vs=>.popS vs fun a_8 n_22 c_8 vs=>.popS vs fun a_9 n_23 c_9 vs=>.unNil vs (.loop [b,.int .i64 0] (fun vs=>.popB vs fun b vs=>.pi vs fun n vs=>.unNil vs (bif decide (n<(↑x_6n:Int)) then .need (0<=n/\n<(↑x_6n:Int)) (.someA x_6p fun a=>.li ((a.add (n.toNat*5)).add 1) fun n_24=>bif decide (deed_6<=n_24) then .cB 7 #[] fun b=>.rn [b,n] else .ag [b,.int .i64 (wrap .i64 (n+1))]) else .bk [b,n])) (fun vs=>.popB vs fun b vs=>.pi vs fun n_24 vs=>.unNil vs (.blk (bif decide ((↑deed_5n:Int)>20) then .cB 7 #[] fun b=>.rn [b] else .sem false (Builtin.len_ #[9] 3 #[.string deed_0]) fun v=>.ui v fun n=>bif decide (n>100) then .cB 7 #[] fun b=>.rn [b] else .cI 6 #[.agg #[.slice a_6 n_20 c_6,.slice a_7 n_21 c_7,.slice a_8 n_22 c_8,.slice a_9 n_23 c_9]] fun n=>bif n != 0 then .cB 7 #[] fun b=>.rn [b] else .ag [b]) (fun vs=>.popB vs fun b vs=>.unNil vs (.cT 9 #[.agg #[x_0,x_1,x_2,x_3,x_4,x_5,.slice x_6p x_6n x_6c],.agg #[.slice a_6 n_20 c_6,.slice a_7 n_21 c_7,.slice a_8 n_22 c_8,.slice a_9 n_23 c_9],.int .i64 (Int.tmod (wrap .i64 right) (↑b_2n:Int)),.slice picksp picksn picksc] fun v vs=>.unAgg v fun l=>.pi l fun n_25 vs_15=>.pi vs_15 fun n_26 vs_16=>.pi vs_16 fun n_27 vs_17=>.pi vs_17 fun n_28 vs_18=>.pi vs_18 fun n_29 vs_19=>.pi vs_19 fun n_30 vs_20=>.popS vs_20 fun a_10 n_31 c_10 vs_21=>.unNil vs_21 (.unCons vs fun v vs=>.unB v fun b=>.unNil vs (bif b then bif (↑n_31:Int)==(↑n_7:Int) then .cB 10 #[.agg #[n_1,n_2,n_3,n_4,n_5,n_6,.slice a n_7 c],.agg #[n_25,n_26,n_27,n_28,n_29,n_30,.slice a_10 n_31 c_10],.int .i64 (Int.tmod (wrap .i64 land) x_1),n] fun b=>bif b then .cB 7 #[] fun b=>.rt (.bool b) else .rt (.bool false) else .rt (.bool false) else .rt (.bool false))))) (fun vs=>.popB vs fun b vs=>.unNil vs (.rt (.bool b))) fun x x_6=>.fail)) (fun vs=>.popB vs fun b vs=>.pi vs fun n vs=>.unNil vs (.rt (.bool b))) fun x x_6=>.fail)) (fun vs=>.popS vs fun a n c vs=>.popS vs fun a n c vs=>.popS vs fun a n c vs=>.popS vs fun a n c vs=>.unNil vs (.rt (.bool b))) fun x x_6=>.fail)) (fun vs=>.popB vs fun b vs=>.unNil vs (.rt (.bool b))) fun x x_6=>.fail)))) (fun vs=>.pi vs fun n vs=>.popS vs fun a n c vs=>.popS vs fun a n c vs=>.popS vs fun a n c vs=>.popS vs fun a n c vs=>.unNil vs (.rt (.bool b))) fun x x_6=>.fail)))))))))))))) (fun vs=>.popB vs fun b vs=>.unNil vs (.rt (.bool b))) fun x x_6=>.fail
theorem w3500(x_0 x_1 x_2 x_3 x_4 x_5:Int)(x_6p:Option Addr)(x_6n x_6c:Nat)(b_0p:Option Addr)(b_0n b_0c:Nat)(b_1p:Option Addr)(b_1n b_1c:Nat)(b_2p:Option Addr)(b_2n b_2c:Nat)(b_3p:Option Addr)(b_3n b_3c:Nat)(deed_0:ByteArray)(deed_1 deed_2 deed_3 deed_4:Int)(deed_5p:Option Addr)(deed_5n deed_5c:Nat)(deed_6 deed_7 right by0 land day:Int)(picksp:Option Addr)(picksn picksc:Nat):FX X 3 #[.agg #[x_0,x_1,x_2,x_3,x_4,x_5,.slice x_6p x_6n x_6c],.agg #[.slice b_0p b_0n b_0c,.slice b_1p b_1n b_1c,.slice b_2p b_2n b_2c,.slice b_3p b_3n b_3c],.agg #[.string deed_0,deed_1,deed_2,deed_3,deed_4,.slice deed_5p deed_5n deed_5c,deed_6,deed_7],.int .u8 right,.int .u8 by0,.int .u8 land,.int .u16 day,.slice picksp picksn picksc] h A (n3500 x_0 x_1 x_2 x_3 x_4 x_5 x_6p x_6n x_6c b_0p b_0n b_0c b_1p b_1n b_1c b_2p b_2n b_2c b_3p b_3n b_3c deed_0 deed_1
  deed_2 deed_3 deed_4 deed_5p deed_5n deed_5c deed_6 deed_7 right by0 land day picksp picksn picksc):=fk [8,9,10,20,22,24,27] [⟨0,[(23,.int .i64),(94208,.slice),(94209,.slice),(94210,.slice),(94211,.slice)],[8,9,10,20],[],[],[]⟩,⟨2,[(16,.bool),(26,.int .i64)],[8,9,10,20,22,24],[],[],[]⟩] [⟨23,[(16,.bool)],[8,9,10,20,22,24],[],[],[]⟩,⟨16,[(94208,.slice),(94209,.slice),(94210,.slice),(94211,.slice)],[8,9,10,20,24],[],[],[]⟩,⟨14,[(16,.bool)],[8,9,10,20,22,24],[],[],[]⟩,⟨3,[(16,.bool)],[8,9,10],[],[],[]⟩] Tryz.f3
def n3503(x_0 x_1 x_2 x_3 x_4 x_5:Int)(x_6p:Option Addr)(x_6n x_6c:Nat)(b_0p:Option Addr)(b_0n b_0c:Nat)(b_1p:Option Addr)(b_1n b_1c:Nat)(b_2p:Option Addr)(b_2n b_2c:Nat)(b_3p:Option Addr)(b_3n b_3c:Nat)(right:Int)(picksp:Option Addr)(picksn picksc:Nat):T:=.loop [false,.int .i64 0,.int .i64 0,.int .i64 0,.int .i64 0,.int .i64 0,.int .i64 0,.int .i64 0,.slice none 0 0,x_0,x_1,x_2,x_3,x_4,x_5,.slice none 0 0] (fun vs=>.popB vs fun b vs=>.pi vs fun n vs=>.pi vs fun n_1 vs=>.pi vs fun n_2 vs=>.pi vs fun n_3 vs=>.pi vs fun n_4 vs=>.pi vs fun n_5 vs=>.pi vs fun n_6 vs=>.popS vs fun a n_7 c vs=>.pi vs fun n_8 vs=>.pi vs fun n_9 vs=>.pi vs fun n_10 vs=>.pi vs fun n_11 vs=>.pi vs fun n_12 vs=>.pi vs fun n_13 vs=>.popS vs fun a_1 n_14 c_1 vs=>.unNil vs (bif decide (n<(↑x_6n:Int)) then .need (0<=n/\n<(↑x_6n:Int)) (.someA x_6p fun a_2=>.li ((a_2.add (n.toNat*5)).add 0) fun n_15=>.li ((a_2.add (n.toNat*5)).add 1) fun n_16=>.li ((a_2.add (n.toNat*5)).add 2) fun n_17=>.loadS ((a_2.add (n.toNat*5)).add 3) fun p n_18 c_2=>.li ((a_2.add (n.toNat*5)).add 4) fun n_19=>.need ((↑b_1n:Int)≠0) (.cT 26 #[.agg #[.slice b_0p b_0n b_0c,.slice b_1p b_1n b_1c,.slice b_2p b_2n b_2c,.slice b_3p b_3n b_3c],right,.int .i64 (Int.tmod n_17 (↑b_1n:Int)),.int .i64 (if n_16<99999 then n_16 else 99999)] fun v vs=>.ui v fun n_20=>.unCons vs fun v vs=>.ui v fun n_21=>.unNil vs (.nds [n_16,.pp 12 1,.val (.int .i64 (↑b_1n:Int)),.S b_1p b_1n b_1c,.pp 5 1,n_17,.pp 12 2,n_21] (bif n_21 != 0 then .rn [false,n,x_0,x_1,x_2,x_3,x_4,x_5,.slice x_6p x_6n x_6c,n_8,n_9,n_10,n_11,n_12,n_13,.slice a_1 n_14 c_1] else .blk (bif n_15==0 then .ag [true] else bif n_15==3 then .ag [true] else bif n_15==5 then .ag [true] else .ag [.bool (n_15==6)]) (fun vs=>.popB vs fun b_1 vs=>.unNil vs (bif !b_1 then .both (.nds [.U,.U,.U,.B (!b_1),b_1,.U,.U,.B (!b_1),b_1,.U,.U,.B (!b_1),b_1,.U,.B (!b_1),b_1] (.sem false (Instr.buildSlice 22 1 #[(0,.agg #[n_15,n_16,n_17,.slice p n_18 c_2,n_19])]) fun v=>.unS v fun a_3 n_22 c_3=>.sem false (Builtin.append_ #[22,22] 22 #[.slice a_1 n_14 c_1,.slice a_3 n_22 c_3]) fun v=>.unS v fun a_4 n_23 c_4=>.ag [b,.int .i64 (wrap .i64 (n+1)),n_1,n_2,n_3,n_4,n_5,n_6,.slice a n_7 c,n_8,n_9,n_10,n_11,n_12,n_13,.slice a_4 n_23 c_4])) (.nds [.U,.U,.U,.U,.B (!b_1),b_1,.U,.U,.B (!b_1),b_1,.U,.U,.B (!b_1),b_1,.U,.B (!b_1),b_1] (.sem false (Instr.buildSlice 22 1 #[(0,.agg #[n_15,n_16,n_17,.slice p n_18 c_2,n_19])]) fun v=>.unS v fun a_3 n_22 c_3=>.sem false (Builtin.append_ #[22,22] 22 #[.slice a_1 n_14 c_1,.slice a_3 n_22 c_3]) fun v=>.unS v fun a_4 n_23 c_4=>.ag [b,.int .i64 (wrap .i64 (n+1)),n_1,n_2,n_3,n_4,n_5,n_6,.slice a n_7 c,n_8,n_9,n_10,n_11,n_12,n_13,.slice a_4 n_23 c_4])) else .cI 27 #[.slice picksp picksn picksc,n] fun n_22=>.nds [n_20,.val (.int .i64 (↑b_0n:Int)),.S b_0p b_0n b_0c,.pp 5 0,.B (!b_1),b_1] (.need ((↑b_0n:Int)≠0) (bif Int.tmod n_22 (↑b_0n:Int)==n_20 then .sem false (Instr.buildSlice 22 1 #[(0,.agg #[n_15,n_16,n_17,.slice p n_18 c_2,n_19])]) fun v=>.unS v fun a_3 n_23 c_3=>.sem false (Builtin.append_ #[22,22] 22 #[.slice a_1 n_14 c_1,.slice a_3 n_23 c_3]) fun v=>.unS v fun a_4 n_24 c_4=>.ag [b,.int .i64 (wrap .i64 (n+1)),n_1,n_2,n_3,n_4,n_5,n_6,.slice a n_7 c,n_8,n_9,n_10,n_11,n_12,n_13,.slice a_4 n_24 c_4] else .ag [b,.int .i64 (wrap .i64 (n+1)),n_1,n_2,n_3,n_4,n_5,n_6,.slice a n_7 c,n_8,n_9,n_10,n_11,n_12,n_13,.slice a_1 n_14 c_1])))) (fun vs=>.popB vs fun b_1 vs=>.unNil vs (.rn [b,n,n_1,n_2,n_3,n_4,n_5,n_6,.slice a n_7 c,n_8,n_9,n_10,n_11,n_12,n_13,.slice a_1 n_14 c_1])) fun x x_6=>.fail)))) else .bk [b,n,n_1,n_2,n_3,n_4,n_5,n_6,.slice a n_7 c,n_8,n_9,n_10,n_11,n_12,n_13,.slice a_1 n_14 c_1])) (fun vs=>.popB vs fun b vs=>.pi vs fun n vs=>.pi vs fun n vs=>.pi vs fun n vs=>.pi vs fun n vs=>.pi vs fun n vs=>.pi vs fun n vs=>.pi vs fun n vs=>.popS vs fun a n c vs=>.pi vs fun n vs=>.pi vs fun n_1 vs=>.pi vs fun n_2 vs=>.pi vs fun n_3 vs=>.pi vs fun n_4 vs=>.pi vs fun n_5 vs=>.popS vs fun a n_6 c vs=>.unNil vs (.rt (.tuple #[.agg #[n,n_1,n_2,n_3,n_4,n_5,.slice a n_6 c],true]))) (fun vs=>.popB vs fun b vs=>.pi vs fun n vs=>.pi vs fun n vs=>.pi vs fun n_1 vs=>.pi vs fun n_2 vs=>.pi vs fun n_3 vs=>.pi vs fun n_4 vs=>.pi vs fun n_5 vs=>.popS vs fun a n_6 c vs=>.pi vs fun n_7 vs=>.pi vs fun n_8 vs=>.pi vs fun n_9 vs=>.pi vs fun n_10 vs=>.pi vs fun n_11 vs=>.pi vs fun n_12 vs=>.popS vs fun a_1 n_13 c_1 vs=>.unNil vs (.rt (.tuple #[.agg #[n,n_1,n_2,n_3,n_4,n_5,.slice a n_6 c],b]))) fun x x_6=>.fail
theorem w3503(x_0 x_1 x_2 x_3 x_4 x_5:Int)(x_6p:Option Addr)(x_6n x_6c:Nat)(b_0p:Option Addr)(b_0n b_0c:Nat)(b_1p:Option Addr)(b_1n b_1c:Nat)(b_2p:Option Addr)(b_2n b_2c:Nat)(b_3p:Option Addr)(b_3n b_3c:Nat)(right:Int)(picksp:Option Addr)(picksn picksc:Nat):FX X 9 #[.agg #[x_0,x_1,x_2,x_3,x_4,x_5,.slice x_6p x_6n x_6c],.agg #[.slice b_0p b_0n b_0c,.slice b_1p b_1n b_1c,.slice b_2p b_2n b_2c,.slice b_3p b_3n b_3c],right,.slice picksp picksn picksc] h A (n3503 x_0 x_1 x_2 x_3 x_4 x_5 x_6p x_6n x_6c b_0p b_0n b_0c b_1p b_1n b_1c b_2p b_2n b_2c b_3p b_3n b_3c right picksp
  picksn picksc):=fk [4,5,8,10,12] [⟨0,[(9,.bool),(11,.int .i64),(36864,.int .i64),(36865,.int .i64),(36866,.int .i64),(36867,.int .i64),(36868,.int .i64),(36869,.int .i64),(36870,.slice),(45056,.int .i64),(45057,.int .i64),(45058,.int .i64),(45059,.int .i64),(45060,.int .i64),(45061,.int .i64),(45062,.slice)],[4,5],[],[],[]⟩] [⟨11,[(15,.bool)],[4,5,8,10,12],[],[],[]⟩] Tryz.f9
end Go.Y
end
section
namespace Go.TM.Ow
open Go.TM.Tr (Ev)
def keepsE(who:Int->Int->Int)(no nl:Nat)(picks:List Int)(i:Nat)(e:Ev):Bool :=
 (!(e.kind==0||e.kind==3||e.kind==5||e.kind==6))||((picks.getD i 0).tmod no==who (e.land.tmod nl) (if e.day<99999 then e.day else 99999))
def ownedL(who:Int->Int->Int)(no nl:Nat)(picks:List Int):Nat->List Ev->List Ev
 | _,[]=>[]
 | i,e::l=>(if keepsE who no nl picks i e=true then [e] else [])++ownedL who no nl picks (i+1) l
theorem ownedL_len{who:Int->Int->Int}{no nl:Nat}{picks:List Int}:∀ (l:List Ev) (i:Nat),(ownedL who no nl picks i l).length<=l.length
 | [],_=>Nat.le_refl _
 | e::l,i=>by
  have:=ownedL_len (who:=who) (no:=no) (nl:=nl) (picks:=picks) l (i+1);unfold ownedL;split
  ·simp;omega
  ·simp;omega
theorem ownedL_mem{who:Int->Int->Int}{no nl:Nat}{picks:List Int}{x:Ev}:∀ (l:List Ev) (i:Nat),x∈ownedL who no nl picks i l->x∈l
 | [],_,h=>h
 | e::l,i,h=>by
  unfold ownedL at h;rcases List.mem_append.1 h with h|h
  ·split at h
   ·rw[List.mem_singleton]at h;rw[h];exact List.mem_cons_self
   ·cases h
  ·exact List.mem_cons_of_mem _ (ownedL_mem l (i+1) h)
theorem ownedL_same{who who':Int->Int->Int}{no nl:Nat}{picks:List Int}:∀ (l:List Ev) (i:Nat),(∀ e∈l,who (e.land.tmod nl) (if e.day<99999 then e.day else 99999)=who' (e.land.tmod nl) (if e.day<99999 then e.day else 99999))->ownedL who no nl picks i l=ownedL who' no nl picks i l
 | [],_,_=>rfl
 | e::l,i,h=>by
  unfold ownedL;rw[ownedL_same l (i+1) fun e he=>h e (List.mem_cons_of_mem _ he)];unfold keepsE;rw[h e List.mem_cons_self]
end Go.TM.Ow
namespace Go.Y.Tre
open Go.TM.Tr
open Go.TM.Ow (Piece St Deed Right Book Heirs)
attribute [local irreducible] T.wp CV FWK
theorem c3508{h:LH}{p:Option Addr}{n c:Nat}{l:List Int}(hl:Sl U16E 1 h.get p n l)(k:Nat):Pu Tryz.prog 27 #[.slice p n c,.int .i64 k] h (.int .i64 (l.getD k 0)):=by
 refine w3508 _ _ _ _ X0_ok ?_;unfold n3508;have hn:=hl.1;refine t_if (fun e=>?_) (fun e=>?_)
 ·obtain⟨x,a,hx,ha,e1,e2,e3⟩:=hl.at (i:=k) (by omega);have hd:l.getD k 0=x:=by rw[List.getD_eq_getElem?_getD,hx];rfl
  rw[hd];refine gZ ?_;exact t_ret ⟨by rw[wrap_id (by omega) (by omega)],rfl⟩
 ·have hd:l.getD k 0=0:=by rw[List.getD_eq_getElem?_getD,List.getElem?_eq_none (by omega)];rfl
  rw[hd];exact t_ret ⟨rfl,rfl⟩
theorem c3501{h:LH}{f:BookC}{b:Book}(hbk:BookR h.get f b):FW X0 Tryz.prog 5 #[bookV f] h fun r h'=>h=h'/\∃ t,r=.bool t:=by
 refine w3501 _ _ _ _ _ _ _ _ _ _ _ _ X0_ok ?_;unfold n3501;have m0:=hbk.owners.1;have m1:=hbk.lands.1;have m2:=hbk.rights.1;have m3:=hbk.deeds.1;have b0:=hbk.owners.2.1;have b1:=hbk.lands.2.1;have b2:=hbk.rights.2.1;have b3:=hbk.deeds.2.1;refine t_blk (fun vs h'=>vs=[.bool false]/\h=h') ?_ ?_
 ·repeat' first
   | refine t_cond (fun _=>?_) (fun _=>?_)
   | exact t_again ⟨rfl,rfl⟩
   | (refine gI ?_;refine gZ ?_;exact t_ret ⟨rfl,_,rfl⟩)
 rintro vs _ ⟨rfl,rfl⟩;refine gZ ?_;refine t_loopB (fun mm vs h'=>h=h'/\∃ i:Nat,vs=[.bool false,.int .i64 i]/\i<=f.n0/\mm=f.n0-i) (fun vs h'=>h=h'/\∃ i:Nat,vs=[.bool false,.int .i64 i]) ⟨rfl,0,rfl,Nat.zero_le _,rfl⟩ ?_ ?_
 ·rintro Y mm vs _ hY ⟨rfl,i,rfl,hi,rfl⟩;refine gZ ?_;refine t_if (fun e1=>?_) (fun e1=>gH ⟨rfl,i,rfl⟩);obtain⟨y,a,hy,ha,e2⟩:=hbk.owners.at (i:=i) (by omega);unfold StrE at e2;rw[add_zero']at e2;have hin:0<=(i:Int)/\(i:Int)<(f.n0:Int):=by omega
  refine gZ ?_;refine t_loadStr (by rw[Int.toNat_natCast];exact e2) ?_;refine t_lenStr und9 ?_;refine yJ (fun e3=>?_) (fun e3=>?_)
  ·refine gI ?_;refine gZ ?_;exact t_ret ⟨rfl,_,rfl⟩
  ·refine t_again (hY (f.n0-(i+1)) _ _ (by omega) ⟨rfl,i+1,?_,by omega,rfl⟩);rw[wrap_id (by omega) (by omega)];rfl
 rintro vs _ ⟨rfl,i,rfl⟩;refine gZ ?_;refine t_loopB (fun mm vs h'=>h=h'/\∃ i:Nat,vs=[.bool false,.int .i64 i]/\i<=f.n1/\mm=f.n1-i) (fun vs h'=>h=h'/\∃ i:Nat,vs=[.bool false,.int .i64 i]) ⟨rfl,0,rfl,Nat.zero_le _,rfl⟩ ?_ ?_
 ·rintro Y mm vs _ hY ⟨rfl,i,rfl,hi,rfl⟩;refine gZ ?_;refine t_if (fun e1=>?_) (fun e1=>gH ⟨rfl,i,rfl⟩);obtain⟨y,a,hy,ha,e2⟩:=hbk.lands.at (i:=i) (by omega);unfold StrE at e2;rw[add_zero']at e2;have hin:0<=(i:Int)/\(i:Int)<(f.n1:Int):=by omega
  refine gZ ?_;refine t_loadStr (by rw[Int.toNat_natCast];exact e2) ?_;refine t_lenStr und9 ?_;refine yJ (fun e3=>?_) (fun e3=>?_)
  ·refine gI ?_;refine gZ ?_;exact t_ret ⟨rfl,_,rfl⟩
  ·refine t_again (hY (f.n1-(i+1)) _ _ (by omega) ⟨rfl,i+1,?_,by omega,rfl⟩);rw[wrap_id (by omega) (by omega)];rfl
 rintro vs _ ⟨rfl,i,rfl⟩;refine gZ ?_;refine t_loopB (fun mm vs h'=>h=h'/\∃ i:Nat,vs=[.bool false,.int .i64 i]/\i<=f.n2/\mm=f.n2-i) (fun vs h'=>h=h'/\∃ i:Nat,vs=[.bool false,.int .i64 i]) ⟨rfl,0,rfl,Nat.zero_le _,rfl⟩ ?_ ?_
 ·rintro Y mm vs _ hY ⟨rfl,i,rfl,hi,rfl⟩;refine gZ ?_;refine t_if (fun e1=>?_) (fun e1=>gH ⟨rfl,i,rfl⟩);obtain⟨y,a,hy,ha,k0,k1,k2,q,n,c,k3,sl0⟩:=hbk.rights.at (i:=i) (by omega);have hin:0<=(i:Int)/\(i:Int)<(f.n2:Int):=by omega
  refine gZ ?_;refine t_loadStr k0 ?_;refine t_lenStr und9 ?_;refine yJ (fun e3=>?_) (fun e3=>?_)
  ·refine gI ?_;refine gZ ?_;exact t_ret ⟨rfl,_,rfl⟩
  refine yJ (fun e3=>?_) (fun e3=>?_)
  ·refine gI ?_;refine gZ ?_;exact t_ret ⟨rfl,_,rfl⟩
  ·refine t_again (hY (f.n2-(i+1)) _ _ (by omega) ⟨rfl,i+1,?_,by omega,rfl⟩);rw[wrap_id (by omega) (by omega)];rfl
 rintro vs _ ⟨rfl,i,rfl⟩;refine gZ ?_;refine t_loopB (fun mm vs h'=>h=h'/\∃ i:Nat,vs=[.bool false,.int .i64 i]/\i<=f.n3/\mm=f.n3-i) (fun vs h'=>h=h'/\∃ i:Nat,vs=[.bool false,.int .i64 i]) ⟨rfl,0,rfl,Nat.zero_le _,rfl⟩ ?_ ?_
 ·rintro Y mm vs _ hY ⟨rfl,i,rfl,hi,rfl⟩;refine gZ ?_;refine t_if (fun e1=>?_) (fun e1=>gH ⟨rfl,i,rfl⟩);obtain⟨y,a,hy,ha,k0,k1,k2,k3,k4,⟨q,n,c',k5,sl0⟩,k6,k7⟩:=hbk.deeds.at (i:=i) (by omega);have hin:0<=(i:Int)/\(i:Int)<(f.n3:Int):=by omega
  refine gZ ?_;refine t_loadStr k0 ?_;refine t_lenStr und9 ?_;refine yJ (fun e3=>?_) (fun e3=>?_)
  ·refine gI ?_;refine gZ ?_;exact t_ret ⟨rfl,_,rfl⟩
  refine yJ (fun e3=>?_) (fun e3=>?_)
  ·refine gI ?_;refine gZ ?_;exact t_ret ⟨rfl,_,rfl⟩
  ·refine t_again (hY (f.n3-(i+1)) _ _ (by omega) ⟨rfl,i+1,?_,by omega,rfl⟩);rw[wrap_id (by omega) (by omega)];rfl
 rintro vs _ ⟨rfl,i,rfl⟩;refine gZ ?_;exact t_ret ⟨rfl,_,rfl⟩
theorem c3503{h:LH}(hk:TitleK h.get){f:TC}{x:TF}(hx:TreatyR h.get f x)(hcx:checkT x=0){g:BookC}{b:Book}(hbk:BookR h.get g b)(ok:BookOk b)(hno:0<b.owners.length)(hnl:0<b.lands.length){r:Int}(hr:0<=r/\r<b.rights.length){pp:Option Addr}{pn pc:Nat}{picks:List Int}(hp:Sl U16E 1 h.get pp pn picks) :
  Gr Tryz.prog 9 #[treatyV f x,bookV g,r,.slice pp pn pc] h fun v h'=>∃ f',v=.tuple #[treatyV f' { x with events:=Ow.ownedL (Ow.ownerF b r) b.owners.length b.lands.length picks 0 x.events },.bool true]/\TreatyR h'.get f' { x with events:=Ow.ownedL (Ow.ownerF b r) b.owners.length b.lands.length picks 0 x.events }:=by
 refine w3503 _ _ _ _ _ _ _ _ _ _ _ _ _ _ _ _ _ _ _ _ _ _ _ _ _ X0_ok ?_;unfold n3503;have n0:=hbk.owners.1;have n1:=hbk.lands.1;have m0:=ok.owners.many;have m1:=ok.lands.many;have hs:=hx.2;have hn:=hs.1;have hnum:=check_numbers hcx;refine t_loopB (fun mm vs h'=>h.le h'/\∃ (j:Nat) (p:Option Addr) (n c:Nat) (acc:List Ev),vs=[.bool false,.int .i64 j,.int .i64 0,.int .i64 0,.int .i64 0,.int .i64 0,.int .i64 0,.int .i64 0,.slice none 0 0,.int .i64 x.items,.int .i64 x.lands,.int .i64 x.start,.int .i64 x.depend,.int .i64 x.refuse,.int .i64 x.turn,.slice p n c]/\j<=f.n/\mm=f.n-j/\acc.length<=j/\Growing (EventEnc h.get) 49 5 h.get h'.get p n c acc/\acc++Ow.ownedL (Ow.ownerF b r) b.owners.length b.lands.length picks j (x.events.drop j)=Ow.ownedL (Ow.ownerF b r) b.owners.length b.lands.length picks 0 x.events)
  (fun vs h'=>h.le h'/\∃ (j:Nat) (p:Option Addr) (n c:Nat),vs=[.bool false,.int .i64 j,.int .i64 0,.int .i64 0,.int .i64 0,.int .i64 0,.int .i64 0,.int .i64 0,.slice none 0 0,.int .i64 x.items,.int .i64 x.lands,.int .i64 x.start,.int .i64 x.depend,.int .i64 x.refuse,.int .i64 x.turn,.slice p n c]/\Growing (EventEnc h.get) 49 5 h.get h'.get p n c (Ow.ownedL (Ow.ownerF b r) b.owners.length b.lands.length picks 0 x.events))
  ⟨LH.le_refl _,0,none,0,0,[],rfl,Nat.zero_le _,rfl,Nat.le_refl _,Growing.nil,rfl⟩ ?_ ?_
 ·rintro Y mm vs h1 hY ⟨le1,j,p,n,c,acc,rfl,hj,rfl,hacc,gr,he⟩;have hng:=gr.count EventEnc.len (by omega);refine yJ (fun e1=>?_) (fun e1=>?_)
  ·obtain⟨e,a,hev,ha,g0,g1,g2,⟨q,m,cc,g3,g6,g5⟩,g4⟩:=hs.at (i:=j) (by omega);have eok:=event_ok.1 (check_event hcx e (List.mem_of_getElem? hev));have hws:EventEnc h.get e (evCells e q m cc):=⟨q,m,cc,rfl,g6,g5⟩
   have g0:=Cells.cell?_le le1.1 g0;have g1:=Cells.cell?_le le1.1 g1;have g2:=Cells.cell?_le le1.1 g2;have g3:=Cells.cell?_le le1.1 g3;have g4:=Cells.cell?_le le1.1 g4;have hin:0<=(j:Int)/\(j:Int)<(f.n:Int):=by omega
   have hn1:(g.n1:Int)≠0:=by omega
   have hn0:(g.n0:Int)≠0:=by omega
   have eday:=eok.day;have eland:=eok.land;rw[drop_at hev,Ow.ownedL,<- List.append_assoc]at he;refine gZ ?_;have t1:0<=Int.tmod e.land (g.n1:Int)/\Int.tmod e.land (g.n1:Int)<b.lands.length:=by
    rw[n1];exact⟨Int.tmod_nonneg _ eland.1,Int.tmod_lt_of_pos _ (by omega)⟩
   have t2:0<=(if e.day<99999 then e.day else 99999)/\(if e.day<99999 then e.day else 99999)<=99999:=by split<;>omega
   refine t_gr (c3507 (hk.le le1.1) (hbk.le le1.1) ok hr t1 t2) ?_;rintro _ h2 le2 rfl;have le02:=LH.le_trans le1 le2;refine yF ?_;refine t_blk (fun vs h'=>vs=[.bool (e.kind==0||e.kind==3||e.kind==5||e.kind==6)]/\h2=h') ?_ ?_
   ·refine t_cond (fun e1=>t_again ⟨by rw[e1];rfl,rfl⟩) (fun e1=>?_);refine t_cond (fun e2=>t_again ⟨by rw[e1,e2];rfl,rfl⟩) (fun e2=>?_);refine t_cond (fun e3=>t_again ⟨by rw[e1,e2,e3];rfl,rfl⟩) (fun e3=>?_);exact t_again ⟨by rw[e1,e2,e3];rfl,rfl⟩
   rintro vs _ ⟨rfl,rfl⟩;have put:∀ {K:Option Addr->Nat->Nat->T} {Q:Leaf->LH->Prop},(∀ p' c' h',h.le h'->Growing (EventEnc h.get) 49 5 h.get h'.get p' (n+1) c' (acc++[e])->(K p' (n+1) c').wp X0 Tryz.prog Q h')->(T.sem false (Instr.buildSlice 22 1 #[(0,.agg #[.int .i64 e.kind,.int .i64 e.day,.int .i64 e.land,.slice q m cc,.int .i64 e.since])]) fun v=>T.unS v fun a n' c'=>T.sem false (Builtin.append_ #[22,22] 22 #[.slice p n c,.slice a n' c']) fun v=>T.unS v K).wp X0 Tryz.prog Q h2:=fun hK=>by
    refine t_buildR (evCells e q m cc) undEvs infEv (by decide) (by decide) (by kernel_rfl) ?_;intro r7 h7 le7 _ hr7;refine gZ ?_;refine t_growR (h₀:=h) (Enc:=EventEnc h.get) e (evCells e q m cc) rfl rfl undEvs infEv rfl (by omega) (by omega) ((gr.le le2.1).le le7.1) (LH.le_trans le02 le7) hws rfl hr7 (ev_one e q m cc) ?_;intro p' c' h8 le8 kp8 g8;refine gZ ?_;exact hK p' c' h8 le8 g8
   have yes:Ow.keepsE (Ow.ownerF b r) b.owners.length b.lands.length picks j e=true->∀ p' c' h',h.le h'->Growing (EventEnc h.get) 49 5 h.get h'.get p' (n+1) c' (acc++[e])->Y [.bool false,.int .i64 (wrap .i64 ((j:Int)+1)),.int .i64 0,.int .i64 0,.int .i64 0,.int .i64 0,.int .i64 0,.int .i64 0,.slice none 0 0,.int .i64 x.items,.int .i64 x.lands,.int .i64 x.start,.int .i64 x.depend,.int .i64 x.refuse,.int .i64 x.turn,.slice p' (n+1) c'] h':=fun hkp p' c' h' le' g'=>by
    rw[if_pos hkp]at he;refine hY (f.n-(j+1)) _ _ (by omega) ⟨le',j+1,p',n+1,c',acc++[e],?_,by omega,rfl,by simp;omega,g',he⟩;rw[wrap_id (by omega) (by omega)];rfl
   refine yI (fun e3=>?_) (fun e3=>?_)
   ·have hkp:Ow.keepsE (Ow.ownerF b r) b.owners.length b.lands.length picks j e=true:=by
     unfold Ow.keepsE;rw[e3];rfl
    refine t_both ?_ ?_
    ·refine gZ ?_;refine put fun p' c' h' le' g'=>?_;refine gZ ?_;exact t_again (yes hkp p' c' h' le' g')
    ·refine gZ ?_;refine put fun p' c' h' le' g'=>?_;refine gZ ?_;exact t_again (yes hkp p' c' h' le' g')
   ·refine t_pu (c3508 (hp.le U16E.grow le02.1) j) ?_;refine yI (fun e4=>?_) (fun e4=>?_)
    ·have hkp:Ow.keepsE (Ow.ownerF b r) b.owners.length b.lands.length picks j e=true:=by
      unfold Ow.keepsE;rw[e3,Bool.false_or,<- n0,<- n1];exact e4
     refine put fun p' c' h' le' g'=>?_;refine gZ ?_;exact t_again (yes hkp p' c' h' le' g')
    ·have hkp:¬ Ow.keepsE (Ow.ownerF b r) b.owners.length b.lands.length picks j e=true:=by
      unfold Ow.keepsE;rw[e3,Bool.false_or,<- n0,<- n1,e4];simp
     rw[if_neg hkp,List.append_nil]at he;refine t_again (hY (f.n-(j+1)) _ _ (by omega) ⟨le02,j+1,p,n,c,acc,?_,by omega,rfl,by omega,gr.le le2.1,he⟩);rw[wrap_id (by omega) (by omega)];rfl
  ·rw[List.drop_eq_nil_of_le (by omega),Ow.ownedL,List.append_nil]at he;exact gH ⟨le1,j,p,n,c,rfl,by rw[<- he];exact gr⟩
 ·rintro vs h1 ⟨le1,j,p,n,c,rfl,gr⟩;refine gZ ?_;have hlen:=Ow.ownedL_len (who:=Ow.ownerF b r) (no:=b.owners.length) (nl:=b.lands.length) (picks:=picks) x.events 0;refine t_ret ⟨le1,⟨p,n,c⟩,rfl,?_⟩;obtain⟨_,o,_⟩:=gr.row;exact⟨o.le_cap,gr.sl EventEnc.len (by omega) (EventEnc.e (Rd.of_le le1.1)) (by show (Ow.ownedL _ _ _ _ _ _).length<_;omega)⟩
end Go.Y.Tre
end

/- Contracts and laws for the proof, joined by a program. No condition. -/
import Derived.Test.YtfkfohpnpljihaaGreatDoorM4
set_option linter.all false
noncomputable section
open Go.IntKind (wrap)
namespace Go.Proofs.YtfkfohpnpljihaaGreatDoor
section
open Go Go.TM Go.Proofs
attribute [local irreducible] T.wp CV FWK
def MapIs (h:Cells) (a:Nat) (R:Nat -> Prop):Prop := ∃ es,MapAt h a es /\ (∀ e ∈ es.toList,∃ n:Nat,e.key = .int .i64 n /\ e.val = .bool true /\ R n) /\ ∀ n,R n -> ∃ e ∈ es.toList,e.key = .int .i64 (n:Int)
theorem MapIs.isMap {h:Cells} {a:Nat} {R:Nat -> Prop} (m:MapIs h a R):∃ es c,h a = some (true,.map es c) := by obtain ⟨es,⟨c,h1⟩,_⟩ := m; exact ⟨es,c,h1⟩
theorem MapIs.mv {m a:Nat} {h h':LH} {R:Nat -> Prop} (hne:a ≠ m) (mv:Mv m h h') (hm:MapIs h.get a R):MapIs h'.get a R := by
 obtain ⟨es,⟨c,h1⟩,h2⟩ := hm;exact ⟨es,⟨c,mv.keep _ _ hne h1⟩,h2⟩
theorem MapIs.congr {h:Cells} {a:Nat} {R R':Nat -> Prop} (hm:MapIs h a R) (hR:∀ n,R n ↔ R' n):MapIs h a R' := by
 obtain ⟨es,h1,h2,h3⟩ := hm;refine ⟨es,h1,fun e he => ?_,fun n hn => h3 n ((hR n).2 hn)⟩;obtain ⟨n,a,b,c⟩ := h2 e he;exact ⟨n,a,b,(hR n).1 c⟩
theorem MapIs.keys {h:Cells} {a:Nat} {es:Array MapEntry} {R:Nat -> Prop} (h2:∀ e ∈ es.toList,∃ n:Nat,e.key = .int .i64 n /\ e.val = .bool true /\ R n):∀ e ∈ es.toList,IsKey Tryz.prog 3 e.key := fun e he => by
 obtain ⟨n,h,_⟩ := h2 e he; exact .inl ⟨i64_3,n,h⟩
theorem t_lookSet {X:XP} {Q:Leaf -> LH -> Prop} {h:LH} {K:Value -> T} {a:Nat} {R:Nat -> Prop} (hm:MapIs h.get a R) {n:Nat} (h1:R n -> (K (.bool true)).wp X Tryz.prog Q h) (h2:¬ R n -> (K (.bool false)).wp X Tryz.prog Q h):(T.sem false (Instr.lookup 163 (.map (some a)) (.int .i64 n) false) K).wp X Tryz.prog Q h := by
 obtain ⟨es,hat,e1,e2⟩ := hm;refine t_lookup und138 inf4 hat (.inl ⟨i64_3,_,rfl⟩) (MapIs.keys (h := h.get) (a := a) e1) (fun e he hk => ?_) fun hno => ?_
 ·obtain ⟨n',g1,g2,g3⟩ := e1 e he;rw [hk] at g1;have:n = n' := by simp at g1; omega
  subst this;rw [g2];exact h1 g3
 ·refine h2 fun hr => ?_;obtain ⟨e,he,hk⟩ := e2 n hr;exact hno e he hk
theorem t_addSet {X:XP} {Q:Leaf -> LH -> Prop} {h:LH} {K:Value -> T} {a:Nat} {R:Nat -> Prop} (hm:MapIs h.get a R) {n:Nat} (hk:∀ es c,MapIs (h.get.upd a (true,.map es c)) a (fun x => R x \/ x = n) -> (K undef).wp X Tryz.prog Q { h with get := h.get.upd a (true,.map es c) }) :
  (T.sem false (Sem.bind (Instr.mapUpdate 163 (.map (some a)) (.int .i64 n) (.bool true)) fun _ => pure (.tuple #[])) K).wp X Tryz.prog Q h := by
 obtain ⟨es,hat,e1,e2⟩ := hm;refine t_mapUpdate und138 hat (.inl ⟨i64_3,_,rfl⟩) (MapIs.keys (h := h.get) (a := a) e1) fun es' c g1 g2 g3 => hk es' c ⟨es',⟨c,Cells.upd_self _ _ _⟩,fun e he => ?_,fun x hx => ?_⟩
 ·rcases g1 e he with ⟨k1,k2⟩ | k1
  ·exact ⟨n,k1,k2,.inr rfl⟩
  ·obtain ⟨n',a,b,c⟩ := e1 e k1;exact ⟨n',a,b,.inl c⟩
 ·rcases hx with hx | rfl
  ·obtain ⟨e,he,hke⟩ := e2 x hx;obtain ⟨e',he',hk'⟩ := g3 e he;exact ⟨e',he',hk'.trans hke⟩
  ·exact g2
theorem rd_updMap {h:Cells} {a:Nat} {es':Array MapEntry} {c:Nat} (hm:∃ es c,h a = some (true,.map es c)):Rd h (h.upd a (true,.map es' c)) := by
 intro x v hc;have hne:x.block ≠ a := by
  intro e;obtain ⟨es,c,hm⟩ := hm;unfold Cells.cell? at hc;rw [e,hm] at hc; cases hc
 unfold Cells.cell? at hc ⊢;rw [Cells.upd_ne _ _ hne]; exact hc
theorem desk_other {h:Cells} {d m a:Nat} {f:FileC} {u:UseFile} (k:Desk h d m f u) (hne:a ≠ m) (hm:∃ es c,h a = some (true,.map es c)) {es':Array MapEntry} {c:Nat}:Desk (h.upd a (true,.map es' c)) d m f u := by
 have hr := rd_updMap (es' := es') (c := c) hm;refine ⟨k.file.rd hr,k.rep.rd hr,fun j hj => hr _ _ (k.counts j hj),hr _ _ k.mapp,?_⟩;obtain ⟨es,c',h1,h2⟩ := k.map;exact ⟨es,c',by rw [Cells.upd_ne _ _ (Ne.symm hne)]; exact h1,h2⟩
theorem mv_other {m a:Nat} {h h':LH} (mv:Mv m h h') (hno:h.get a = none) (hne:a ≠ m) {es:Array MapEntry} {c:Nat}:Mv m h { h' with get := h'.get.upd a (true,.map es c) } := by
 refine ⟨fun r x hr hx => ?_,fun es c hm => ?_,mv.same⟩
 ·have:r ≠ a := by rintro rfl; rw [hno] at hx; cases hx
  show Cells.upd _ _ _ r = _;rw [Cells.upd_ne _ _ this]; exact mv.keep r x hr hx
 ·obtain ⟨es',c',h1⟩ := mv.isMap es c hm;exact ⟨es',c',by show Cells.upd _ _ _ m = _; rw [Cells.upd_ne _ _ (Ne.symm hne)]; exact h1⟩
section
variable {X:XP} {Q:Leaf -> LH -> Prop} {h h':LH} {d m:Nat} {f:FileC} {u:UseFile} {o:Option (Nat × (Nat -> Prop))}
structure St (h:LH) (d m:Nat) (f:FileC) (u:UseFile) (h':LH) (o:Option (Nat × (Nat -> Prop))):Prop where
 mv:Mv m h h'
 desk:Desk h'.get d m f u
 made:∀ a R,o = some (a,R) -> MapIs h'.get a R /\ a ≠ m /\ h.get a = none
theorem s_from (s:St h d m f u h' o) {k:Int -> T} (hk:(k u.from_).wp X Tryz.prog Q h'):(T.loadI .i64 (Addr.add (Addr.add (Addr.add ⟨d,0,none⟩ 0) 0) 2) k).wp X Tryz.prog Q h' := gL0 s.desk.file.f2 hk
theorem s_make (hm:∃ es c,h.get m = some (true,.map es c)) (s:St h d m f u h' none) {k:Value -> T} (hk:∀ a h'',St h d m f u h'' (some (a,fun _ => False)) -> (k (.map (some a))).wp X Tryz.prog Q h''):(T.sem false (Instr.makeMap 163 none) k).wp X Tryz.prog Q h' := by
 refine t_makeMap fun a ha => hk a _ ?_;have le1:h'.le _ := LH.upd_le (x := (true,.map #[] 0)) ha;have hno:h.get a = none := by
  cases hx:h.get a with
  | none => rfl
  | some x =>
   by_cases e:a = m
   ·subst e;obtain ⟨es,c,hm⟩ := hm;obtain ⟨es',c',h1⟩ := s.mv.isMap es c hm;rw [h1] at ha; cases ha
   ·rw [s.mv.keep a x e hx] at ha; cases ha
 have hne:a ≠ m := by rintro rfl; obtain ⟨es,c,hm⟩ := hm; rw [hm] at hno; cases hno
 refine ⟨s.mv.trans (Mv.of_le le1),s.desk.le le1.1,fun a' R e => ?_⟩;cases e;exact ⟨⟨#[],⟨0,Cells.upd_self _ _ _⟩,fun e he => by simp at he,fun n hn => hn.elim⟩,hne,hno⟩
theorem s_call (hck:checkF u = 0) (hm:∃ es c,h.get m = some (true,.map es c)) (s:St h d m f u h' o) {p:Option Addr} {n c:Nat} {l:List Request} (hl:Sl RequestE 3 h.get p n l) (hl4:l.length <= 4) (hdays:∀ r ∈ l,0 <= r.day /\ r.day <= 2000) {day:Int} {k:Value -> T} (hk:∀ h'',St h d m f u h'' o -> (k (.int .i64 (meets u l day))).wp X Tryz.prog Q h''):(T.call false 183 #[.pointer (some ⟨d,0,none⟩),.slice p n c,.int .i64 day] k).wp X Tryz.prog Q h' := by
 refine t_de (c107 s.desk hck (hl.rd RequestE.grow (s.mv.rd hm)) hl4 hdays day) ?_;rintro _ h'' mv k2 rfl;refine hk h'' ⟨s.mv.trans mv,k2,fun a R e => ?_⟩;obtain ⟨a1,a2,a3⟩ := s.made a R e;exact ⟨a1.mv a2 mv,a2,a3⟩
theorem s_add {a:Nat} {R:Nat -> Prop} (s:St h d m f u h' (some (a,R))) {n:Nat} {K:Value -> T} (hk:∀ h'',St h d m f u h'' (some (a,fun x => R x \/ x = n)) -> (K undef).wp X Tryz.prog Q h'') :
  (T.sem false (Sem.bind (Instr.mapUpdate 163 (.map (some a)) (.int .i64 n) (.bool true)) fun _ => pure (.tuple #[])) K).wp X Tryz.prog Q h' := by
 obtain ⟨a1,a2,a3⟩ := s.made a R rfl;refine t_addSet a1 fun es c hm => hk _ ⟨mv_other s.mv a3 a2,desk_other s.desk a2 a1.isMap,fun a' R' e => ?_⟩;cases e;exact ⟨hm,a2,a3⟩
end
theorem meets_lt (u:UseFile) (day:Int):∀ (l:List Request) (k acc:Nat),acc < 2 ^ (k + l.length) -> meetsGo u day l k acc < 2 ^ (k + l.length) := by
 intro l
 induction l with
 | nil => intro k acc h; exact h
 | cons r l ih =>
  intro k acc h;rw [meetsGo];have e:k + (r :: l).length = k + 1 + l.length := by simp; omega
  rw [e] at h ⊢;refine ih _ _ ?_;split
  ·exact Nat.or_lt_two_pow h (Nat.pow_lt_pow_right (by omega) (by omega))
  ·exact h
theorem meets_lt' (u:UseFile) (l:List Request) (day:Int):meets u l day < 2 ^ l.length := by
 have := meets_lt u day l 0 0 (Nat.two_pow_pos _);rw [Nat.zero_add] at this; exact this
theorem or_small {a b:Nat} (ha:a < 16) (hb:b < 16):wrap .i64 (((BitVec.ofInt 64 (a:Int) ||| BitVec.ofInt 64 (b:Int)).toNat:Nat):Int) = ((a ||| b:Nat):Int) := by
 have h1:(BitVec.ofInt 64 (a:Int)).toNat = a := by rw [BitVec.toNat_ofInt]; omega
 have h2:(BitVec.ofInt 64 (b:Int)).toNat = b := by rw [BitVec.toNat_ofInt]; omega
 rw [BitVec.toNat_or,h1,h2];have h3:a ||| b < 2 ^ 4 := Nat.or_lt_two_pow (by omega) (by omega);exact wrap_id (by omega) (by omega)
theorem c102 {h:LH} {d m:Nat} {f:FileC} {u:UseFile} (k:Desk h.get d m f u) (hck:checkF u = 0) {p:Option Addr} {n c:Nat} {l:List Request} (hl:Sl RequestE 3 h.get p n l) (hl4:l.length <= 4) (hdays:∀ r ∈ l,0 <= r.day /\ r.day <= 2000) (land item:Int) :
  De 145 #[.pointer (some ⟨d,0,none⟩),.int .i64 land,.int .i64 item,.slice p n c] h d m f u fun r _ => r = .bool (!can u land item l) := by
 refine w102 _ _ _ _ _ _ X0_ok ?_;unfold n102;have hn := hl.1;have hm := k.isMap;refine gZ ?_;refine t_blk (fun vs h' => ∃ a,vs = [.map (some a)] /\ St h d m f u h' (some (a,fun x => False \/ x = meets u l u.from_))) ?_ ?_
 ·have s0:St h d m f u h none := ⟨Mv.refl,k,fun a R e => by cases e⟩
  refine gZ ?_
  repeat' (first
   | refine t_both ?_ ?_
   | (refine s_make hm (by assumption) fun a hx s => ?_)
   | (refine s_call hck hm (by assumption) hl hl4 hdays fun hx s => ?_)
   | (refine s_add (by assumption) fun hx s => ?_)
   | (refine s_from (by assumption) ?_)
   | (with_reducible refine gD ?_) | (with_reducible refine gP ?_) | ((with_reducible apply gT); first | exact rfl | exact True.intro) | ((with_reducible apply gS2); exact rfl)
   | (refine t_again ⟨_,rfl,by assumption⟩))
 ·rintro vs h₁ ⟨a0,rfl,s1⟩;refine gZ ?_;obtain ⟨am,ane,ano⟩ := s1.made a0 _ rfl;refine t_gr (c88 _ _ _) ?_;rintro _ h₂ le2 ⟨z0,z1,z2,rfl,hz0,hz1,hz2⟩;have k2 := s1.desk.le le2.1;have hm2 := k2.isMap;let h₀:LH := { h₂ with get := fun b => if b = m then none else h₂.get b }
  have le0:h₀.le h₂ := ⟨fun b x hb => by
   show h₂.get b = some x;have hb':(if b = m then none else h₂.get b) = some x := hb;split at hb'
   ·cases hb'
   ·exact hb',rfl,rfl,rfl⟩
  have rd0:Rd h₂.get h₀.get := by
   intro x v hc;have hne:x.block ≠ m := by
    intro e;obtain ⟨es,c,hm⟩ := hm2;unfold Cells.cell? at hc;rw [e,hm] at hc; cases hc
   unfold Cells.cell? at hc ⊢;have e0:h₀.get x.block = h₂.get x.block := if_neg hne;rw [e0]; exact hc
  obtain ⟨L,hL1,hL2,hH⟩ := hands99 X0_ok (rd0 _ _ hz0) (rd0 _ _ hz1) (rd0 _ _ hz2) (rd0 _ _ k2.file.f5) (k2.rep.papers.rd PaperE.grow rd0);have mv2 := s1.mv.trans (Mv.of_le (m := m) le2);have hcan:∀ R,reachL u l (shown u land item) [meets u l u.from_] = reachL u l [] R -> can u land item l = R.contains (2 ^ l.length - 1) := by
   intro R e; unfold can; rw [e]; rfl
  have hpw:(2:Nat) ^ l.length <= 16 := by
   have:(2:Nat) ^ l.length <= 2 ^ 4 := Nat.pow_le_pow_right (by omega) hl4;omega
  have hpw1:0 < (2:Nat) ^ l.length := Nat.two_pow_pos _;have hm1:(1 * 2 ^ min (n:Int).toNat 64:Int) = ((2 ^ l.length:Nat):Int) := by
   have:min (n:Int).toNat 64 = l.length := by rw [hn]; simp; omega
   rw [this]; simp
  generalize hP:(2:Nat) ^ l.length = pw at hpw hpw1 hm1;have hall:wrap .i64 (wrap .i64 (1 * 2 ^ min (n:Int).toNat 64) - 1) = ((pw - 1:Nat):Int) := by
   rw [hm1,wrap_id (n := (pw:Int)) (by omega) (by omega),wrap_id (by omega) (by omega)]; omega
  have hall2:wrap .i64 (((pw - 1:Nat):Int) + 1) = (pw:Int) := by
   rw [wrap_id (by omega) (by omega)]; omega
  simp only [hall,hall2];refine t_each le0 hH (fun i vs h' => Mv m h h' /\ Desk h'.get d m f u /\ ∃ a R,vs = [.map (some a)] /\ a ≠ m /\ MapIs h'.get a (fun x => x ∈ R) /\ (∀ s ∈ R,s < pw) /\ reachL u l (shown u land item) [meets u l u.from_] = reachL u l ((shown u land item).drop i) R)
   ⟨mv2,k2,a0,[meets u l u.from_],rfl,ane,(am.mv ane (Mv.of_le (m := m) le2)).congr (fun x => by simp),by intro s hs; simp at hs; subst hs; rw [<- hP]; exact meets_lt' u l _,rfl⟩ ?_ ?_
  ·rintro vs h₃ hle ⟨mv3,k3,a,R,rfl,hne,hmap,hR,hc⟩;rw [List.drop_eq_nil_of_le (by rw [hL1]; exact Nat.le_refl _)] at hc;have hcan' := hcan R hc;rw [hP] at hcan';refine gZ ?_;refine t_lookSet hmap (fun hin => ?_) fun hnot => ?_
   ·refine gZ ?_;refine t_ret ⟨mv3,k3,?_⟩;rw [hcan'];have:R.contains (pw - 1) = true := by simpa using hin
    rw [this]
   ·refine gZ ?_;refine t_ret ⟨mv3,k3,?_⟩;rw [hcan'];have:R.contains (pw - 1) = false := by simpa using hnot
    rw [this]
  ·rintro i xs vs h₃ hi hle ⟨mv3,k3,a,R,rfl,hne,hmap,hR,hc⟩ Y hY;obtain ⟨x,q,nq,cq,hx,rfl,hit⟩ := hL2 i xs hi;have hx':(shown u land item)[i]? = some x := hx;have hxp := (check_papers hck).2 x (List.mem_filter.1 (List.mem_of_getElem? hx')).1;rw [drop_of hx',reachL] at hc;unfold paperV;refine gZ ?_;have hm3 := k3.isMap;refine t_makeMap fun b hb => ?_;refine gZ ?_;have le4:h₃.le _ := LH.upd_le (x := (true,.map #[] 0)) hb;have hbm:b ≠ m := by rintro rfl; obtain ⟨es,c,hm3⟩ := hm3; rw [hm3] at hb; cases hb
   have hba:b ≠ a := by rintro rfl; obtain ⟨es,c,ha⟩ := hmap.isMap; rw [ha] at hb; cases hb
   -- the days of the paper
   refine t_loop (fun mm vs h' => Mv m h₃ h' /\ h₀.le h' /\ Desk h'.get d m f u /\ ∃ dy:Int,vs = [.int .i64 dy] /\ x.days.first <= dy /\ dy <= x.days.last + 1 /\ mm = (x.days.last + 1 - dy).toNat /\ MapIs h'.get b (fun y => ∃ s ∈ R,∃ e:Int,x.days.first <= e /\ e < dy /\ y = s ||| meets u l e))
    ⟨Mv.of_le le4,LH.le_trans hle le4,k3.le le4.1,x.days.first,rfl,by omega,by omega,rfl,⟨#[],⟨0,Cells.upd_self _ _ _⟩,fun e he => by simp at he,fun y hy => by obtain ⟨s,_,e,h1,h2,_⟩ := hy; omega⟩⟩ ?_
   rintro Y2 mm vs h₅ hY2 ⟨mv5,le5,k5,dy,rfl,hd1,hd2,rfl,hmb⟩;refine gZ ?_;refine t_if (fun e1 => ?_) (fun e1 => ?_)
   ·have hl5 := hl.rd RequestE.grow (Mv.rd hm (mv3.trans mv5));refine t_de (c107 k5 hck hl5 hl4 hdays dy) ?_;rintro _ h₆ mv6 k6 rfl;refine gZ ?_;have le6:h₀.le h₆ := ⟨fun r y hr => mv6.keep r y (by
     rintro rfl;have:(if r = r then none else h₂.get r) = some y := hr;simp at this) (le5.1 r y hr),mv6.same.1.trans le5.2.1,mv6.same.2.1.trans le5.2.2.1,mv6.same.2.2.trans le5.2.2.2⟩
    have hmt := meets_lt' u l dy;rw [hP] at hmt;refine t_loop (fun mm vs h' => Mv m h₃ h' /\ h₀.le h' /\ Desk h'.get d m f u /\ ∃ j:Nat,vs = [.int .i64 j] /\ j <= pw /\ mm = pw - j /\ MapIs h'.get b (fun y => (∃ s ∈ R,∃ e:Int,x.days.first <= e /\ e < dy /\ y = s ||| meets u l e) \/ ∃ s ∈ R,s < j /\ y = s ||| meets u l dy))
     ⟨mv5.trans mv6,le6,k6,0,rfl,Nat.zero_le _,rfl,(hmb.mv hbm mv6).congr fun y => ⟨.inl,fun h => by rcases h with h | ⟨s,_,h1,_⟩; exact h; omega⟩⟩ ?_
    rintro Y3 mm vs h₇ hY3 ⟨mv7,le7,k7,j,rfl,hj,rfl,hmb7⟩;refine gZ ?_;refine t_if (fun e2 => ?_) (fun e2 => ?_)
    ·have hma:MapIs h₇.get a (fun x => x ∈ R) := hmap.mv hne mv7;refine t_lookSet hma (fun hin => ?_) fun hnot => ?_
     ·refine gZ ?_;refine t_cond (fun _ => ?_) (fun e => by cases e);rw [or_small (by omega) (by omega)];refine t_addSet hmb7 fun es cc hnew => ?_;have mv8:Mv m h₃ { h₇ with get := h₇.get.upd b (true,.map es cc) } := mv_other mv7 hb hbm;have hb0:h₀.get b = none := by
       cases hx0:h₀.get b with
       | none => rfl
       | some y => rw [hle.1 _ _ hx0] at hb; cases hb
      refine t_again (hY3 (pw - (j + 1)) _ _ (by omega) ⟨mv8,⟨fun r y hr => ?_,le7.2⟩,desk_other k7 hbm hmb7.isMap,j + 1,?_,by omega,rfl,hnew.congr fun y => ?_⟩)
      ·have:r ≠ b := by rintro rfl; rw [hb0] at hr; cases hr
       show Cells.upd _ _ _ r = _;rw [Cells.upd_ne _ _ this]; exact le7.1 r y hr
      ·rw [wrap_id (by omega) (by omega)]; rfl
      ·constructor
       ·rintro ((h1 | ⟨s,h1,h2,h3⟩) | rfl)
        ·exact .inl h1
        ·exact .inr ⟨s,h1,by omega,h3⟩
        ·exact .inr ⟨j,hin,by omega,rfl⟩
       ·rintro (h1 | ⟨s,h1,h2,h3⟩)
        ·exact .inl (.inl h1)
        ·by_cases e:s = j
         ·subst e; exact .inr h3
         ·exact .inl (.inr ⟨s,h1,by omega,h3⟩)
     ·refine gZ ?_;refine t_cond (fun e => by cases e) (fun _ => ?_);refine t_again (hY3 (pw - (j + 1)) _ _ (by omega) ⟨mv7,le7,k7,j + 1,?_,by omega,rfl,hmb7.congr fun y => ?_⟩)
      ·rw [wrap_id (by omega) (by omega)]; rfl
      ·constructor
       ·rintro (h1 | ⟨s,h1,h2,h3⟩)
        ·exact .inl h1
        ·exact .inr ⟨s,h1,by omega,h3⟩
       ·rintro (h1 | ⟨s,h1,h2,h3⟩)
        ·exact .inl h1
        ·refine .inr ⟨s,h1,?_,h3⟩;have:s ≠ j := by rintro rfl; exact hnot h1
         omega
    ·refine gZ ?_;refine t_again (hY2 (x.days.last + 1 - (dy + 1)).toNat _ _ (by omega) ⟨mv7,le7,k7,dy + 1,?_,by omega,by omega,rfl,hmb7.congr fun y => ?_⟩)
     ·rw [wrap_id (by omega) (by omega)]
     ·constructor
      ·rintro (⟨s,h1,e,h2,h3,h4⟩ | ⟨s,h1,h2,h3⟩)
       ·exact ⟨s,h1,e,h2,by omega,h4⟩
       ·exact ⟨s,h1,dy,hd1,by omega,h3⟩
      ·rintro ⟨s,h1,e,h2,h3,h4⟩;by_cases he:e = dy
       ·subst he; exact .inr ⟨s,h1,by have := hR s h1; omega,h4⟩
       ·exact .inl ⟨s,h1,e,h2,by omega,h4⟩
   ·refine gZ ?_;have hdy:dy = x.days.last + 1 := by omega
    subst hdy;refine t_againE le5 (hY _ _ le5 ⟨mv3.trans mv5,k5,b,stepL ((daysOf x.days).map (meets u l)) R,rfl,hbm,hmb.congr fun y => ?_,?_,hc⟩)
    ·simp only [stepL,List.mem_flatMap,List.mem_map,daysOf,List.mem_range];constructor
     ·rintro ⟨s,h1,e,h2,h3,rfl⟩;exact ⟨s,h1,_,⟨e,⟨(e - x.days.first).toNat,by omega,by omega⟩,rfl⟩,rfl⟩
     ·rintro ⟨s,h1,_,⟨e,⟨i,h2,rfl⟩,rfl⟩,rfl⟩;exact ⟨s,h1,_,by omega,by omega,rfl⟩
    ·intro s hs;simp only [stepL,List.mem_flatMap,List.mem_map] at hs;obtain ⟨s0,h0,mm,⟨e,_,rfl⟩,rfl⟩ := hs;rw [<- hP];exact Nat.or_lt_two_pow (by rw [hP]; exact hR s0 h0) (meets_lt' u l e)
end
section
open Go Go.TM Go.Proofs
attribute [local irreducible] T.wp CV FWK
theorem against_sub {u:UseFile} {land item day:Int}:∀ r ∈ against u land item day,r ∈ u.requests := fun r hr => (List.mem_filter.1 hr).1
theorem against_len {u:UseFile} (hck:checkF u = 0) (land item day:Int):(against u land item day).length <= 4 := Nat.le_trans (List.length_filter_le _ _) (check_requests hck).1
theorem c91 {h:LH} {d m:Nat} {f:FileC} {u:UseFile} (k:Desk h.get d m f u) (hck:checkF u = 0) (land item day:Int) :
  De 107 #[.pointer (some ⟨d,0,none⟩),.int .i64 land,.int .i64 item,.int .i64 day] h d m f u fun r _ => r = .int .i64 (left u land item day) := by
 refine w91 _ _ _ _ X0_ok ?_;unfold n91;refine t_gr (c101 k hck land item day) ?_;rintro _ h₁ le1 ⟨p,n,c,rfl,hl⟩;have k1 := k.le le1.1;have hm1 := k1.isMap;have hdays:∀ r ∈ against u land item day,0 <= r.day /\ r.day <= 2000 := fun r hr => (check_requests hck).2 r (against_sub r hr);have hl4 := against_len hck land item day;refine gZ ?_;have hn := hl.1;refine t_loop (fun mm vs h' => Mv m h₁ h' /\ Desk h'.get d m f u /\ ∃ i:Nat,vs = [.bool true,.int .i64 i] /\ i <= n /\ mm = n - i /\ ∀ j r,j < i -> (against u land item day)[j]? = some r -> safe u land item r.day = 1)
  ⟨Mv.refl,k1,0,rfl,Nat.zero_le _,rfl,fun j r hj => by omega⟩ ?_
 rintro Y mm vs h₂ hY ⟨mv,k2,i,rfl,hi,rfl,hall⟩;refine gZ ?_;refine t_if (fun e1 => ?_) (fun e1 => ?_)
 ·obtain ⟨x,a,hx,ha,e2,e3,q,mq,cq,e4,e5⟩ := (hl.rd RequestE.grow (mv.rd hm1)).at (i := i) (by omega);refine gZ ?_;have hxd := hdays x (List.mem_of_getElem? hx);refine t_de (c60 k2 (check_num hck) land item x.day hxd) ?_;rintro _ h₃ mv3 k3 rfl;refine gZ ?_;refine t_cond (fun b => ?_) (fun b => ?_)
  ·refine gZ ?_;refine t_cond (fun e => by cases e) (fun _ => ?_);have mv13 := mv.trans mv3;refine t_de (c102 k3 hck (hl.rd RequestE.grow (mv13.rd hm1)) hl4 hdays land item) ?_;rintro _ h₄ mv4 k4 rfl;refine gZ ?_;have hne:safe u land item x.day ≠ 1 := by simpa using b
   have hnot:¬ ((against u land item day).all fun r => decide (safe u land item r.day = 1)) = true := by
    intro hh;have := List.all_eq_true.1 hh x (List.mem_of_getElem? hx);exact hne (by simpa using this)
   refine t_cond (fun e => ?_) (fun e => ?_)
   ·refine t_ret ⟨(Mv.of_le le1).trans (mv13.trans mv4),k4,?_⟩;have:can u land item (against u land item day) = false := by simpa using e
    rw [left,if_neg hnot,this]; rfl
   ·refine t_ret ⟨(Mv.of_le le1).trans (mv13.trans mv4),k4,?_⟩;have:can u land item (against u land item day) = true := by simpa using e
    rw [left,if_neg hnot,this]; rfl
  ·refine t_again (hY (n - (i + 1)) _ _ (by omega) ⟨mv.trans mv3,k3,i + 1,?_,by omega,rfl,fun j r hj hr => ?_⟩)
   ·rw [wrap_id (by omega) (by omega)]; rfl
   ·by_cases e:j = i
    ·subst e; rw [hx] at hr; cases hr; simpa using b
    ·exact hall j r (by omega) hr
 ·refine gZ ?_;refine t_cond (fun _ => ?_) (fun e => by cases e);refine t_ret ⟨(Mv.of_le le1).trans mv,k2,?_⟩;have:((against u land item day).all fun r => decide (safe u land item r.day = 1)) = true := by
   rw [List.all_eq_true];intro r hr;obtain ⟨j,hj⟩ := List.mem_iff_getElem?.1 hr;have := hall j r (by have := (List.getElem?_eq_some_iff.1 hj).1; omega) hj;simpa using this
  rw [left,if_pos this]
def dropM (m:Nat) (h:LH):LH := { h with get := fun b => if b = m then none else h.get b }
theorem dropM_le {m:Nat} {h h':LH} (mv:Mv m h h'):(dropM m h).le h' := by
 refine ⟨fun r x hr => ?_,mv.same⟩;have hr':(if r = m then none else h.get r) = some x := hr;split at hr'
 ·cases hr'
 ·exact mv.keep r x (by assumption) hr'
theorem dropM_rd {m:Nat} {h:LH} (hm:∃ es c,h.get m = some (true,.map es c)):Rd h.get (dropM m h).get := by
 intro x v hc;have hne:x.block ≠ m := by
  intro e;obtain ⟨es,c,hm⟩ := hm;unfold Cells.cell? at hc;rw [e,hm] at hc; cases hc
 unfold Cells.cell? at hc ⊢;have e0:(dropM m h).get x.block = h.get x.block := if_neg hne;rw [e0]; exact hc
theorem mv_of_drop {m:Nat} {h h':LH} (hl:(dropM m h).le h') (hm:∃ es c,h'.get m = some (true,.map es c)):Mv m h h' :=
 ⟨fun r x hr hx => hl.1 r x (by show (if r = m then none else h.get r) = _; rw [if_neg hr]; exact hx),fun _ _ _ => hm,hl.2⟩
theorem desk_of_drop {h h':LH} {d m:Nat} {f:FileC} {u:UseFile} (k:Desk h.get d m f u) (hl:(dropM m h).le h') (hm:∃ es c,h'.get m = some (true,.map es c) /\ ∀ e ∈ es.toList,∃ day:Int,e.key = .agg #[.int .i64 day,.int .i64 u.idle] /\ e.val = .agg #[.int .i64 (window u day).first,.int .i64 day]):Desk h'.get d m f u := by
 have hr:Rd h.get h'.get := (dropM_rd k.isMap).trans (Rd.of_le hl.1);exact ⟨k.file.rd hr,k.rep.rd hr,fun j hj => hr _ _ (k.counts j hj),hr _ _ k.mapp,hm⟩
theorem t_growD {α:Type} {X:XP} {Q:Leaf -> LH -> Prop} {Enc:α -> List Value -> Prop} {h h₁:LH} {d m:Nat} {f:FileC} {u:UseFile} {k:Value -> T} {ts:Array TypeId} {ty sT xT el xe:TypeId} {s by_:Nat} {z:Value} {p:Option Addr} {n c mc:Nat} {b:Addr} {l:List α} {x:α} {ws:List Value} (kd:Desk h.get d m f u) (k1:Desk h₁.get d m f u) (mv:Mv m h h₁)
  (h0:ts[0]? = some sT) (h1:ts[1]? = some xT) (hu:Tryz.prog.underlying sT = some (.slice el)) (hx:Tryz.prog.underlying xT = some (.slice xe)) (hi:(Tryz.prog.info? el).map (fun i => (i.size,i.bytes,i.zero)) = some (s,by_,some z)) (hsz:z.cells.size = s) (hb:by_ <= 1024) (hn:n + 1 <= 2 ^ 30) (g:Growing Enc el s (dropM m h).get h₁.get p n c l) (he:Enc x ws) (hl:ws.length = s) (hc:∀ (j:Nat) v,ws[j]? = some v -> h₁.get.cell? (b.add j) = some v) (one:∀ v ∈ ws,isOne v = true)
  (hk:∀ p' c' h',Mv m h h' -> Desk h'.get d m f u -> Growing Enc el s (dropM m h).get h'.get p' (n + 1) c' (l ++ [x]) -> (k (.slice p' (n + 1) c')).wp X Tryz.prog Q h'):(T.sem false (Builtin.append_ ts ty #[.slice p n c,.slice (some b) 1 mc]) k).wp X Tryz.prog Q h₁ := by
 have hpm:∀ a,p = some a -> a.block ≠ m := by
  intro a ha e;obtain ⟨vs,⟨_,h2⟩,_⟩ := g.row;obtain ⟨es,c',hm⟩ := k1.isMap;rcases h2 with ⟨rfl,_⟩ | ⟨r,cs,rfl,hr,_⟩
  ·cases ha
  ·cases ha; subst e; rw [hm] at hr; cases hr
 refine t_grow h0 h1 hu hx hi hsz hb hn g (dropM_le mv) he hl hc one fun p' c' h' hle hkeep g' => ?_;obtain ⟨es,c0,hm,hv⟩ := k1.map;have hm' := hkeep m _ hpm hm;exact hk p' c' h' (mv_of_drop hle ⟨es,c0,hm'⟩) (desk_of_drop kd hle ⟨es,c0,hm',hv⟩) g'
theorem leftAll_take {u:UseFile} {land day:Int} (i:Nat) (hi:i < u.items.toNat):(leftAll u land day).take (i + 1) = (leftAll u land day).take i ++ [left u land i day] := by
 have hlen:i < (leftAll u land day).length := by unfold leftAll; rw [List.length_map,List.length_range]; exact hi
 rw [List.take_succ_eq_append_getElem hlen];congr 2;simp [leftAll]
theorem c63 {h:LH} {d m:Nat} {f:FileC} {u:UseFile} (k:Desk h.get d m f u) (hck:checkF u = 0) (land day:Int) :
  De 64 #[.pointer (some ⟨d,0,none⟩),.int .i64 land,.int .i64 day] h d m f u fun r h' => ∃ p n c,r = .slice p n c /\ Growing IntEnc 71 1 (dropM m h).get h'.get p n c (leftAll u land day) := by
 refine w63 _ _ _ X0_ok ?_;unfold n63;obtain ⟨f0,f1,f2,f3,f4,f5,f6⟩ := k.file;have hit := (num_ok (check_num hck)).1;refine gZ ?_;have hlen:(leftAll u land day).length = u.items.toNat := by unfold leftAll; rw [List.length_map,List.length_range]
 refine t_loop (fun mm vs h' => Mv m h h' /\ Desk h'.get d m f u /\ ∃ (i:Nat) (p:Option Addr) (n c:Nat),vs = [.slice p n c,.int .i64 i] /\ i <= u.items.toNat /\ mm = u.items.toNat - i /\ Growing IntEnc 71 1 (dropM m h).get h'.get p n c ((leftAll u land day).take i))
  ⟨Mv.refl,k,0,none,0,0,rfl,Nat.zero_le _,rfl,Growing.nil⟩ ?_
 rintro Y mm vs h₁ hY ⟨mv,k1,i,p,n,c,rfl,hi,rfl,g⟩;refine gZ ?_;refine t_if (fun e1 => ?_) (fun e1 => ?_)
 ·have hm1 := k1.isMap;refine t_de (c91 k1 hck land i day) ?_;rintro _ h₂ mv2 k2 rfl;refine gZ ?_;have g2 := g.mv hm1 mv2;refine t_build und40 inf34 (by decide) (by decide) (cells := #[.int .i64 (left u land i day)]) (by kernel_rfl) fun r hr => ?_;have le3:h₂.le _ := LH.upd_le (x := (true,.cells #[.int .i64 (left u land i day)] 71 (0,0))) hr;have hng := g2.count IntEnc.len (by omega);rw [List.length_take] at hng;refine gZ ?_;refine t_growD (x := left u land i day) (ws := [.int .i64 (left u land i day)]) k (k2.le le3.1) ((mv.trans mv2).trans (Mv.of_le le3)) rfl rfl und40 und40 inf34 rfl (by omega) (by omega) (g2.le le3.1) rfl rfl ?_ ?_ ?_
  ·intro j w hj;rw [add_plain,Nat.zero_add];exact cell_upd (by simpa using hj)
  ·intro w hw; simp at hw; subst hw; rfl
  ·intro p' c' h₄ mv4 k4 g4;refine gZ ?_;refine t_again (hY (u.items.toNat - (i + 1)) _ _ (by omega) ⟨mv4,k4,i + 1,p',n + 1,c',?_,by omega,rfl,?_⟩)
   ·rw [wrap_id (by omega) (by omega)]; rfl
   ·rw [leftAll_take i (by omega)]; exact g4
 ·refine gZ ?_;have:i = u.items.toNat := by omega
  subst this;rw [List.take_of_length_le (by omega)] at g;exact t_ret ⟨mv,k1,p,n,c,rfl,g⟩
def LeftR (h':Cells) (u:UseFile) (land day:Int) (r:Value):Prop :=
 (openF u [landQ u land,dayQ day] ≠ 0 /\ r = .tuple #[.slice none 0 0,.int .i64 (openF u [landQ u land,dayQ day])]) \/
 (openF u [landQ u land,dayQ day] = 0 /\ ∃ p n c,r = .tuple #[.slice p n c,.int .i64 0] /\ Sl IntE 1 h' p n (leftAll u land day))
theorem c23 {h:LH} {f:FileC} {u:UseFile} (hp:Parts h.get) (hu:FileR h.get f u) (land day:Int):Gr Tryz.prog 28 #[fileV f u,.int .i64 land,.int .i64 day] h fun r h' => LeftR h'.get u land day r := by
 refine w23 _ _ _ _ _ _ _ _ _ _ _ _ _ _ _ X0_ok ?_;unfold n23;refine t_gr (c58 u land) ?_;rintro v0 h₁ le1 ⟨q0,a0⟩;refine gZ ?_;refine t_gr (c54 u day) ?_;rintro v1 h₂ le2 ⟨q1,a1⟩;refine gZ ?_;refine asks2 q0 (a0.le le2) q1 a1 fun r h₄ le4 hs => ?_;refine gZ ?_;have le14 := LH.le_trans (LH.le_trans le1 le2) le4;refine t_call (c53 (f := f) (hp.le le14.1) (hu.le le14.1) hs) ?_;rintro v h₅ ⟨le5,⟨hne,rfl⟩ | ⟨h0,d,m,rfl,hd,hm,k⟩⟩
 ·refine gZ ?_;refine t_cond (fun _ => ?_) (fun e => absurd (by simpa using e) hne);exact t_ret ⟨LH.le_trans le14 le5,.inl ⟨hne,rfl⟩⟩
 ·refine gZ ?_;refine t_cond (fun e => by cases e) (fun _ => ?_);refine t_de (c63 k (open_num h0).2 land day) ?_;rintro _ h₆ mv k6 ⟨p,n,c,rfl,g⟩;refine gZ ?_;refine t_ret ⟨LH.le_trans le14 (Mv.le_of le5 hm mv),.inr ⟨h0,p,n,c,rfl,?_⟩⟩;refine g.sl IntEnc.len (by omega) IntEnc.e ?_;have := (num_ok (open_num h0).1).1;unfold leftAll; rw [List.length_map,List.length_range]; omega
end
section
open Go Go.TM Go.Proofs
attribute [local irreducible] T.wp CV FWK
def LackEnc (x:Lack) (ws:List Value):Prop := ws = [.int .i64 x.item,.int .i64 x.request,.int .i64 x.window.first,.int .i64 x.window.last]
theorem LackEnc.len:∀ x ws,LackEnc x ws -> ws.length = 4 := by rintro x _ rfl; rfl
theorem LackEnc.e {h':Cells}:∀ a x ws,LackEnc x ws -> (∀ (j:Nat) w,ws[j]? = some w -> h'.cell? (a.add j) = some w) -> LackE h' a x := by
 rintro a x _ rfl hc;exact ⟨hc 0 _ rfl,hc 1 _ rfl,hc 2 _ rfl,hc 3 _ rfl⟩
theorem check_items {u:UseFile} (h:checkF u = 0):∀ r ∈ u.requests,risesF r.items u.items = 0 := by
 obtain ⟨_,h2⟩ := eachF_zero (check_parts h).2.2.2;intro r hr;obtain ⟨j,hj⟩ := List.mem_iff_getElem?.1 hr;have := h2 j r hj;have key:∀ (c1 c2 c3:Prop) [Decidable c1] [Decidable c2] [Decidable c3] (x:Int),(if c1 then (1:Int) else if c2 then 7 else if c3 then 6 else x) = 0 -> x = 0 := by
  intro c1 c2 c3 _ _ _ x hx;by_cases a1:c1
  ·rw [if_pos a1] at hx; cases hx
  ·rw [if_neg a1] at hx;by_cases a2:c2
   ·rw [if_pos a2] at hx; cases hx
   ·rw [if_neg a2] at hx;by_cases a3:c3
    ·rw [if_pos a3] at hx; cases hx
    ·rw [if_neg a3] at hx; exact hx
 exact key _ _ _ _ this
theorem rises_len {l:List Int} {b:Int} (h:risesF l b = 0):(∀ i (hi:i < l.length),(i:Int) <= l[i] /\ l[i] < b /\ 0 <= l[i]) := by
 have h' := firstF_zero' h;intro i
 induction i with
 | zero =>
  intro hi;have := h' 0 l[0] (List.getElem?_eq_getElem hi);unfold riseF at this;split at this
  ·cases this
  ·rename_i h1;simp [isIn] at h1;omega
 | succ i ih =>
  intro hi;have h1 := ih (by omega);have := h' (i + 1) l[i + 1] (List.getElem?_eq_getElem hi);unfold riseF at this;split at this
  ·cases this
  ·split at this
   ·cases this
   ·rename_i h2 h3;simp [isIn] at h2;have e:l.getD (0 + (i + 1) - 1) 0 = l[i] := by
     rw [show 0 + (i + 1) - 1 = i by omega];simp [List.getD,List.getElem?_eq_getElem (show i < l.length by omega)]
    rw [e] at h3;have:¬ l[i + 1] <= l[i] := fun hh => h3 ⟨by omega,hh⟩;omega
theorem rises_len' {l:List Int} {b:Int} (h:risesF l b = 0) (hb:0 <= b):(l.length:Int) <= b := by
 by_cases h0:l.length = 0
 ·omega
 ·have := rises_len h (l.length - 1) (by omega);omega
theorem lacksGo_len {u:UseFile} {land day:Int} (hi:∀ r ∈ u.requests,r.items.length <= 6):∀ (l:List Request) (i:Nat),(∀ r ∈ l,r ∈ u.requests) -> (lacksGo u land day l i).length <= l.length * 6 := by
 intro l
 induction l with
 | nil => intro i _; simp [lacksGo]
 | cons r l ih =>
  intro i hs;rw [lacksGo,List.length_append];have h1 := ih (i + 1) fun r hr => hs r (by simp [hr]);have h2:(lacksOf u land day i r).length <= 6 := by
   unfold lacksOf;split
   ·simp
   ·rw [List.length_map];exact Nat.le_trans (List.length_filter_le _ _) (hi r (hs r (by simp)))
  simp only [List.length_cons]; omega
def LacksR (h':Cells) (u:UseFile) (land day:Int) (r:Value):Prop :=
 (openF u [landQ u land,dayQ day] ≠ 0 /\ r = .tuple #[.slice none 0 0,.int .i64 (openF u [landQ u land,dayQ day])]) \/
 (openF u [landQ u land,dayQ day] = 0 /\ ∃ p n c,r = .tuple #[.slice p n c,.int .i64 0] /\ Sl LackE 4 h' p n (lacks u land day))
theorem c28 {h:LH} {f:FileC} {u:UseFile} (hp:Parts h.get) (hu:FileR h.get f u) (land day:Int):Gr Tryz.prog 29 #[fileV f u,.int .i64 land,.int .i64 day] h fun r h' => LacksR h'.get u land day r := by
 refine w28 _ _ _ _ _ _ _ _ _ _ _ _ _ _ _ X0_ok ?_;unfold n28;refine t_gr (c58 u land) ?_;rintro v0 h₁ le1 ⟨q0,a0⟩;refine gZ ?_;refine t_gr (c54 u day) ?_;rintro v1 h₂ le2 ⟨q1,a1⟩;refine gZ ?_;refine asks2 q0 (a0.le le2) q1 a1 fun r h₄ le4 hs => ?_;refine gZ ?_;have le14 := LH.le_trans (LH.le_trans le1 le2) le4;refine t_call (c53 (f := f) (hp.le le14.1) (hu.le le14.1) hs) ?_;rintro v h₅ ⟨le5,⟨hne,rfl⟩ | ⟨h0,d,m,rfl,hd,hm,k⟩⟩
 ·refine gZ ?_;refine t_cond (fun _ => ?_) (fun e => absurd (by simpa using e) hne);exact t_ret ⟨LH.le_trans le14 le5,.inl ⟨hne,rfl⟩⟩
 ·refine gZ ?_;refine t_cond (fun e => by cases e) (fun _ => ?_);have hck := (open_num h0).2;have hnum := check_num hck;have hreq := check_requests hck;have hitn := (num_ok hnum).1;have hitems:∀ r ∈ u.requests,r.items.length <= 6 := fun r hr => by have := rises_len' (check_items hck r hr) (by omega); omega
  have hlen6 := lacksGo_len (land := land) (day := day) hitems u.requests 0 fun r hr => hr;have le15 := LH.le_trans le14 le5;have hrq := (hu.le le15.1).requests;have hn6 := hrq.1;have hm5 := k.isMap;refine t_loop (fun mm vs h' => Mv m h₅ h' /\ Desk h'.get d m f u /\ ∃ (i:Nat) (p:Option Addr) (n c:Nat) (rs:List Lack),vs = [.slice p n c,.int .i64 i] /\ i <= f.n6 /\ mm = f.n6 - i /\ Growing LackEnc 91 4 (dropM m h₅).get h'.get p n c rs /\ lacks u land day = rs ++ lacksGo u land day (u.requests.drop i) i)
   ⟨Mv.refl,k,0,none,0,0,[],rfl,Nat.zero_le _,rfl,Growing.nil,rfl⟩ ?_
  rintro Y mm vs h₆ hY ⟨mv,k6,i,p,n,c,rs,rfl,hi,rfl,g,hc⟩;refine gZ ?_;refine t_if (fun e1 => ?_) (fun e1 => ?_)
  ·obtain ⟨x,a,hx,ha,e2,e3,q,mq,cq,e4,e5⟩ := hrq.at (i := i) (by omega);have e2 := mv.rd hm5 _ _ e2;have e3 := mv.rd hm5 _ _ e3;have e4 := mv.rd hm5 _ _ e4;have hxm := List.mem_of_getElem? hx;have hxd := hreq.2 x hxm;have hx6 := hitems x hxm;rw [drop_of hx,lacksGo] at hc;refine gZ ?_;have next:∀ h' p n c rs',Mv m h₅ h' -> Desk h'.get d m f u -> Growing LackEnc 91 4 (dropM m h₅).get h'.get p n c rs' -> rs' = rs ++ lacksOf u land day i x -> Y [.slice p n c,.int .i64 (wrap .i64 ((i:Int) + 1))] h' := by
    rintro h' p n c rs' mv' k' g' rfl;refine hY (f.n6 - (i + 1)) _ _ (by omega) ⟨mv',k',i + 1,p,n,c,_,?_,by omega,rfl,g',by rw [hc,List.append_assoc]⟩;rw [wrap_id (by omega) (by omega)]; rfl
   refine t_blk (fun vs h' => vs = [] /\ h₆ = h' /\ x.land = land /\ x.day <= day) ?_ ?_
   ·refine t_cond (fun b1 => ?_) (fun b1 => ?_)
    ·refine gR ?_;refine t_cond (fun _ => ?_) (fun e => by cases e);refine gZ ?_;refine t_again (next h₆ p n c rs mv k6 g ?_);have:x.land ≠ land := by simpa using b1
     rw [lacksOf,if_pos (.inl this)]; simp
    ·refine t_if (fun b2 => ?_) (fun b2 => ?_)
     ·refine gR ?_;refine t_cond (fun _ => ?_) (fun e => by cases e);refine gZ ?_;refine t_again (next h₆ p n c rs mv k6 g ?_);rw [lacksOf,if_pos (.inr b2)]; simp
     ·exact t_again ⟨rfl,rfl,by simpa using b1,by omega⟩
   ·rintro vs _ ⟨rfl,rfl,hland,hday⟩;refine gZ ?_;have hof:lacksOf u land day i x = (x.items.filter fun n => decide (safe u land n x.day ≠ 1)).map fun n => ⟨n,(i:Int),⟨(window u x.day).first,x.day⟩⟩ := by
     rw [lacksOf,if_neg (by omega)]
    have hmq := e5.1;refine t_loop (fun mm vs h' => Mv m h₅ h' /\ Desk h'.get d m f u /\ ∃ (j:Nat) (p:Option Addr) (n c:Nat) (ss:List Lack),vs = [.slice p n c,.int .i64 j] /\ j <= mq /\ mm = mq - j /\ ss.length <= j /\ Growing LackEnc 91 4 (dropM m h₅).get h'.get p n c (rs ++ ss) /\ lacksOf u land day i x = ss ++ ((x.items.drop j).filter fun n => decide (safe u land n x.day ≠ 1)).map fun n => ⟨n,(i:Int),⟨(window u x.day).first,x.day⟩⟩)
     ⟨mv,k6,0,p,n,c,[],rfl,Nat.zero_le _,rfl,Nat.le_refl _,by simpa using g,hof⟩ ?_
    rintro Y2 mm vs h₇ hY2 ⟨mv7,k7,j,p,n,c,ss,rfl,hj,rfl,hsl,g7,hc7⟩;refine gZ ?_;refine t_if (fun e6 => ?_) (fun e6 => ?_)
    ·obtain ⟨y,b,hy,hb,e7⟩ := (e5.rd IntE.grow (mv7.rd hm5)).at (i := j) (by omega);unfold IntE at e7;rw [drop_of hy,List.filter_cons] at hc7;refine gZ ?_;refine t_de (c60 k7 hnum land y x.day hxd) ?_;rintro _ h₈ mv8 k8 rfl;have g8 := g7.mv k7.isMap mv8;refine gZ ?_;refine t_cond (fun b1 => ?_) (fun b1 => ?_)
     ·have b1':decide (safe u land y x.day ≠ 1) = true := by simpa using b1
      rw [if_pos b1',List.map_cons] at hc7;refine t_de (c55 k8 (num_ok hnum).2.2.2 x.day hxd) ?_;rintro _ h₉ mv9 k9 rfl;have g9 := g8.mv k8.isMap mv9;have e7' := (mv8.trans mv9).rd k7.isMap _ _ e7;refine gZ ?_;refine t_build und45 inf79 (by decide) (by decide) (cells := #[.int .i64 y,.int .i64 i,.int .i64 (window u x.day).first,.int .i64 x.day]) (by kernel_rfl) fun r hr => ?_;have le10:h₉.le _ := LH.upd_le (x := (true,.cells #[.int .i64 y,.int .i64 i,.int .i64 (window u x.day).first,.int .i64 x.day] 91 (0,0))) hr;have hng := g9.count LackEnc.len (by omega);have hrs6:rs.length <= u.requests.length * 6 := by
       have := hlen6;unfold lacks at hc;rw [hc,List.length_append] at this; omega
      have hssl:ss.length <= 6 := by have := e5.1; omega
      rw [List.length_append] at hng;refine gZ ?_;refine t_growD (x := (⟨y,(i:Int),⟨(window u x.day).first,x.day⟩⟩ : Lack)) (ws := [.int .i64 y,.int .i64 i,.int .i64 (window u x.day).first,.int .i64 x.day]) k (k9.le le10.1) (((mv7.trans mv8).trans mv9).trans (Mv.of_le le10)) rfl rfl und45 und45 inf79 rfl (by omega) (by omega) (g9.le le10.1) rfl rfl ?_ ?_ ?_
      ·intro j w hj;rw [add_plain,Nat.zero_add];exact cell_upd (by simpa using hj)
      ·intro w hw; simp at hw; rcases hw with rfl | rfl | rfl | rfl <;> rfl
      ·intro p' c' h₁₀ mv10 k10 g10;refine gZ ?_;refine t_again (hY2 (mq - (j + 1)) _ _ (by omega) ⟨mv10,k10,j + 1,p',n + 1,c',ss ++ [⟨y,(i:Int),⟨(window u x.day).first,x.day⟩⟩],?_,by omega,rfl,by simp; omega,by rw [<- List.append_assoc]; exact g10,by rw [hc7]; simp⟩);rw [wrap_id (by omega) (by omega)]; rfl
     ·have b1':decide (safe u land y x.day ≠ 1) = false := by simpa using b1
      rw [if_neg (by rw [b1']; simp)] at hc7;refine t_again (hY2 (mq - (j + 1)) _ _ (by omega) ⟨mv7.trans mv8,k8,j + 1,p,n,c,ss,?_,by omega,rfl,by omega,g8,hc7⟩);rw [wrap_id (by omega) (by omega)]; rfl
    ·refine gZ ?_;rw [List.drop_eq_nil_of_le (by omega)] at hc7;refine t_again (next h₇ p n c _ mv7 k7 g7 ?_);rw [hc7]; simp
  ·refine gZ ?_;rw [List.drop_eq_nil_of_le (by omega),lacksGo,List.append_nil] at hc;refine t_ret ⟨LH.le_trans le14 (Mv.le_of le5 hm mv),.inr ⟨h0,p,n,c,rfl,?_⟩⟩;rw [hc];refine g.sl LackEnc.len (by omega) LackEnc.e ?_;have:rs.length <= u.requests.length * 6 := by
    have := hlen6;unfold lacks at hc;rw [hc] at this; exact this
   omega
def PaperEnc (h₀:Cells) (x:Paper) (ws:List Value):Prop := ∃ q m c,ws = [.int .i64 x.days.first,.int .i64 x.days.last,.int .i64 x.land,.slice q m c] /\ Sl IntE 1 h₀ q m x.items
theorem PaperEnc.len {h₀:Cells}:∀ x ws,PaperEnc h₀ x ws -> ws.length = 4 := by rintro x _ ⟨q,m,c,rfl,_⟩; rfl
theorem PaperEnc.e {h₀ h':Cells} (hr:Rd h₀ h'):∀ a x ws,PaperEnc h₀ x ws -> (∀ (j:Nat) w,ws[j]? = some w -> h'.cell? (a.add j) = some w) -> PaperE h' a x := by
 rintro a x _ ⟨q,m,c,rfl,hs⟩ hc;exact ⟨hc 0 _ rfl,hc 1 _ rfl,hc 2 _ rfl,q,m,c,hc 3 _ rfl,hs.rd IntE.grow hr⟩
def enoughB (u:UseFile) (land day:Int) (papers all:List Int):Bool := decide (checkF (withP u papers) = 0) && coversB all (leftAll (withP u papers) land day)
theorem withP_take {u:UseFile} {pl:List Int} {i:Nat} {v:Int} {x:Paper} (hv:pl[i]? = some v) (hx:u.papers[v.toNat]? = some x):(pl.take (i + 1)).filterMap (fun n => u.papers[n.toNat]?) = (pl.take i).filterMap (fun n => u.papers[n.toNat]?) ++ [x] := by
 obtain ⟨hlt,rfl⟩ := List.getElem?_eq_some_iff.1 hv;rw [List.take_succ_eq_append_getElem hlt,List.filterMap_append];simp [hx]
theorem c71 {h:LH} {f:FileC} {u:UseFile} (hp:Parts h.get) (hu:FileR h.get f u) (land day:Int) {pp:Option Addr} {pn pc:Nat} {pl:List Int} (hpl:Sl IntE 1 h.get pp pn pl) (hin:∀ v ∈ pl,0 <= v /\ v < (u.papers.length:Int)) (hpl8:pl.length <= 8)
  {ap:Option Addr} {an ac:Nat} {all:List Int} (hal:Sl IntE 1 h.get ap an all) (halen:all.length = u.items.toNat):Gr Tryz.prog 66 #[fileV f u,.int .i64 land,.int .i64 day,.slice pp pn pc,.slice ap an ac] h fun r _ => r = .bool (enoughB u land day pl all) := by
 refine w71 _ _ _ _ _ _ _ _ _ _ _ _ _ _ _ _ _ _ _ _ _ X0_ok ?_;unfold n71;have hn := hpl.1;have hn5 := hu.papers.1;refine t_loop (fun mm vs h' => h.le h' /\ ∃ (i:Nat) (p:Option Addr) (n c:Nat),vs = [.int .i64 i,.int .i64 u.items,.int .i64 u.lands,.int .i64 u.from_,.int .i64 u.idle,.slice f.p4 f.n4 f.c4,.slice p n c,.slice f.p6 f.n6 f.c6] /\ i <= pn /\ mm = pn - i /\
   Growing (PaperEnc h.get) 32 4 h.get h'.get p n c ((pl.take i).filterMap fun n => u.papers[n.toNat]?)) ⟨LH.le_refl _,0,none,0,0,rfl,Nat.zero_le _,rfl,Growing.nil⟩ ?_
 rintro Y mm vs h₁ hY ⟨hle,i,p,n,c,rfl,hi,rfl,g⟩;refine gZ ?_;refine t_if (fun e1 => ?_) (fun e1 => ?_)
 ·obtain ⟨v,a,hv,ha,e2⟩ := hpl.at (i := i) (by omega);unfold IntE at e2;have e2 := Cells.cell?_le hle.1 e2;have hvr := hin v (List.mem_of_getElem? hv);have hvn:((v.toNat:Nat):Int) = v := by omega
  obtain ⟨x,b,hx,hb,e3,e4,e5,q,mq,cq,e6,e7⟩ := hu.papers.at (i := v.toNat) (by omega);have e3 := Cells.cell?_le hle.1 e3;have e4 := Cells.cell?_le hle.1 e4;have e5 := Cells.cell?_le hle.1 e5;have e6 := Cells.cell?_le hle.1 e6;have hnv:0 <= v /\ v < (f.n5:Int) := by omega
  refine gZ ?_;refine t_build und23 inf69 (by decide) (by decide) (cells := #[.int .i64 x.days.first,.int .i64 x.days.last,.int .i64 x.land,.slice q mq cq]) (by kernel_rfl) fun r hr => ?_;have le2:h₁.le _ := LH.upd_le (x := (true,.cells #[.int .i64 x.days.first,.int .i64 x.days.last,.int .i64 x.land,.slice q mq cq] 32 (0,0))) hr;have hng := g.count PaperEnc.len (by omega);have hlen:((pl.take i).filterMap fun n => u.papers[n.toNat]?).length <= 8 := Nat.le_trans (List.length_filterMap_le _ _) (by rw [List.length_take]; omega);refine gZ ?_;refine t_grow (x := x) (ws := [.int .i64 x.days.first,.int .i64 x.days.last,.int .i64 x.land,.slice q mq cq]) rfl rfl und23 und23 inf69 rfl (by omega) (by omega) (g.le le2.1) (LH.le_trans hle le2) ⟨q,mq,cq,rfl,e7⟩ rfl ?_ ?_ ?_
  ·intro j w hj;rw [add_plain,Nat.zero_add];exact cell_upd (by simpa using hj)
  ·intro w hw; simp at hw; rcases hw with rfl | rfl | rfl | rfl <;> rfl
  ·intro p' c' h₂ hle2 _ g2;refine gZ ?_;refine t_again (hY (pn - (i + 1)) _ _ (by omega) ⟨hle2,i + 1,p',n + 1,c',?_,by omega,rfl,by rw [withP_take hv hx]; exact g2⟩);rw [wrap_id (by omega) (by omega)]; rfl
 ·refine gZ ?_;have hpi:pl.take i = pl := List.take_of_length_le (by omega);rw [hpi] at g;have hlen:(pl.filterMap fun n => u.papers[n.toNat]?).length <= 8 := Nat.le_trans (List.length_filterMap_le _ _) hpl8;have hsl := g.sl PaperEnc.len (by omega) (PaperEnc.e (Rd.of_le hle.1)) (by omega);have hu':FileR h₁.get { f with p5 := p,n5 := n,c5 := c } (withP u pl) := ⟨hu.excuses.le SpanE.grow hle.1,hsl,hu.requests.le RequestE.grow hle.1⟩
  refine t_call (c53 (f := { f with p5 := p,n5 := n,c5 := c }) (u := withP u pl) (l := []) (hp.le hle.1) hu' ⟨rfl,by show 0 < _; omega,fun i g hg => by simp at hg⟩) ?_;rintro v h₂ ⟨le2,⟨hne,rfl⟩ | ⟨h0,d,m,rfl,hd,hm,k⟩⟩
  ·refine gZ ?_;refine t_cond (fun _ => ?_) (fun e => absurd (by simpa using e) hne);refine t_ret ⟨LH.le_trans hle le2,?_⟩;have:checkF (withP u pl) ≠ 0 := by
    intro hc;apply hne;rw [openF,if_neg (by simp [hc])]; rfl
   unfold enoughB;rw [decide_eq_false this]; rfl
  ·refine gZ ?_;refine t_cond (fun e => by cases e) (fun _ => ?_);have hck := (open_num h0).2;refine t_de (c63 k hck land day) ?_;rintro _ h₃ mv k3 ⟨p3,n3,c3,rfl,g3⟩;refine gZ ?_;have hitn := (num_ok (open_num h0).1).1;have hitn':(withP u pl).items = u.items := rfl;rw [hitn'] at hitn;have hll:(leftAll (withP u pl) land day).length = u.items.toNat := by unfold leftAll; rw [List.length_map,List.length_range,hitn']
   have hs3 := g3.sl IntEnc.len (by omega) IntEnc.e (by omega);have hle3 := Mv.le_of (LH.le_trans hle le2) (by
    cases hx:h.get m with
    | none => rfl
    | some y => rw [hle.1 _ _ hx] at hm; cases hm) mv
   have hal3 := hal.le IntE.grow hle3.1;have hn3 := hs3.1;have han := hal3.1;refine t_loop (fun mm vs h' => h₃ = h' /\ ∃ j:Nat,vs = [.bool false,.int .i64 j] /\ j <= n3 /\ mm = n3 - j /\ coversB all (leftAll (withP u pl) land day) = coversB (all.drop j) ((leftAll (withP u pl) land day).drop j)) ⟨rfl,0,rfl,Nat.zero_le _,rfl,rfl⟩ ?_;rintro Y2 mm vs _ hY2 ⟨rfl,j,rfl,hj,rfl,hc⟩;refine gZ ?_;have hfin:∀ b,coversB all (leftAll (withP u pl) land day) = b -> Value.bool b = .bool (enoughB u land day pl all) := by
    intro b hb;unfold enoughB;rw [decide_eq_true hck,hb]; rfl
   refine t_if (fun e6 => ?_) (fun e6 => ?_)
   ·obtain ⟨y,a1,hy,ha1,e7⟩ := hs3.at (i := j) (by omega);obtain ⟨z,a2,hz,ha2,e8⟩ := hal3.at (i := j) (by omega);unfold IntE at e7 e8;rw [drop_of hy,drop_of hz,coversB] at hc;refine gZ ?_;have next:(!decide (z = 1) || decide (y = 1)) = true -> Y2 [.bool false,.int .i64 (wrap .i64 ((j:Int) + 1))] h₃ := by
     intro hh;rw [hh,Bool.true_and] at hc;refine hY2 (n3 - (j + 1)) _ _ (by omega) ⟨rfl,j + 1,?_,by omega,rfl,hc⟩;rw [wrap_id (by omega) (by omega)]; rfl
    refine t_cond (fun b1 => ?_) (fun b1 => ?_)
    ·have b1':z = 1 := by simpa using b1
     refine t_cond (fun b2 => ?_) (fun b2 => ?_)
     ·have b2':y ≠ 1 := by simpa using b2
      refine gZ ?_;refine t_ret ⟨hle3,hfin false ?_⟩;rw [hc]; simp [b1',b2']
     ·have b2':y = 1 := by simpa using b2
      exact t_again (next (by simp [b2']))
    ·have b1':z ≠ 1 := by simpa using b1
     exact t_again (next (by simp [b1']))
   ·refine gZ ?_;refine t_ret ⟨hle3,hfin true ?_⟩;rw [hc,List.drop_eq_nil_of_le (show (leftAll (withP u pl) land day).length <= j by omega)];cases all.drop j <;> rfl
theorem c69 {h:LH} {f:FileC} {u:UseFile} (hu5:f.n5 = u.papers.length) (hub:(u.papers.length:Int) < 4611686018427387904) {z:Addr} {p:Option Addr} {n c:Nat} {l:List Int} (hz:h.get.cell? z = some (.slice p n c)) (hl:Sl IntE 1 h.get p n l):Gr Tryz.prog 68 #[fileV f u,.pointer (some z)] h fun r _ => r = .int .i64 (risesF l u.papers.length) := by
 refine w69 _ _ _ _ _ _ _ _ _ _ _ _ _ _ X0_ok ?_;unfold n69;refine gL1 hz ?_;rw [hu5];refine t_gr (c70 hl (by unfold IsI; omega)) ?_;rintro _ h' hle rfl;refine gZ ?_;exact t_ret ⟨hle,rfl⟩
theorem rises_in {l:List Int} {b:Int} (h:risesF l b = 0):∀ v ∈ l,0 <= v /\ v < b := by
 intro v hv;obtain ⟨i,hi,rfl⟩ := List.getElem_of_mem hv;have := rises_len h i hi;omega
def enoughQ (u:UseFile) (land day:Int) (papers:List Int):List Int := [landQ u land,dayQ day,risesF papers u.papers.length]
def enoughR (u:UseFile) (land day:Int) (papers:List Int):Value :=
 if openF u (enoughQ u land day papers) ≠ 0 then .tuple #[.bool false,.int .i64 (openF u (enoughQ u land day papers))] else .tuple #[.bool (enoughB u land day papers (leftAll u land day)),.int .i64 0]
theorem c31 {h:LH} {f:FileC} {u:UseFile} (hp:Parts h.get) (hu:FileR h.get f u) (land day:Int) {pp:Option Addr} {pn pc:Nat} {pl:List Int} (hpl:Sl IntE 1 h.get pp pn pl):Gr Tryz.prog 31 #[fileV f u,.int .i64 land,.int .i64 day,.slice pp pn pc] h fun r _ => r = enoughR u land day pl := by
 refine w31 _ _ _ _ _ _ _ _ _ _ _ _ _ _ _ _ _ _ X0_ok ?_;unfold n31;refine t_new fun r hr => ?_;have le0:h.le _ := LH.upd_le (x := (true,.cells #[.slice pp pn pc] 30 (0,0))) hr;have z0:Cells.cell? (h.get.upd r (true,.cells #[.slice pp pn pc] 30 (0,0))) ⟨r,0,none⟩ = some (.slice pp pn pc) := cell_upd rfl;refine t_gr (c58 u land) ?_;rintro v0 h₁ le1 ⟨q0,a0⟩;refine gZ ?_;refine t_gr (c54 u day) ?_;rintro v1 h₂ le2 ⟨q1,a1⟩;refine gZ ?_;have le02 := LH.le_trans (LH.le_trans le0 le1) le2;have hub := hu.papers.2.1;have z2 := Cells.cell?_le (LH.le_trans le1 le2).1 z0;have a2:Asks (.func (.func 68) #[] #[.pointer (some ⟨r,0,none⟩)]) h₂ u (risesF pl u.papers.length) := by
  intro _ f' h' hle hu';exact cv_fw X0_ok (by rfl) (c69 hu'.papers.1 (by omega) (Cells.cell?_le hle.1 z2) (hpl.le IntE.grow (LH.le_trans le02 hle).1))
 refine asks3 q0 (a0.le le2) q1 a1 ⟨_,_,_,rfl⟩ a2 fun r' h₄ le4 hs => ?_;refine gZ ?_;have le14 := LH.le_trans le02 le4;refine t_call (c53 (f := f) (hp.le le14.1) (hu.le le14.1) hs) ?_;rintro v h₅ ⟨le5,⟨hne,rfl⟩ | ⟨h0,d,m,rfl,hd,hm,k⟩⟩
 ·refine gZ ?_;refine t_cond (fun _ => ?_) (fun e => absurd (by simpa using e) hne);refine t_ret ⟨LH.le_trans le14 le5,?_⟩;show _ = enoughR u land day pl;rw [enoughR,if_pos (show openF u (enoughQ u land day pl) ≠ 0 from hne)]; rfl
 ·refine gZ ?_;refine t_cond (fun e => by cases e) (fun _ => ?_);have le25 := LH.le_trans le4 le5;have z5 := Cells.cell?_le le25.1 z2;refine gL1 z5 ?_;have hck := (open_num h0).2;refine t_de (c63 k hck land day) ?_;rintro _ h₆ mv k6 ⟨p,n,c,rfl,g⟩;refine gZ ?_;have z6 := mv.rd k.isMap _ _ z5;refine gL1 z6 ?_;refine gZ ?_;have hm0:h.get m = none := by
   cases hx:h.get m with
   | none => rfl
   | some x => rw [le14.1 _ _ hx] at hm; cases hm
  have le6 := Mv.le_of (LH.le_trans le14 le5) hm0 mv;have hrise:risesF pl u.papers.length = 0 := open_zero h0 _ (by simp);have hpap := (check_papers hck).1;have hpl8 := rises_len' hrise (by omega);have hitn := (num_ok (open_num h0).1).1;have hll:(leftAll u land day).length = u.items.toNat := by unfold leftAll; rw [List.length_map,List.length_range]
  refine t_gr (c71 (hp.le le6.1) (hu.le le6.1) land day (hpl.le IntE.grow le6.1) (rises_in hrise) (by omega) (g.sl IntEnc.len (by omega) IntEnc.e (by omega)) hll) ?_;rintro _ h₇ le7 rfl;refine gZ ?_;refine t_ret ⟨LH.le_trans le6 le7,?_⟩;show _ = enoughR u land day pl;rw [enoughR,if_neg (by unfold enoughQ; simpa using h0)]
def cmpI (x y:Int):Int := if x < y then -1 else if x > y then 1 else 0
def cmpL:List Int -> List Int -> Int
 | [],[] => 0
 | [],_ :: _ => -1
 | _ :: _,[] => 1
 | x :: xs,y :: ys => if cmpI x y ≠ 0 then cmpI x y else cmpL xs ys
def fewerF (a b:List Int):Int := if a.length ≠ b.length then (a.length:Int) - b.length else cmpL a b
theorem c109 {h:LH} (x:Int):Pu Tryz.prog 174 #[.int .i64 x] h (.bool false) := by
 refine w109 _ X0_ok ?_;unfold n109;refine t_ret ⟨?_,rfl⟩;simp
theorem c105 {h:LH} (x y:Int):Pu Tryz.prog 129 #[.int .i64 x,.int .i64 y] h (.int .i64 (cmpI x y)) := by
 refine w105 _ _ X0_ok ?_;unfold n105;refine t_pu (c109 _) ?_;refine gZ ?_;refine t_pu (c109 _) ?_;refine gZ ?_;refine t_cond (fun e => by cases e) (fun _ => ?_);refine t_cond (fun e => by cases e) (fun _ => ?_);refine t_if (fun e => ?_) (fun e => ?_)
 ·refine t_ret ⟨?_,rfl⟩; rw [cmpI,if_pos e]
 ·refine t_if (fun e' => ?_) (fun e' => ?_) <;> refine t_ret ⟨?_,rfl⟩ <;> simp [cmpI,e,e']
theorem c97 {h:LH} {p q:Option Addr} {n c m d:Nat} {a b:List Int} (ha:Sl IntE 1 h.get p n a) (hb:Sl IntE 1 h.get q m b):Pu Tryz.prog 79 #[.slice p n c,.slice q m d] h (.int .i64 (cmpL a b)) := by
 refine w97 _ _ _ _ _ _ X0_ok ?_;unfold n97;have hn := ha.1;have hm := hb.1;have hbn := ha.2.1;have hbm := hb.2.1;refine t_loop (fun mm vs h' => h = h' /\ ∃ i:Nat,vs = [.int .i64 0,.int .i64 i] /\ i <= n /\ i <= m /\ mm = n - i /\ cmpL a b = cmpL (a.drop i) (b.drop i)) ⟨rfl,0,rfl,Nat.zero_le _,Nat.zero_le _,rfl,rfl⟩ ?_;rintro Y mm vs _ hY ⟨rfl,i,rfl,hi,hi',rfl,hc⟩;refine gZ ?_;refine t_if (fun e1 => ?_) (fun e1 => ?_)
 ·obtain ⟨x,a1,hx,ha1,e2⟩ := ha.at (i := i) (by omega);unfold IntE at e2;rw [drop_of hx] at hc;refine gZ ?_;refine t_if (fun e3 => ?_) (fun e3 => ?_)
  ·refine gZ ?_;rw [List.drop_eq_nil_of_le (show b.length <= i by omega),cmpL] at hc;exact t_ret ⟨by rw [hc],rfl⟩
  ·obtain ⟨y,b1,hy,hb1,e4⟩ := hb.at (i := i) (by omega);unfold IntE at e4;rw [drop_of hy,cmpL] at hc;refine gZ ?_;refine t_pu (c105 _ _) ?_;refine gZ ?_;refine t_cond (fun e5 => ?_) (fun e5 => ?_)
   ·refine gZ ?_;rw [if_pos (by simpa using e5)] at hc;exact t_ret ⟨by rw [hc],rfl⟩
   ·rw [if_neg (by simpa using e5)] at hc;refine t_again (hY (n - (i + 1)) _ _ (by omega) ⟨rfl,i + 1,?_,by omega,by omega,rfl,hc⟩);rw [wrap_id (by omega) (by omega)]; rfl
 ·refine gZ ?_;rw [List.drop_eq_nil_of_le (show a.length <= i by omega)] at hc;refine t_if (fun e3 => ?_) (fun e3 => ?_)
  ·obtain ⟨y,hy⟩ : ∃ y,b[i]? = some y := ⟨b[i]'(by omega),List.getElem?_eq_getElem (by omega)⟩
   rw [drop_of hy,cmpL] at hc;exact t_ret ⟨by rw [hc],rfl⟩
  ·rw [List.drop_eq_nil_of_le (show b.length <= i by omega),cmpL] at hc;exact t_ret ⟨by rw [hc],rfl⟩
theorem c75 {h:LH} {p q:Option Addr} {n c m d:Nat} {a b:List Int} (ha:Sl IntE 1 h.get p n a) (hb:Sl IntE 1 h.get q m b):Pu Tryz.prog 67 #[.slice p n c,.slice q m d] h (.int .i64 (fewerF a b)) := by
 refine w75 _ _ _ _ _ _ X0_ok ?_;unfold n75;have hn := ha.1;have hm := hb.1;have hbn := ha.2.1;have hbm := hb.2.1;refine t_cond (fun e => ?_) (fun e => ?_)
 ·have e':a.length ≠ b.length := by simp at e; omega
  rw [wrap_id (by omega) (by omega)];refine t_ret ⟨?_,rfl⟩;rw [fewerF,if_pos e',hn,hm]
 ·have e':¬ a.length ≠ b.length := by simp at e; omega
  refine t_pu (c97 ha hb) ?_;refine gZ ?_;refine t_ret ⟨?_,rfl⟩;rw [fewerF,if_neg e']
end
section
open Go Go.TM Go.Proofs
attribute [local irreducible] T.wp CV FWK
def Sent (u:UseFile) (land day:Int) (i:Nat) (v:Value) (hv:Cells):Prop :=
 if enoughB u land day (subsetL u.papers.length i) (leftAll u land day) then ∃ a n c,v = .slice (some a) n c /\ Sl IntE 1 hv (some a) n (subsetL u.papers.length i) /\ n <= c else v = .slice none 0 0
theorem subset_in {n i:Nat}:∀ v ∈ subsetL n i,0 <= v /\ v < (n:Int) := by
 intro v hv;unfold subsetL at hv;obtain ⟨j,hj,rfl⟩ := List.mem_map.1 hv;have := List.mem_range.1 (List.mem_filter.1 hj).1;omega
theorem subset_len {n i:Nat}:(subsetL n i).length <= n := by
 unfold subsetL;rw [List.length_map];exact Nat.le_trans (List.length_filter_le _ _) (by simp)
theorem bit_test {i j:Nat} (hi:i < 2 ^ 32):(wrap .i64 (((BitVec.ofInt 64 (Int.fdiv (i:Int) (2 ^ min (j:Int).toNat 64)) &&& BitVec.ofInt 64 1).toNat:Nat):Int) == 1) = i.testBit j := by
 have hq:∃ q:Nat,Int.fdiv (i:Int) (2 ^ min (j:Int).toNat 64) = (q:Int) /\ q <= i /\ q % 2 = (i / 2 ^ j) % 2 := by
  by_cases hj:j <= 64
  ·have hm:min (j:Int).toNat 64 = j := by simp; omega
   refine ⟨i / 2 ^ j,?_,Nat.div_le_self _ _,rfl⟩;rw [hm];have:(2 ^ j:Int) = ((2 ^ j:Nat):Int) := by simp
   rw [this,<- Int.ofNat_fdiv]
  ·have hm:min (j:Int).toNat 64 = 64 := by simp; omega
   refine ⟨0,?_,Nat.zero_le _,?_⟩
   ·rw [hm];have:(2 ^ 64:Int) = ((2 ^ 64:Nat):Int) := by simp
    rw [this,<- Int.ofNat_fdiv];have:i / 2 ^ 64 = 0 := Nat.div_eq_of_lt (by omega);rw [this]
   ·have:i / 2 ^ j = 0 := Nat.div_eq_of_lt (Nat.lt_of_lt_of_le hi (Nat.pow_le_pow_right (by omega) (by omega)));rw [this]
 obtain ⟨q,h1,h2,h3⟩ := hq;rw [h1];have a1:(BitVec.ofInt 64 (q:Int)).toNat = q := by rw [BitVec.toNat_ofInt]; omega
 have a2:(BitVec.ofInt 64 1).toNat = 1 := rfl;rw [BitVec.toNat_and,a1,a2,Nat.and_one_is_mod,wrap_id (by omega) (by omega),Nat.testBit_eq_decide_div_mod_eq,<- h3];by_cases e:q % 2 = 1
 ·rw [e]; rfl
 ·have:q % 2 = 0 := by omega
  rw [this]; rfl
theorem subset_take {n i j:Nat} (hj:j < n):((List.range n).take (j + 1)).filter (fun j => i.testBit j) = ((List.range n).take j).filter (fun j => i.testBit j) ++ (if i.testBit j then [j] else []) := by
 rw [List.take_succ_eq_append_getElem (by simpa using hj),List.filter_append];congr 1;simp [List.filter_cons]
theorem c74 {hc:Cells} {c0 i:Nat} {z0 z1 z2 z3 z4 z5:Addr} {f:FileC} {u:UseFile} {land day:Int} (hp:Parts hc) (hu:FileR hc f u) (hat:FileAt hc z0 f u) (hpap:u.papers.length <= 8) (hi:i < 2 ^ 32) (h1:hc.cell? z1 = some (.int .i64 (i:Int))) (h2:hc.cell? z2 = some (.int .i64 land)) (h3:hc.cell? z3 = some (.int .i64 day))
  {ap:Option Addr} {an ac:Nat} (h4:hc.cell? z4 = some (.slice ap an ac)) (hal:Sl IntE 1 hc ap an (leftAll u land day)) (h5:hc.cell? z5 = some (.chan (some c0))) :
  FWK XW Tryz.prog .deferred 65 #[.pointer (some z0),.pointer (some z1),.pointer (some z2),.pointer (some z3),.pointer (some z4),.pointer (some z5)] ⟨hc,[],[],[(c0,Sent u land day i)]⟩ fun _ _ => False := by
 refine w74 _ _ _ _ _ _ XW_ok ?_;unfold n74;have hn5 := hu.papers.1;refine t_build0 und50 inf3 fun b0 hb0 => ?_;have le0:LH.le ⟨hc,[],[],[(c0,Sent u land day i)]⟩ _ := LH.upd_le (x := (true,.cells #[] 3 (0,0))) hb0;refine gZ ?_;have g5 := Cells.cell?_le le0.1 hat.f5;refine gL1 g5 ?_;refine t_loop (fun mm vs h' => LH.le ⟨hc,[],[],[(c0,Sent u land day i)]⟩ h' /\ ∃ (j:Nat) (a:Addr) (n c:Nat),vs = [.slice (some a) n c,.int .i64 j] /\ j <= f.n5 /\ mm = f.n5 - j /\ Growing IntEnc 3 1 hc h'.get (some a) n c (((List.range u.papers.length).take j).filter (fun j => i.testBit j) |>.map fun j:Nat => (j:Int)))
  ⟨le0,0,_,0,0,rfl,Nat.zero_le _,rfl,⟨[],⟨rfl,.inr ⟨b0,#[],rfl,Cells.upd_self _ _ _,rfl,Nat.le_refl _,fun j v hv => by simp at hv⟩⟩,.nil⟩,fun a ha => by cases ha; exact hb0⟩ ?_
 rintro Y mm vs h₁ hY ⟨hle,j,a,n,c,rfl,hj,rfl,g⟩;refine gZ ?_;refine t_if (fun e1 => ?_) (fun e1 => ?_)
 ·have k1 := Cells.cell?_le hle.1 h1;refine gL0 k1 ?_;refine gZ ?_;rw [bit_test hi];have hst := subset_take (n := u.papers.length) (i := i) (j := j) (by omega);refine t_cond (fun b => ?_) (fun b => ?_)
  ·rw [if_pos b] at hst;refine t_build und50 inf3 (by decide) (by decide) (cells := #[.int .i64 (j:Int)]) (by kernel_rfl) fun r hr => ?_;have le2:h₁.le _ := LH.upd_le (x := (true,.cells #[.int .i64 (j:Int)] 3 (0,0))) hr;have hng := g.count IntEnc.len (by omega);have hlen:(((List.range u.papers.length).take j).filter (fun j => i.testBit j)).length <= 8 := Nat.le_trans (List.length_filter_le _ _) (by rw [List.length_take,List.length_range]; omega);rw [List.length_map] at hng;refine gZ ?_;refine t_grow (h₀ := ⟨hc,[],[],[(c0,Sent u land day i)]⟩) (x := (j:Int)) (ws := [.int .i64 (j:Int)]) rfl rfl und50 und50 inf3 rfl (by omega) (by omega) (g.le le2.1) (LH.le_trans hle le2) rfl rfl ?_ ?_ ?_
   ·intro j w hj;rw [add_plain,Nat.zero_add];exact cell_upd (by simpa using hj)
   ·intro w hw; simp at hw; subst hw; rfl
   ·intro p' c' h₂ hle2 _ g2;refine gZ ?_;obtain ⟨a',rfl⟩ : ∃ a',p' = some a' := by
     obtain ⟨vs,⟨_,h6⟩,_⟩ := g2.row;rcases h6 with ⟨_,h7,_⟩ | ⟨r,cs,h7,_⟩
     ·omega
     ·exact ⟨_,h7⟩
    refine t_again (hY (f.n5 - (j + 1)) _ _ (by omega) ⟨hle2,j + 1,a',n + 1,c',?_,by omega,rfl,by rw [hst,List.map_append]; exact g2⟩);rw [wrap_id (by omega) (by omega)]; rfl
  ·rw [if_neg (by rw [b]; simp),List.append_nil] at hst;refine t_again (hY (f.n5 - (j + 1)) _ _ (by omega) ⟨hle,j + 1,a,n,c,?_,by omega,rfl,by rw [hst]; exact g⟩);rw [wrap_id (by omega) (by omega)]; rfl
 ·refine gZ ?_;have htake:(((List.range u.papers.length).take j).filter (fun j => i.testBit j) |>.map fun j:Nat => (j:Int)) = subsetL u.papers.length i := by
   rw [List.take_of_length_le (by simp; omega)]; rfl
  rw [htake] at g;obtain ⟨g0,g1,g2,g3,g4,g5,g6⟩ := hat.le hle.1;have k2 := Cells.cell?_le hle.1 h2;have k3 := Cells.cell?_le hle.1 h3;have k4 := Cells.cell?_le hle.1 h4;have k5 := Cells.cell?_le hle.1 h5;refine gZ ?_;have hsub := subset_len (n := u.papers.length) (i := i);have hll:(leftAll u land day).length = u.items.toNat := by unfold leftAll; rw [List.length_map,List.length_range]
  refine t_gr (c71 (hp.le hle.1) (hu.le hle.1) land day (g.sl IntEnc.len (by omega) IntEnc.e (by omega)) subset_in (by omega) (hal.le IntE.grow hle.1) hll) ?_;rintro _ h₂ le2 rfl;have k5 := Cells.cell?_le le2.1 k5;refine gZ ?_;have hle2 := LH.le_trans hle le2;refine t_cond (fun b => ?_) (fun b => ?_)
  ·refine t_loadC k5 ?_;refine t_comm ?_;refine commW_send (z := .tuple #[]) (φ := Sent u land day i) (s := []) (hv := fun _ => none) (hr := h₂.get) hle2.2.2.2 ?_ (fun r => .inl rfl) (fun r x hx => by cases hx) ?_ (fun _ => rfl) (fun h => absurd rfl h)
   ·funext r; rfl
   ·have b':enoughB u land day (subsetL u.papers.length i) (leftAll u land day) = false := by simpa using b
    unfold Sent; rw [if_neg (by rw [b']; simp)]
  ·refine t_loadC k5 ?_;refine t_comm ?_;have g7 := g.le le2.1;obtain ⟨vs,⟨o1,o2⟩,rows⟩ := g7.row;rcases o2 with ⟨o3,_⟩ | ⟨r,cs,o3,o4,o5,o6,o7⟩
   ·cases o3
   ·cases o3;refine commW_send (z := .tuple #[]) (φ := Sent u land day i) (s := []) (hv := fun b => if b = r then h₂.get b else none) (hr := fun b => if b = r then none else h₂.get b) hle2.2.2.2 ?_ (fun b => ?_) (fun b x hx => ?_) ?_ (fun _ => rfl) (fun h => absurd rfl h)
    ·funext b;unfold Cells.add;by_cases e:b = r
     ·subst e; simp [o4]
     ·simp [e]
    ·by_cases e:b = r
     ·right; simp [e]
     ·left; simp [e]
    ·have hx':(if b = r then h₂.get b else none) = some x := hx;split at hx'
     ·rename_i e; subst e; rw [o4] at hx'; cases hx'; rfl
     ·cases hx'
    ·have b':enoughB u land day (subsetL u.papers.length i) (leftAll u land day) = true := by simpa using b
     unfold Sent; rw [if_pos b'];refine ⟨_,_,_,rfl,?_,o6⟩;refine rows.sl IntEnc.len (by omega) IntEnc.e (el := 3) ⟨o1,.inr ⟨r,cs,rfl,?_,o5,o6,o7⟩⟩ (by omega);show (if r = r then h₂.get r else none) = _;rw [if_pos rfl]; exact o4
end
end Go.Proofs.YtfkfohpnpljihaaGreatDoor
section
namespace Go.TM
open Go Go.Conc
variable {P:Program}
theorem t_newSt {X:XP} {Q:Leaf -> LH -> Prop} {h:LH} {e:TypeId} {v₀ v:Value} {k:Nat -> T} (h1:isOne v = true) (hk:∀ r,h.get r = none -> (k r).wp X P Q { h with get := h.get.upd r (true,.cells #[v] e (0,0)) }) :
  (T.new e #[v₀] fun r => T.store (Addr.add ⟨r,0,none⟩ 0) v (k r)).wp X P Q h := by
 refine t_new fun r hr => ?_;have own1:(h.get.upd r (true,.cells #[v₀] e (0,0))) r = some (true,.cells #[v₀] e (0,0)) := Cells.upd_self _ _ _;refine t_store h1 ⟨_,own1⟩ (v₀ := v₀) (by show Cells.cell? _ _ = _; exact cell_upd rfl) (Go.Proofs.YtfkfohpnpljihaaGreatDoor.frozen_plain (i := 0) own1) ?_;have hset:(h.get.upd r (true,.cells #[v₀] e (0,0))).setCell (Addr.add ⟨r,0,none⟩ 0) v = h.get.upd r (true,.cells #[v] e (0,0)) := by
  show Cells.setCell _ ⟨r,0,none⟩ v = _;rw [Go.Proofs.YtfkfohpnpljihaaGreatDoor.setCell_upd own1];funext b; unfold Cells.upd; by_cases e:b = r <;> simp [e]
 simp only [hset];exact hk r hr
theorem cell_freeze (F:Nat -> Bool) (h:Cells) (a:Addr):(freezeC F h).cell? a = h.cell? a := by
 unfold Cells.cell? freezeC;cases h a.block with
 | none => rfl
 | some x => obtain ⟨m,o⟩ := x; cases o <;> rfl
theorem rd_freeze (F:Nat -> Bool) (h:Cells):Rd h (freezeC F h) := fun a v hc => by rw [cell_freeze]; exact hc
theorem rd_drop {h:Cells} {c s:Nat} (hs:h c = some (true,.chan 0 #[] false s s false)):Rd h (dropC h c) := by
 intro a v hc;unfold Cells.cell? dropC at *;by_cases e:a.block = c
 ·rw [e,hs] at hc; cases hc
 ·rw [if_neg e]; exact hc
def Hand (c0:Nat) (h:LH):Prop := (h.chans = [] /\ ∃ s,h.get c0 = some (true,.chan 0 #[] false s s false)) \/ h.chans = [c0]
theorem spawnW_all {f:FuncId} {cap:Array Value} {h:LH} {Q:LH -> Prop} (c0:Nat) {φ:Value -> Cells -> Prop} (hgu:[] ∉ h.pend) (hst:Hand c0 h) (c:∀ hc,Rd h.get hc -> FWK XW P .deferred f cap ⟨hc,[],[],[(c0,φ)]⟩ fun _ _ => False)
  (hQ:∀ h',Rd h.get h'.get -> h'.chans = [c0] -> h'.todo = h.todo -> h'.pend = h.pend ++ [[(c0,φ)]] -> Q h'):SpawnW XT P (.func (.func f) #[] cap) #[] h Q := by
 have key:∀ h1:LH,Rd h.get h1.get -> h1.chans = [c0] -> h1.todo = h.todo -> h1.pend = h.pend -> SpawnW XT P (.func (.func f) #[] cap) #[] h1 Q := by
  intro h1 r1 c1 t1 p1;refine spawnW (fun _ => true) (freezeC (fun _ => true) h1.get) [(c0,φ)] (by simp) (hargs := cap) (by simp) ?_ (by rw [p1]; exact hgu) ?_ (c _ (r1.trans (rd_freeze _ _))) ?_
  ·intro r x hx;refine ⟨?_,hx⟩;unfold freezeC at hx;cases hy:h1.get r with
   | none => rw [hy] at hx; cases hx
   | some y => rw [hy] at hx; simp at hx; rw [<- hx]
  ·intro y hy;simp at hy; subst hy; rw [c1]; simp
  ·exact hQ _ (r1.trans (rd_freeze _ _)) c1 t1 (by show h1.pend ++ _ = _; rw [p1])
 rcases hst with ⟨h1,s,h2⟩ | h1
 ·refine SpawnW.opened hgu c0 s h2 (key _ (rd_drop h2) ?_ rfl rfl);show c0 :: h.chans = _;rw [h1]
 ·exact key h (Rd.refl _) h1 rfl rfl
theorem commW_gather {last:Bool} {shape:CommShape} {c0:Nat} {z:Value} {φ:Nat -> Value -> Cells -> Prop} {rem:List Nat} {h:LH} {Q:Value -> LH -> Prop} (hp:h.pend = rem.map fun i => [(c0,φ i)]) (hc:h.chans = [c0]) (hne:rem ≠ [])
  (hQ:∀ i rest v h₂,i ∈ rem -> (∀ j,j ∈ rem -> j = i \/ j ∈ rest) -> (∀ j,j ∈ rest -> j ∈ rem) -> rest.length + 1 = rem.length -> h₂.todo = h.todo -> h₂.pend = rest.map (fun i => [(c0,φ i)]) -> ((rest ≠ [] /\ h₂.chans = [c0]) \/ (rest = [] /\ h₂.chans = [] /\ ∃ s,h₂.get c0 = some (true,.chan 0 #[] false s s false))) ->
   (∃ hv,φ i v hv /\ hv.le h₂.get) -> h.get.le h₂.get -> Q (commResult #[rcase c0 z] shape 0 v true) h₂):CommW XT P last #[rcase c0 z] shape h Q := by
 refine CommW.closed (commW_recv ?_ (by rw [hp]; simpa using hne) ?_ ?_)
 ·intro k cc hk;cases k with
  | zero => simp at hk; subst hk; exact ⟨c0,z,rfl,by rw [hc]; simp⟩
  | succ k => simp at hk
 ·intro s hs;rw [hp] at hs;obtain ⟨i,hi,rfl⟩ := List.mem_map.1 hs;exact ⟨c0,φ i,[],0,z,rfl,rfl⟩
 ·intro pre ψ s post k c v hv z' hpe hcase hd hown hφ;rw [hp] at hpe;obtain ⟨l1,l2,rfl,hl1,hl2⟩ := List.map_eq_append_iff.1 hpe;obtain ⟨i,l3,rfl,hi,hl3⟩ := List.map_eq_cons_iff.1 hl2;cases hi;have hk0:k = 0 := by
   cases k with
   | zero => rfl
   | succ k => simp at hcase
  subst hk0;have le1:h.get.le (h.get.add hv) := Cells.le_add _ _;have le2:hv.le (h.get.add hv) := fun r x hr => Cells.add_right' hd hr;have hpend:pre ++ cons' [] post = (l1 ++ l3).map fun i => [(c0,φ i)] := by
   show pre ++ post = _;rw [<- hl1,<- hl3,List.map_append]
  by_cases hn:l1 ++ l3 = []
  ·right;refine ⟨c0,by show c0 ∈ h.chans; rw [hc]; simp,by show pre ++ cons' [] post = []; rw [hpend,hn]; rfl,fun s hs => ?_⟩;refine hQ i (l1 ++ l3) v _ (by simp) (fun j hj => ?_) (fun j hj => ?_) (by simp; omega) rfl hpend (.inr ⟨hn,?_,s,Cells.upd_self _ _ _⟩) ⟨hv,hφ,?_⟩ ?_
   ·simp at hj ⊢; grind
   ·simp at hj ⊢; grind
   ·show h.chans.filter _ = [];rw [hc]; simp
   ·exact Cells.le_trans le2 (Cells.le_upd _ hs)
   ·exact Cells.le_trans le1 (Cells.le_upd _ hs)
  ·left;refine hQ i (l1 ++ l3) v _ (by simp) (fun j hj => ?_) (fun j hj => ?_) (by simp; omega) rfl hpend (.inl ⟨hn,hc⟩) ⟨hv,hφ,le2⟩ le1
   ·simp at hj ⊢; grind
   ·simp at hj ⊢; grind
end Go.TM
namespace Go.Proofs.YtfkfohpnpljihaaGreatDoor
open Go Go.TM Go.Proofs
attribute [local irreducible] T.wp CV FWK
theorem Parts.rd {h h':Cells} (hl:Rd h h') (p:Parts h):Parts h' := fun j hj => hl _ _ (p j hj)
/-! ### fewerF is an order -/
theorem cmpI_neg (x y:Int):cmpI y x = - cmpI x y := by unfold cmpI; repeat' split <;> omega
theorem cmpL_neg:∀ a b:List Int,cmpL b a = - cmpL a b := by
 intro a
 induction a with
 | nil => intro b; cases b <;> rfl
 | cons x a ih =>
  intro b;cases b with
  | nil => rfl
  | cons y b =>
   simp only [cmpL];rw [cmpI_neg x y,ih b];by_cases e:cmpI x y = 0
   ·simp [e]
   ·rw [if_pos (by omega),if_pos e]
theorem cmpL_trans:∀ a b c:List Int,cmpL a b <= 0 -> cmpL b c <= 0 -> cmpL a c <= 0 := by
 intro a
 induction a with
 | nil => intro b c _ _; cases c <;> simp [cmpL]
 | cons x a ih =>
  intro b c h1 h2;cases b with
  | nil => simp [cmpL] at h1
  | cons y b =>
   cases c with
   | nil => simp [cmpL] at h2
   | cons z c =>
    simp only [cmpL] at h1 h2 ⊢;have := ih b c;unfold cmpI at h1 h2 ⊢;by_cases a1:x < y
    ·by_cases a2:y < z
     ·rw [if_pos (by rw [if_pos (show x < z by omega)]; omega),if_pos (show x < z by omega)]; omega
     ·by_cases a3:y = z
      ·subst a3; simp [a1]
      ·have:y > z := by omega
       simp [a2,this] at h2
    ·by_cases a4:x = y
     ·subst a4;simp at h1;by_cases a2:x < z
      ·simp [a2]
      ·by_cases a3:x = z
       ·subst a3; simp at h2 ⊢; exact this h1 h2
       ·have:x > z := by omega
        simp [a2,this] at h2
     ·have:x > y := by omega
      simp [a1,this] at h1
theorem fewer_neg (a b:List Int):fewerF b a = - fewerF a b := by
 unfold fewerF;by_cases e:a.length = b.length
 ·rw [if_neg (by omega),if_neg (by omega),cmpL_neg a b]
 ·rw [if_pos (by omega),if_pos (by omega)]; omega
theorem fewer_trans {a b c:List Int} (h1:fewerF a b <= 0) (h2:fewerF b c <= 0):fewerF a c <= 0 := by
 unfold fewerF at *;by_cases e1:a.length = b.length
 ·rw [if_neg (by omega)] at h1;by_cases e2:b.length = c.length
  ·rw [if_neg (by omega)] at h2;rw [if_neg (by omega)];exact cmpL_trans a b c h1 h2
  ·rw [if_pos (by omega)] at h2;rw [if_pos (by omega)]; omega
 ·rw [if_pos (by omega)] at h1;by_cases e2:b.length = c.length
  ·rw [if_pos (by omega)]; omega
  ·rw [if_pos (by omega)] at h2;rw [if_pos (by omega)]; omega
theorem fewer_self (a:List Int):fewerF a a <= 0 := by
 have := fewer_neg a a;omega
def okF (u:UseFile) (land day:Int) (i:Nat):Bool := enoughB u land day (subsetL u.papers.length i) (leftAll u land day)
def BestR (h:Cells) (u:UseFile) (land day:Int) (rem:List Nat) (p:Option Addr) (n:Nat):Prop :=
 (p = none /\ n = 0 /\ ∀ j,j < 2 ^ u.papers.length -> j ∉ rem -> okF u land day j = false) \/
 (∃ i a,p = some a /\ i < 2 ^ u.papers.length /\ okF u land day i = true /\ Sl IntE 1 h (some a) n (subsetL u.papers.length i) /\ ∀ j,j < 2 ^ u.papers.length -> j ∉ rem -> okF u land day j = true -> fewerF (subsetL u.papers.length i) (subsetL u.papers.length j) <= 0)
def KeepR (h':Cells) (u:UseFile) (land day:Int) (r:Value):Prop :=
 (openF u [landQ u land,dayQ day] ≠ 0 /\ r = .tuple #[.slice none 0 0,.int .i64 (openF u [landQ u land,dayQ day])]) \/
 (openF u [landQ u land,dayQ day] = 0 /\ ∃ p n c,r = .tuple #[.slice p n c,.int .i64 0] /\ BestR h' u land day [] p n /\ n <= c)
theorem BestR.skip {h h':Cells} {u:UseFile} {land day:Int} {rem rest:List Nat} {p:Option Addr} {n i:Nat} (b:BestR h u land day rem p n) (hr:∀ j,j ∈ rem -> j = i \/ j ∈ rest) (hi:okF u land day i = false) (hrd:Rd h h'):BestR h' u land day rest p n := by
 rcases b with ⟨h1,h2,h3⟩ | ⟨k,a,h1,h2,h3,h4,h5⟩
 ·refine .inl ⟨h1,h2,fun j hj hn => ?_⟩;by_cases e:j = i
  ·rw [e]; exact hi
  ·exact h3 j hj fun hm => (hr j hm).elim e hn
 ·refine .inr ⟨k,a,h1,h2,h3,h4.rd IntE.grow hrd,fun j hj hn ho => ?_⟩;by_cases e:j = i
  ·rw [e] at ho; exact absurd ho (by rw [hi]; simp)
  ·exact h5 j hj (fun hm => (hr j hm).elim e hn) ho
theorem BestR.take {h h':Cells} {u:UseFile} {land day:Int} {rem rest:List Nat} {p:Option Addr} {n i n':Nat} {a:Addr} (b:BestR h u land day rem p n) (hr:∀ j,j ∈ rem -> j = i \/ j ∈ rest) (hi:okF u land day i = true) (hlt:i < 2 ^ u.papers.length) (hs:Sl IntE 1 h' (some a) n' (subsetL u.papers.length i))
  (hb:p = none \/ ∀ k,okF u land day k = true -> Sl IntE 1 h p n (subsetL u.papers.length k) -> fewerF (subsetL u.papers.length i) (subsetL u.papers.length k) <= 0):BestR h' u land day rest (some a) n' := by
 rcases b with ⟨h1,h2,h3⟩ | ⟨k,a',h1,h2,h3,h4,h5⟩
 ·refine .inr ⟨i,a,rfl,hlt,hi,hs,fun j hj hn ho => ?_⟩;by_cases e:j = i
  ·rw [e]; exact fewer_self _
  ·have := h3 j hj fun hm => (hr j hm).elim e hn;rw [this] at ho; cases ho
 ·have hle := hb.resolve_left (by rw [h1]; simp) k h3 (by rw [h1]; exact h4);refine .inr ⟨i,a,rfl,hlt,hi,hs,fun j hj hn ho => ?_⟩;by_cases e:j = i
  ·rw [e]; exact fewer_self _
  ·exact fewer_trans hle (h5 j hj (fun hm => (hr j hm).elim e hn) ho)
theorem BestR.stay {h h':Cells} {u:UseFile} {land day:Int} {rem rest:List Nat} {p:Option Addr} {n i:Nat} (b:BestR h u land day rem p n) (hr:∀ j,j ∈ rem -> j = i \/ j ∈ rest) (hp:p ≠ none) (hrd:Rd h h')
  (hb:∀ k,Sl IntE 1 h p n (subsetL u.papers.length k) -> fewerF (subsetL u.papers.length k) (subsetL u.papers.length i) <= 0):BestR h' u land day rest p n := by
 rcases b with ⟨h1,h2,h3⟩ | ⟨k,a',h1,h2,h3,h4,h5⟩
 ·exact absurd h1 hp
 ·refine .inr ⟨k,a',h1,h2,h3,h4.rd IntE.grow hrd,fun j hj hn ho => ?_⟩;by_cases e:j = i
  ·rw [e]; exact hb k (by rw [h1]; exact h4)
  ·exact h5 j hj (fun hm => (hr j hm).elim e hn) ho
theorem Sl.same {h:Cells} {p:Option Addr} {n:Nat} {a b:List Int} (ha:Sl IntE 1 h p n a) (hb:Sl IntE 1 h p n b):a = b := by
 refine List.ext_getElem (by rw [<- ha.1,<- hb.1]) fun i h1 h2 => ?_;obtain ⟨x,c,e1,e2,e3⟩ := ha.at (i := i) (by rw [ha.1]; exact h1);obtain ⟨y,d,e4,e5,e6⟩ := hb.at (i := i) (by rw [hb.1]; exact h2);rw [e2] at e5; cases e5;unfold IntE at e3 e6;rw [e3] at e6; cases e6;rw [List.getElem?_eq_getElem h1] at e1;rw [List.getElem?_eq_getElem h2] at e4;exact (Option.some.inj e1).trans (Option.some.inj e4).symm
theorem sets_wrap {n:Nat} (hn:n <= 8):wrap .i64 (1 * 2 ^ min (Int.toNat (n:Int)) 64) = ((2 ^ n:Nat):Int) := by
 have e:min (Int.toNat (n:Int)) 64 = n := by simp; omega
 have h2:(2:Nat) ^ n <= 2 ^ 8 := Nat.pow_le_pow_right (by omega) hn;have e2:(1:Int) * 2 ^ n = ((2 ^ n:Nat):Int) := by simp
 rw [e,e2];generalize 2 ^ n = m at h2;rw [wrap_id (by omega) (by omega)]
set_option maxRecDepth 100000 in
theorem c33 {h:LH} (hch:h.chans = []) (hpe:h.pend = []) {f:FileC} {u:UseFile} (hp:Parts h.get) (hu:FileR h.get f u) (land day:Int) :
  FW XT Tryz.prog 30 #[fileV f u,.int .i64 land,.int .i64 day] h fun r h' => Rd h.get h'.get /\ h'.chans = [] /\ h'.pend = [] /\ h'.todo = h.todo /\ KeepR h'.get u land day r := by
 refine w33 _ _ _ _ _ _ _ _ _ _ _ _ _ _ _ XT_ok ?_;unfold n33;refine t_new fun r hr => ?_;have le0:h.le _ := LH.upd_le (x := (true,.cells #[.int .i64 u.items,.int .i64 u.lands,.int .i64 u.from_,.int .i64 u.idle,.slice f.p4 f.n4 f.c4,.slice f.p5 f.n5 f.c5,.slice f.p6 f.n6 f.c6] 26 (0,0))) hr;have hat:FileAt (h.get.upd r (true,.cells #[.int .i64 u.items,.int .i64 u.lands,.int .i64 u.from_,.int .i64 u.idle,.slice f.p4 f.n4 f.c4,.slice f.p5 f.n5 f.c5,.slice f.p6 f.n6 f.c6] 26 (0,0))) ⟨r,0,none⟩ f u :=
  ⟨cell_upd rfl,cell_upd rfl,cell_upd rfl,cell_upd rfl,cell_upd rfl,cell_upd rfl,cell_upd rfl⟩
 generalize hh0:({ h with get := h.get.upd r (true,.cells #[.int .i64 u.items,.int .i64 u.lands,.int .i64 u.from_,.int .i64 u.idle,.slice f.p4 f.n4 f.c4,.slice f.p5 f.n5 f.c5,.slice f.p6 f.n6 f.c6] 26 (0,0)) }:LH) = h0 at le0 ⊢;have hat:FileAt h0.get ⟨r,0,none⟩ f u := by rw [<- hh0]; exact hat
 refine t_new fun r1 hr1 => ?_;have le1:h0.le _ := LH.upd_le (x := (true,.cells #[.int .i64 land] 3 (0,0))) hr1;have z1:Cells.cell? (h0.get.upd r1 (true,.cells #[.int .i64 land] 3 (0,0))) ⟨r1,0,none⟩ = some (.int .i64 land) := cell_upd rfl;refine t_new fun r2 hr2 => ?_;have le2 := LH.upd_le (h := { h0 with get := h0.get.upd r1 (true,.cells #[.int .i64 land] 3 (0,0)) }) (x := (true,.cells #[.int .i64 day] 3 (0,0))) hr2;have z2:Cells.cell? ((h0.get.upd r1 (true,.cells #[.int .i64 land] 3 (0,0))).upd r2 (true,.cells #[.int .i64 day] 3 (0,0))) ⟨r2,0,none⟩ = some (.int .i64 day) := cell_upd rfl;have z1 := Cells.cell?_le le2.1 z1;have hat := hat.le (LH.le_trans le1 le2).1;obtain ⟨g0,g1,g2,g3,g4,g5,g6⟩ := id hat;have le02 := LH.le_trans le0 (LH.le_trans le1 le2);refine gZ ?_;refine t_gr (c58 u land) ?_;rintro v0 h₁ le3 ⟨q0,a0⟩;have z1 := Cells.cell?_le le3.1 z1;have z2 := Cells.cell?_le le3.1 z2;have hat := hat.le le3.1;obtain ⟨g0,g1,g2,g3,g4,g5,g6⟩ := id hat;refine gZ ?_;refine t_gr (c54 u day) ?_;rintro v1 h₂ le4 ⟨q1,a1⟩;have z1 := Cells.cell?_le le4.1 z1;have z2 := Cells.cell?_le le4.1 z2;have hat := hat.le le4.1;obtain ⟨g0,g1,g2,g3,g4,g5,g6⟩ := id hat;refine gZ ?_;refine asks2 q0 (a0.le le4) q1 a1 fun r' h₃ le5 hs => ?_;have z1 := Cells.cell?_le le5.1 z1;have z2 := Cells.cell?_le le5.1 z2;have hat := hat.le le5.1;obtain ⟨g0,g1,g2,g3,g4,g5,g6⟩ := id hat;refine gZ ?_;have le03 := LH.le_trans le02 (LH.le_trans (LH.le_trans le3 le4) le5);refine t_call (FW.top (c53 (f := f) (hp.le le03.1) (hu.le le03.1) hs)) ?_;rintro v h₄ ⟨le6,⟨hne,rfl⟩ | ⟨ho,d,m,rfl,hd,hm,k⟩⟩
 ·refine gZ ?_;have le04 := LH.le_trans le03 le6;refine t_cond (fun _ => ?_) (fun e => absurd (by simpa using e) hne);exact t_ret ⟨Rd.of_le le04.1,by rw [le04.2.1,hch],by rw [le04.2.2.1,hpe],le04.2.2.2,.inl ⟨hne,rfl⟩⟩
 refine gZ ?_;refine t_cond (fun e => by cases e) (fun _ => ?_);have hck := (open_num ho).2;have z1' := Cells.cell?_le le6.1 z1;have z2' := Cells.cell?_le le6.1 z2;refine gZ ?_;refine t_de (c63 k hck land day) ?_;rintro _ h₅ mv k5 ⟨p0,n0,c0,rfl,gl⟩;have le35 := Mv.le_of le6 hm mv;have le05 := LH.le_trans le03 le35;have hitn := (num_ok (open_num ho).1).1;have hll:(leftAll u land day).length = u.items.toNat := by unfold leftAll; rw [List.length_map,List.length_range]
 have hsl:Sl IntE 1 h₅.get p0 n0 (leftAll u land day) := gl.sl IntEnc.len (by omega) IntEnc.e (by omega);have hpap := (check_papers hck).1;have hu5 := hu.le le05.1;have hn5 := hu5.papers.1;refine gZ ?_;refine t_newSt rfl fun r3 hr3 => ?_;have le7 := LH.upd_le (x := (true,.cells #[.slice p0 n0 c0] 76 (0,0))) hr3;have z3:Cells.cell? (h₅.get.upd r3 (true,.cells #[.slice p0 n0 c0] 76 (0,0))) ⟨r3,0,none⟩ = some (.slice p0 n0 c0) := cell_upd rfl;refine t_makeChan und104 inf50 fun q hq => ?_;have le8 := LH.upd_le (x := (true,.chan 0 #[] false 0 0 false)) hq;refine t_unC ?_;refine t_newSt rfl fun r4 hr4 => ?_;have le9 := LH.upd_le (x := (true,.cells #[.chan (some q)] 129 (0,0))) hr4;have le38 := LH.le_trans le35 (LH.le_trans (LH.le_trans le7 le8) le9);have z1 := Cells.cell?_le le38.1 z1;have z2 := Cells.cell?_le le38.1 z2;have z3 := Cells.cell?_le (LH.le_trans le8 le9).1 z3;have hat := hat.le le38.1;obtain ⟨g0,g1,g2,g3,g4,g5,g6⟩ := id hat;have hsl := hsl.le IntE.grow (LH.le_trans (LH.le_trans le7 le8) le9).1;have le08 := LH.le_trans le03 le38;have z4:Cells.cell? (((h₅.get.upd r3 (true,.cells #[.slice p0 n0 c0] 76 (0,0))).upd q (true,.chan 0 #[] false 0 0 false)).upd r4 (true,.cells #[.chan (some q)] 129 (0,0))) ⟨r4,0,none⟩ = some (.chan (some q)) := cell_upd rfl;have hq' := le9.1 q _ (Cells.upd_self _ _ _);refine gL1 g5 ?_;have h256:2 ^ f.n5 <= 2 ^ 8 := Nat.pow_le_pow_right (by omega) (by omega);have hNe:(2:Nat) ^ f.n5 = 2 ^ u.papers.length := by rw [hn5]
 rw [sets_wrap (by omega)];generalize hN:(2:Nat) ^ f.n5 = N at h256 hNe ⊢;refine gZ ?_;refine t_loop (fun mm vs h' => ∃ j:Nat,vs = [.int .i64 j] /\ j <= N /\ mm = N - j /\ Rd (((h₅.get.upd r3 (true,.cells #[.slice p0 n0 c0] 76 (0,0))).upd q (true,.chan 0 #[] false 0 0 false)).upd r4 (true,.cells #[.chan (some q)] 129 (0,0))) h'.get /\ h'.todo = h.todo /\ h'.pend = (List.range j).map (fun i => [(q,Sent u land day i)]) /\ Hand q h' /\ (0 < j -> h'.chans = [q]))
  ⟨0,rfl,Nat.zero_le _,rfl,Rd.refl _,le08.2.2.2,by rw [le08.2.2.1,hpe]; rfl,.inl ⟨by rw [le08.2.1,hch],0,hq'⟩,fun hh => absurd hh (by omega)⟩ ?_
 rintro Y mm vs h₇ hY ⟨j,rfl,hj,rfl,rd7,td7,pd7,hand7,ch7⟩;refine gZ ?_;refine t_if (fun e1 => ?_) (fun e1 => ?_)
 ·refine t_newSt rfl fun r5 hr5 => ?_;have le10 := LH.upd_le (x := (true,.cells #[.int .i64 (j:Int)] 3 (0,0))) hr5;have z5:Cells.cell? (h₇.get.upd r5 (true,.cells #[.int .i64 (j:Int)] 3 (0,0))) ⟨r5,0,none⟩ = some (.int .i64 (j:Int)) := cell_upd rfl;have hand8:Hand q { h₇ with get := h₇.get.upd r5 (true,.cells #[.int .i64 (j:Int)] 3 (0,0)) } := by
   rcases hand7 with ⟨a1,s,a2⟩ | a1
   ·exact .inl ⟨a1,s,le10.1 _ _ a2⟩
   ·exact .inr a1
  have rd8 := rd7.trans (Rd.of_le le10.1);refine t_spawn (spawnW_all q (φ := Sent u land day j) (by show [] ∉ h₇.pend; rw [pd7]; simp) hand8 (fun hc hrd => ?_) (fun h₈ r8 c8 t8 p8 => ?_))
  ·have rdc := rd8.trans hrd;exact c74 ((hp.le le08.1).rd rdc) ((hu.le le08.1).rd rdc) (hat.rd rdc) hpap (by omega) (hrd _ _ z5) (rdc _ _ z1) (rdc _ _ z2) (rdc _ _ z3) (hsl.rd IntE.grow rdc) (rdc _ _ z4)
  ·refine t_again (hY (N - (j + 1)) _ _ (by omega) ⟨j + 1,?_,by omega,rfl,rd8.trans r8,t8.trans td7,?_,.inr c8,fun _ => c8⟩)
   ·rw [wrap_id (by omega) (by omega)]; rfl
   ·rw [p8,pd7,List.range_succ,List.map_append]; rfl
 ·refine gZ ?_;have hjN:j = N := by omega
  subst hjN;have hpos:0 < j := by rw [hNe]; exact Nat.pow_pos (by omega)
  refine t_loop (fun mm vs h' => ∃ (k:Nat) (rem:List Nat) (p:Option Addr) (n c:Nat),vs = [.slice p n c,.int .i64 k] /\ rem.length + k = j /\ mm = j - k /\ (∀ i ∈ rem,i < j) /\ Rd (((h₅.get.upd r3 (true,.cells #[.slice p0 n0 c0] 76 (0,0))).upd q (true,.chan 0 #[] false 0 0 false)).upd r4 (true,.cells #[.chan (some q)] 129 (0,0))) h'.get /\ h'.todo = h.todo /\ h'.pend = rem.map (fun i => [(q,Sent u land day i)]) /\
    ((rem ≠ [] /\ h'.chans = [q]) \/ (rem = [] /\ h'.chans = [] /\ ∃ s,h'.get q = some (true,.chan 0 #[] false s s false))) /\ BestR h'.get u land day rem p n /\ n <= c)
   ⟨0,List.range j,none,0,0,rfl,by simp,rfl,fun i hi => List.mem_range.1 hi,rd7,td7,pd7,.inl ⟨by simp; omega,ch7 hpos⟩,.inl ⟨rfl,rfl,fun i hi hn => absurd (List.mem_range.2 (by omega)) hn⟩,Nat.le_refl _⟩ ?_
  rintro Y2 mm vs h₈ hY2 ⟨k,rem,p,n,c,rfl,hk,rfl,hrem,rd8,td8,pd8,hst8,best,hcap⟩;refine gZ ?_;refine t_if (fun e2 => ?_) (fun e2 => ?_)
  ·have hne:rem ≠ [] := by rintro rfl; simp at hk; omega
   have hc8:h₈.chans = [q] := by
    rcases hst8 with ⟨_,a⟩ | ⟨a,_⟩
    ·exact a
    ·exact absurd a hne
   refine t_loadC (rd8 _ _ z4) ?_;refine t_comm (commW_gather (φ := Sent u land day) pd8 hc8 hne ?_);intro i rest v h₉ hi h1 h2 hlen ht hpd hst ⟨hv,hsent,hle⟩ hle9;have hcr:commResult #[Conc.rcase q (.slice none 0 0)] (CommShape.recv false) 0 v true = v := rfl;rw [hcr];have rd9 := Rd.of_le hle9;have next:∀ p' n' c',BestR h₉.get u land day rest p' n' -> n' <= c' -> Y2 [.slice p' n' c',.int .i64 (wrap .i64 ((k:Int) + 1))] h₉ := by
    intro p' n' c' hb hcap';refine hY2 (j - (k + 1)) _ _ (by omega) ⟨k + 1,rest,p',n',c',?_,by omega,rfl,fun i hi => hrem i (h2 i hi),rd8.trans rd9,ht.trans td8,hpd,hst,hb,hcap'⟩;rw [wrap_id (by omega) (by omega)]; rfl
   change (if okF u land day i = true then _ else _) at hsent;by_cases ok:okF u land day i = true
   ·rw [if_pos ok] at hsent;obtain ⟨a,n',c',rfl,hs9,hcap9⟩ := hsent;have hs9 := hs9.rd IntE.grow (Rd.of_le hle);refine gZ ?_;refine t_neNil und50 ?_;refine gZ ?_;refine t_cond (fun _ => ?_) (fun e => by cases e);refine t_eqNil und50 ?_;refine gZ ?_;refine t_cond (fun b => ?_) (fun b => ?_)
    ·exact t_again (next _ _ _ (best.take h1 ok (by have := hrem i hi; omega) hs9 (.inl (by simpa using b))) hcap9)
    ·have hpn:p ≠ none := by rintro rfl; cases b
     obtain ⟨k',a',hk',hs'⟩ : ∃ k' a',p = some a' /\ Sl IntE 1 h₈.get (some a') n (subsetL u.papers.length k') := by
      rcases best with ⟨b1,_⟩ | ⟨k',a',b1,_,_,b4,_⟩
      ·exact absurd b1 hpn
      ·exact ⟨k',a',b1,b4⟩
     subst hk';have hs'9 := hs'.rd IntE.grow rd9;refine t_pu (c75 hs9 hs'9) ?_;have same:∀ k2,Sl IntE 1 h₈.get (some a') n (subsetL u.papers.length k2) -> subsetL u.papers.length k2 = subsetL u.papers.length k' := by
      intro k2 h3;exact Sl.same h3 hs'
     refine gZ ?_;refine t_if (fun e3 => ?_) (fun e3 => ?_)
     ·refine t_again (next _ _ _ (best.take h1 ok (by have := hrem i hi; omega) hs9 (.inr fun k2 _ h3 => ?_)) hcap9);rw [same k2 h3]; omega
     ·refine t_again (next _ _ _ (best.stay h1 hpn rd9 fun k2 h3 => ?_) hcap);rw [same k2 h3,fewer_neg]; omega
   ·rw [if_neg ok] at hsent;subst hsent;refine gZ ?_;refine t_neNil und50 ?_;refine gZ ?_;refine t_cond (fun e => by cases e) (fun _ => ?_);exact t_again (next _ _ _ (best.skip h1 (by simpa using ok) rd9) hcap)
  ·refine gZ ?_;have hrem0:rem = [] := List.length_eq_zero_iff.1 (by omega);subst hrem0;obtain ⟨hc8,s,hq8⟩ : h₈.chans = [] /\ ∃ s,h₈.get q = some (true,.chan 0 #[] false s s false) := by
    rcases hst8 with ⟨a,_⟩ | ⟨_,a,b⟩
    ·exact absurd rfl a
    ·exact ⟨a,b⟩
   refine t_loadC (rd8 _ _ z4) ?_;refine t_close hq8 ?_;have rd9:Rd h₈.get (h₈.get.upd q (true,.chan 0 #[] true s s false)) := by
    intro a v hc;have hne:a.block ≠ q := by
     intro e;unfold Cells.cell? at hc;rw [e,hq8] at hc; cases hc
    unfold Cells.cell? at hc ⊢;rw [Cells.upd_ne _ _ hne]; exact hc
   have b9:BestR (h₈.get.upd q (true,.chan 0 #[] true s s false)) u land day [] p n := by
    rcases best with b1 | ⟨k2,a,b1,b2,b3,b4,b5⟩
    ·exact .inl b1
    ·exact .inr ⟨k2,a,b1,b2,b3,b4.rd IntE.grow rd9,b5⟩
   exact t_ret ⟨((Rd.of_le le08.1).trans rd8).trans rd9,hc8,pd8,td8,.inr ⟨ho,p,n,c,rfl,b9,hcap⟩⟩
end Go.Proofs.YtfkfohpnpljihaaGreatDoor
end
namespace Go.Proofs.YtfkfohpnpljihaaGreatDoor
section
open Go Go.TM Go.Proofs
set_option linter.unusedVariables false
set_option maxRecDepth 100000
variable {X:XP} {h:LH} {A:Value -> LH -> Prop}
def n16  : T := .cl 24 #[] fun v => .unAgg v fun l => .pi l fun n vs => .pi vs fun n_1 vs => .pi vs fun n_2 vs => .pi vs fun n_3 vs => .popS vs fun a n_4 c vs => .popS vs fun a_1 n_5 c_1 vs => .popS vs fun a_2 n_6 c_2 vs => .unNil vs (.cT 25 #[.agg #[n,.int .i64 n_1,.int .i64 n_2,.int .i64 n_3,.slice a n_4 c,.slice a_1 n_5 c_1,.slice a_2 n_6 c_2],.int .i64 20] fun v vs => .unAgg v fun l => .pi l fun n_7 vs_1 => .pi vs_1 fun n_8 vs_2 => .unNil vs_2 (.unCons vs fun v vs => .ui v fun n_9 => .unNil vs (.cT 25 #[.agg #[n,.int .i64 n_1,.int .i64 n_2,.int .i64 n_3,.slice a n_4 c,.slice a_1 n_5 c_1,.slice a_2 n_6 c_2],.int .i64 25] fun v vs => .unAgg v fun l => .pi l fun n_10 vs_3 => .pi vs_3 fun n_11 vs_4 => .unNil vs_4 (.unCons vs fun v vs => .ui v fun n_12 => .unNil vs (.cT 26 #[.agg #[n,.int .i64 n_1,.int .i64 n_2,.int .i64 n_3,.slice a n_4 c,.slice a_1 n_5 c_1,.slice a_2 n_6 c_2],.int .i64 0,.int .i64 1,.int .i64 16] fun v vs => .ui v fun n_13 => .unCons vs fun v vs => .ui v fun n_14 => .unNil vs (.cT 26 #[.agg #[n,.int .i64 n_1,.int .i64 n_2,.int .i64 n_3,.slice a n_4 c,.slice a_1 n_5 c_1,.slice a_2 n_6 c_2],.int .i64 0,.int .i64 1,.int .i64 18] fun v vs => .ui v fun n_15 => .unCons vs fun v vs => .ui v fun n_16 => .unNil vs (.cT 26 #[.agg #[n,.int .i64 n_1,.int .i64 n_2,.int .i64 n_3,.slice a n_4 c,.slice a_1 n_5 c_1,.slice a_2 n_6 c_2],.int .i64 0,.int .i64 1,.int .i64 19] fun v vs => .ui v fun n_17 => .unCons vs fun v vs => .ui v fun n_18 => .unNil vs (.cT 27 #[.agg #[n,.int .i64 n_1,.int .i64 n_2,.int .i64 n_3,.slice a n_4 c,.slice a_1 n_5 c_1,.slice a_2 n_6 c_2],.int .i64 0,.int .i64 1] fun v vs => .ui v fun n_19 => .unCons vs fun v vs => .ui v fun n_20 => .unNil vs (.cT 27 #[.agg #[n,.int .i64 n_1,.int .i64 n_2,.int .i64 n_3,.slice a n_4 c,.slice a_1 n_5 c_1,.slice a_2 n_6 c_2],.int .i64 1,.int .i64 2] fun v vs => .ui v fun n_21 => .unCons vs fun v vs => .ui v fun n_22 => .unNil vs (.cT 28 #[.agg #[n,.int .i64 n_1,.int .i64 n_2,.int .i64 n_3,.slice a n_4 c,.slice a_1 n_5 c_1,.slice a_2 n_6 c_2],.int .i64 0,.int .i64 25] fun v vs => .unS v fun a_3 n_23 c_3 => .unCons vs fun v vs => .ui v fun n_24 => .unNil vs (.cT 29 #[.agg #[n,.int .i64 n_1,.int .i64 n_2,.int .i64 n_3,.slice a n_4 c,.slice a_1 n_5 c_1,.slice a_2 n_6 c_2],.int .i64 0,.int .i64 20] fun v vs => .unS v fun a_4 n_25 c_4 => .unCons vs fun v vs => .ui v fun n_26 => .unNil vs (.cT 30 #[.agg #[n,.int .i64 n_1,.int .i64 n_2,.int .i64 n_3,.slice a n_4 c,.slice a_1 n_5 c_1,.slice a_2 n_6 c_2],.int .i64 0,.int .i64 25] fun v vs => .unS v fun a_5 n_27 c_5 => .unCons vs fun v vs => .ui v fun n_28 => .unNil vs (.sem false (Instr.buildSlice 30 2 #[(0,.int .i64 0),(1,.int .i64 2)]) fun v => .unS v fun a_6 n_29 c_6 => .cT 31 #[.agg #[n,.int .i64 n_1,.int .i64 n_2,.int .i64 n_3,.slice a n_4 c,.slice a_1 n_5 c_1,.slice a_2 n_6 c_2],.int .i64 0,.int .i64 25,.slice a_6 n_29 c_6] fun v vs => .unB v fun b => .unCons vs fun v vs => .ui v fun n => .unNil vs (.blk (bif n_9 != 0 then .rn [false] else bif n_12 != 0 then .rn [false] else bif n_14 != 0 then .rn [false] else bif n_16 != 0 then .rn [false] else bif n_18 != 0 then .rn [false] else bif n_20 != 0 then .rn [false] else bif n_22 != 0 then .rn [false] else bif n_24 != 0 then .rn [false] else bif n_26 != 0 then .rn [false] else bif n_28 != 0 then .rn [false] else bif n != 0 then .rn [false] else .ag [false]) (fun vs => .popB vs fun b_1 vs => .unNil vs (.blk (.cl 32 #[.int .i64 16,.int .i64 20] fun v => .unAgg v fun l => .pi l fun n vs => .pi vs fun n_30 vs => .unNil vs (.nd (.agg #[n_7,.int .i64 n_8]) (.sem false (Sem.bind (eqGuard BinOp.neq 29 (Operand.tmp 123) (Operand.tmp 124) (.agg #[n_7,.int .i64 n_8]) (.agg #[n,.int .i64 n_30])) fun __r => binOp BinOp.neq 29 (.agg #[n_7,.int .i64 n_8]) (.agg #[n,.int .i64 n_30])) fun v => .unB v fun b_2 => bif b_2 then .nU (.nd true (.nd true (.nd true (.nd true (.nd true (.nd true (.nd true (.nd true (.nd true (.nd true (.nd true (.nd true (.nd true (.nd true (.nd true (.nU (.nd true (.nU (.nd true (.nd true (.nd true (.nd true (.nd true (.nd true (.nd true (.nd true (.nU (.nd true (.nd true (.nd true (.nd true (.nd true (.nd true (.nd true (.nd true (.nU (.nd true (.nd true (.nd true (.nd true (.nd true (.nd true (.nd true (.rn [false])))))))))))))))))))))))))))))))))))))))))))) else .cl 32 #[.int .i64 18,.int .i64 25] fun v => .unAgg v fun l => .pi l fun n vs => .pi vs fun n_31 vs => .unNil vs (.nd (.agg #[n_10,.int .i64 n_11]) (.sem false (Sem.bind (eqGuard BinOp.neq 29 (Operand.tmp 127) (Operand.tmp 128) (.agg #[n_10,.int .i64 n_11]) (.agg #[n,.int .i64 n_31])) fun __r => binOp BinOp.neq 29 (.agg #[n_10,.int .i64 n_11]) (.agg #[n,.int .i64 n_31])) fun v => .unB v fun b_3 => bif b_3 then .nd b_3 (.nd true (.nd b_3 (.nd true (.nd true (.nd b_3 (.nd true (.nd true (.nd true (.nd b_3 (.nd true (.nd true (.nd true (.nd true (.nd b_3 (.nU (.nd true (.nU (.nd true (.nd true (.nd true (.nd true (.nd true (.nd true (.nd b_3 (.nd true (.nU (.nd true (.nd true (.nd true (.nd true (.nd true (.nd true (.nd b_3 (.nd true (.nU (.nd true (.nd true (.nd true (.nd true (.nd true (.nd true (.nd b_3 (.rn [false]))))))))))))))))))))))))))))))))))))))))))) else bif n_13 != 1 then .nb (n_13 != 1) (.nb (n_13 != 1) (.nd n_13 (.nf b_3 false (.nd b_3 (.nd true (.nb (n_13 != 1) (.nb (n_13 != 1) (.nd n_13 (.nf b_3 false (.nd b_3 (.nd true (.nd true (.nb (n_13 != 1) (.nb (n_13 != 1) (.nd n_13 (.nf b_3 false (.nd b_3 (.nd true (.nd true (.nd true (.nb (n_13 != 1) (.nb (n_13 != 1) (.nd n_13 (.nf b_3 false (.nd b_3 (.nU (.nd true (.nU (.nd true (.nd true (.nd true (.nd true (.nd true (.nb (n_13 != 1) (.nb (n_13 != 1) (.nd n_13 (.nf b_3 false (.nd b_3 (.nd true (.nU (.nd true (.nd true (.nd true (.nd true (.nd true (.nb (n_13 != 1) (.nb (n_13 != 1) (.nd n_13 (.nf b_3 false (.nd b_3 (.nd true (.nU (.nd true (.nd true (.nd true (.nd true (.nd true (.nb (n_13 != 1) (.nb (n_13 != 1) (.nd n_13 (.nf b_3 false (.nd b_3 (.rn [false]))))))))))))))))))))))))))))))))))))))))))))))))))))))))))))))) else bif n_15 != 0 then .nb (n_15 != 0) (.nb (n_15 != 0) (.nd n_15 (.nf (n_13 != 1) false (.nb (n_13 != 1) (.nb (n_13 != 1) (.nd n_13 (.nf b_3 false (.nd b_3 (.nd true (.nb (n_15 != 0) (.nb (n_15 != 0) (.nd n_15 (.nf (n_13 != 1) false (.nb (n_13 != 1) (.nb (n_13 != 1) (.nd n_13 (.nf b_3 false (.nd b_3 (.nd true (.nd true (.nb (n_15 != 0) (.nb (n_15 != 0) (.nd n_15 (.nf (n_13 != 1) false (.nb (n_13 != 1) (.nb (n_13 != 1) (.nd n_13 (.nf b_3 false (.nd b_3 (.nU (.nd true (.nU (.nd true (.nd true (.nd true (.nd true (.nb (n_15 != 0) (.nb (n_15 != 0) (.nd n_15 (.nf (n_13 != 1) false (.nb (n_13 != 1) (.nb (n_13 != 1) (.nd n_13 (.nf b_3 false (.nd b_3 (.nd true (.nU (.nd true (.nd true (.nd true (.nd true (.nb (n_15 != 0) (.nb (n_15 != 0) (.nd n_15 (.nf (n_13 != 1) false (.nb (n_13 != 1) (.nb (n_13 != 1) (.nd n_13 (.nf b_3 false (.nd b_3 (.nd true (.nU (.nd true (.nd true (.nd true (.nd true (.nb (n_15 != 0) (.nb (n_15 != 0) (.nd n_15 (.nf (n_13 != 1) false (.nb (n_13 != 1) (.nb (n_13 != 1) (.nd n_13 (.nf b_3 false (.nd b_3 (.rn [false])))))))))))))))))))))))))))))))))))))))))))))))))))))))))))))))))))))))))))) else bif n_17 != 2 then .nb (n_17 != 2) (.nb (n_17 != 2) (.nd n_17 (.nf (n_15 != 0) false (.nb (n_15 != 0) (.nb (n_15 != 0) (.nd n_15 (.nf (n_13 != 1) false (.nb (n_13 != 1) (.nb (n_13 != 1) (.nd n_13 (.nf b_3 false (.nd b_3 (.nd true (.nb (n_17 != 2) (.nb (n_17 != 2) (.nd n_17 (.nf (n_15 != 0) false (.nb (n_15 != 0) (.nb (n_15 != 0) (.nd n_15 (.nf (n_13 != 1) false (.nb (n_13 != 1) (.nb (n_13 != 1) (.nd n_13 (.nf b_3 false (.nd b_3 (.nU (.nd true (.nU (.nd true (.nd true (.nd true (.nb (n_17 != 2) (.nb (n_17 != 2) (.nd n_17 (.nf (n_15 != 0) false (.nb (n_15 != 0) (.nb (n_15 != 0) (.nd n_15 (.nf (n_13 != 1) false (.nb (n_13 != 1) (.nb (n_13 != 1) (.nd n_13 (.nf b_3 false (.nd b_3 (.nd true (.nU (.nd true (.nd true (.nd true (.nb (n_17 != 2) (.nb (n_17 != 2) (.nd n_17 (.nf (n_15 != 0) false (.nb (n_15 != 0) (.nb (n_15 != 0) (.nd n_15 (.nf (n_13 != 1) false (.nb (n_13 != 1) (.nb (n_13 != 1) (.nd n_13 (.nf b_3 false (.nd b_3 (.nd true (.nU (.nd true (.nd true (.nd true (.nb (n_17 != 2) (.nb (n_17 != 2) (.nd n_17 (.nf (n_15 != 0) false (.nb (n_15 != 0) (.nb (n_15 != 0) (.nd n_15 (.nf (n_13 != 1) false (.nb (n_13 != 1) (.nb (n_13 != 1) (.nd n_13 (.nf b_3 false (.nd b_3 (.rn [false])))))))))))))))))))))))))))))))))))))))))))))))))))))))))))))))))))))))))))))))))) else bif n_19 != 17 then .nb (n_19 != 17) (.nb (n_19 != 17) (.nd n_19 (.nf (n_17 != 2) false (.nb (n_17 != 2) (.nb (n_17 != 2) (.nd n_17 (.nf (n_15 != 0) false (.nb (n_15 != 0) (.nb (n_15 != 0) (.nd n_15 (.nf (n_13 != 1) false (.nb (n_13 != 1) (.nb (n_13 != 1) (.nd n_13 (.nf b_3 false (.nd b_3 (.nU (.nd true (.nU (.nd true (.nd true (.nb (n_19 != 17) (.nb (n_19 != 17) (.nd n_19 (.nf (n_17 != 2) false (.nb (n_17 != 2) (.nb (n_17 != 2) (.nd n_17 (.nf (n_15 != 0) false (.nb (n_15 != 0) (.nb (n_15 != 0) (.nd n_15 (.nf (n_13 != 1) false (.nb (n_13 != 1) (.nb (n_13 != 1) (.nd n_13 (.nf b_3 false (.nd b_3 (.nd true (.nU (.nd true (.nd true (.nb (n_19 != 17) (.nb (n_19 != 17) (.nd n_19 (.nf (n_17 != 2) false (.nb (n_17 != 2) (.nb (n_17 != 2) (.nd n_17 (.nf (n_15 != 0) false (.nb (n_15 != 0) (.nb (n_15 != 0) (.nd n_15 (.nf (n_13 != 1) false (.nb (n_13 != 1) (.nb (n_13 != 1) (.nd n_13 (.nf b_3 false (.nd b_3 (.nd true (.nU (.nd true (.nd true (.nb (n_19 != 17) (.nb (n_19 != 17) (.nd n_19 (.nf (n_17 != 2) false (.nb (n_17 != 2) (.nb (n_17 != 2) (.nd n_17 (.nf (n_15 != 0) false (.nb (n_15 != 0) (.nb (n_15 != 0) (.nd n_15 (.nf (n_13 != 1) false (.nb (n_13 != 1) (.nb (n_13 != 1) (.nd n_13 (.nf b_3 false (.nd b_3 (.rn [false]))))))))))))))))))))))))))))))))))))))))))))))))))))))))))))))))))))))))))))))))) else bif n_21 != 15 then .nU (.nd true (.nU (.nf (n_21 != 15) true (.nb (n_21 != 15) (.nb (n_21 != 15) (.nd n_21 (.nf (n_19 != 17) false (.nb (n_19 != 17) (.nb (n_19 != 17) (.nd n_19 (.nf (n_17 != 2) false (.nb (n_17 != 2) (.nb (n_17 != 2) (.nd n_17 (.nf (n_15 != 0) false (.nb (n_15 != 0) (.nb (n_15 != 0) (.nd n_15 (.nf (n_13 != 1) false (.nb (n_13 != 1) (.nb (n_13 != 1) (.nd n_13 (.nf b_3 false (.nd b_3 (.nd true (.nU (.nf (n_21 != 15) true (.nb (n_21 != 15) (.nb (n_21 != 15) (.nd n_21 (.nf (n_19 != 17) false (.nb (n_19 != 17) (.nb (n_19 != 17) (.nd n_19 (.nf (n_17 != 2) false (.nb (n_17 != 2) (.nb (n_17 != 2) (.nd n_17 (.nf (n_15 != 0) false (.nb (n_15 != 0) (.nb (n_15 != 0) (.nd n_15 (.nf (n_13 != 1) false (.nb (n_13 != 1) (.nb (n_13 != 1) (.nd n_13 (.nf b_3 false (.nd b_3 (.nd true (.nU (.nf (n_21 != 15) true (.nb (n_21 != 15) (.nb (n_21 != 15) (.nd n_21 (.nf (n_19 != 17) false (.nb (n_19 != 17) (.nb (n_19 != 17) (.nd n_19 (.nf (n_17 != 2) false (.nb (n_17 != 2) (.nb (n_17 != 2) (.nd n_17 (.nf (n_15 != 0) false (.nb (n_15 != 0) (.nb (n_15 != 0) (.nd n_15 (.nf (n_13 != 1) false (.nb (n_13 != 1) (.nb (n_13 != 1) (.nd n_13 (.nf b_3 false (.nd b_3 (.rn [false]))))))))))))))))))))))))))))))))))))))))))))))))))))))))))))))))))))))))) else bif b then .nU (.nd b (.nd b (.nf (n_21 != 15) false (.nb (n_21 != 15) (.nb (n_21 != 15) (.nd n_21 (.nf (n_19 != 17) false (.nb (n_19 != 17) (.nb (n_19 != 17) (.nd n_19 (.nf (n_17 != 2) false (.nb (n_17 != 2) (.nb (n_17 != 2) (.nd n_17 (.nf (n_15 != 0) false (.nb (n_15 != 0) (.nb (n_15 != 0) (.nd n_15 (.nf (n_13 != 1) false (.nb (n_13 != 1) (.nb (n_13 != 1) (.nd n_13 (.nf b_3 false (.nd b_3 (.nd b (.nd b (.nf (n_21 != 15) false (.nb (n_21 != 15) (.nb (n_21 != 15) (.nd n_21 (.nf (n_19 != 17) false (.nb (n_19 != 17) (.nb (n_19 != 17) (.nd n_19 (.nf (n_17 != 2) false (.nb (n_17 != 2) (.nb (n_17 != 2) (.nd n_17 (.nf (n_15 != 0) false (.nb (n_15 != 0) (.nb (n_15 != 0) (.nd n_15 (.nf (n_13 != 1) false (.nb (n_13 != 1) (.nb (n_13 != 1) (.nd n_13 (.nf b_3 false (.nd b_3 (.nd b (.nd b (.nf (n_21 != 15) false (.nb (n_21 != 15) (.nb (n_21 != 15) (.nd n_21 (.nf (n_19 != 17) false (.nb (n_19 != 17) (.nb (n_19 != 17) (.nd n_19 (.nf (n_17 != 2) false (.nb (n_17 != 2) (.nb (n_17 != 2) (.nd n_17 (.nf (n_15 != 0) false (.nb (n_15 != 0) (.nb (n_15 != 0) (.nd n_15 (.nf (n_13 != 1) false (.nb (n_13 != 1) (.nb (n_13 != 1) (.nd n_13 (.nf b_3 false (.nd b_3 (.rn [false]))))))))))))))))))))))))))))))))))))))))))))))))))))))))))))))))))))))))) else .sem false (Instr.buildSlice 30 1 #[(0,.int .i64 1)]) fun v => .unS v fun a n c => .nS a_5 n_27 c_5 (.nd b (.nd b (.nf (n_21 != 15) false (.nb (n_21 != 15) (.nb (n_21 != 15) (.nd n_21 (.nf (n_19 != 17) false (.nb (n_19 != 17) (.nb (n_19 != 17) (.nd n_19 (.nf (n_17 != 2) false (.nb (n_17 != 2) (.nb (n_17 != 2) (.nd n_17 (.nf (n_15 != 0) false (.nb (n_15 != 0) (.nb (n_15 != 0) (.nd n_15 (.nf (n_13 != 1) false (.nb (n_13 != 1) (.nb (n_13 != 1) (.nd n_13 (.nf b_3 false (.nd b_3 (.cB 33 #[.slice a_5 n_27 c_5,.slice a n c] fun b_4 => .nd b (.nd b (.nf (n_21 != 15) false (.nb (n_21 != 15) (.nb (n_21 != 15) (.nd n_21 (.nf (n_19 != 17) false (.nb (n_19 != 17) (.nb (n_19 != 17) (.nd n_19 (.nf (n_17 != 2) false (.nb (n_17 != 2) (.nb (n_17 != 2) (.nd n_17 (.nf (n_15 != 0) false (.nb (n_15 != 0) (.nb (n_15 != 0) (.nd n_15 (.nf (n_13 != 1) false (.nb (n_13 != 1) (.nb (n_13 != 1) (.nd n_13 (.nf b_3 false (.nd b_3 (bif !b_4 then .rn [false] else .ag [b_1])))))))))))))))))))))))))))))))))))))))))))))))))))))) (fun vs => .popB vs fun b vs => .unNil vs (.sem false (Instr.buildSlice 76 3 #[(0,.int .i64 1),(1,.int .i64 2),(2,.int .i64 0)]) fun v => .unS v fun a n c => .cB 34 #[.slice a_3 n_23 c_3,.slice a n c] fun b => bif b then .cl 32 #[.int .i64 16,.int .i64 20] fun v => .unAgg v fun l => .pi l fun n vs => .pi vs fun n_30 vs => .unNil vs (.cl 32 #[.int .i64 16,.int .i64 20] fun v => .unAgg v fun l => .pi l fun n_31 vs => .pi vs fun n_32 vs => .unNil vs (.sem false (Instr.buildSlice 79 2 #[(0,.agg #[.int .i64 1,.int .i64 0,.int .i64 n,.int .i64 n_30]),(1,.agg #[.int .i64 2,.int .i64 0,.int .i64 n_31,.int .i64 n_32])]) fun v => .unS v fun a n c => .cB 35 #[.slice a_4 n_25 c_4,.slice a n c] fun b => .rt (.bool b))) else .rt (.bool false))) (fun vs => .popB vs fun b vs => .unNil vs (.rt (.bool b))) fun x x_1 => .fail)) (fun vs => .popB vs fun b vs => .unNil vs (.rt (.bool b))) fun x x_1 => .fail))))))))))))))
theorem w16  : FX X 8 #[] h A (n16) := fk [1,2,4] [] [⟨17,[(0,.bool)],[1,2,4],[],[],[]⟩,⟨15,[(0,.bool)],[1,2,4],[],[],[]⟩] Tryz.f8
end
section
open Go Go.TM Go.Proofs
attribute [local irreducible] T.wp CV FWK
def exU:UseFile := ⟨3,2,10,5,[⟨21,23⟩],[⟨⟨12,14⟩,0,[0,1]⟩,⟨⟨19,19⟩,0,[0]⟩,⟨⟨17,26⟩,0,[2]⟩,⟨⟨18,18⟩,1,[0,1]⟩],[⟨20,0,[0,1,2]⟩,⟨25,0,[0,2]⟩]⟩
theorem c42 {h:LH} (a b:Int):Pu Tryz.prog 32 #[.int .i64 a,.int .i64 b] h (.agg #[.int .i64 a,.int .i64 b]) := by
 refine w42 _ _ X0_ok ?_;unfold n42;exact t_ret ⟨rfl,rfl⟩
theorem c35 {h:LH} {p q:Option Addr} {n c m d:Nat} {a b:List Int} (ha:Sl IntE 1 h.get p n a) (hb:Sl IntE 1 h.get q m b):Pu Tryz.prog 33 #[.slice p n c,.slice q m d] h (.bool (decide (a = b))) := by
 refine w35 _ _ _ _ _ _ X0_ok ?_;unfold n35;have hn := ha.1;have hm := hb.1;have hbn := ha.2.1;have hbm := hb.2.1;refine t_cond (fun e => ?_) (fun e => ?_)
 ·have:a ≠ b := by rintro rfl; simp at e; omega
  exact t_ret ⟨by simp [this],rfl⟩
 have hnm:n = m := by simp at e; omega
 refine t_loop (fun mm vs h' => h = h' /\ ∃ i:Nat,vs = [.bool false,.int .i64 i] /\ i <= n /\ mm = n - i /\ a.take i = b.take i) ⟨rfl,0,rfl,Nat.zero_le _,rfl,rfl⟩ ?_;rintro Y mm vs _ hY ⟨rfl,i,rfl,hi,rfl,hc⟩;refine gZ ?_;refine t_if (fun e => ?_) (fun e => ?_)
 ·obtain ⟨x,a1,hx,ha1,e1⟩ := ha.at (i := i) (by omega);obtain ⟨y,a2,hy,ha2,e2⟩ := hb.at (i := i) (by omega);unfold IntE at e1 e2;refine gZ ?_;refine t_cond (fun b1 => ?_) (fun b1 => ?_)
  ·refine gZ ?_;have:a ≠ b := by rintro rfl; rw [hx] at hy; cases hy; simp at b1
   exact t_ret ⟨by simp [this],rfl⟩
  ·have b2:x = y := by simpa using b1
   refine t_again (hY (n - (i + 1)) _ _ (by omega) ⟨rfl,i + 1,?_,by omega,rfl,?_⟩)
   ·rw [wrap_id (by omega) (by omega)]; rfl
   ·rw [List.take_add_one,List.take_add_one,hc,hx,hy,b2]
 ·refine gZ ?_;rw [List.take_of_length_le (by omega),List.take_of_length_le (by omega)] at hc;exact t_ret ⟨by simp [hc],rfl⟩
theorem c25 {h:LH} {p q:Option Addr} {n c m d:Nat} {a b:List Int} (ha:Sl IntE 1 h.get p n a) (hb:Sl IntE 1 h.get q m b):Pu Tryz.prog 34 #[.slice p n c,.slice q m d] h (.bool (decide (a = b))) := by
 refine w25 _ _ _ _ _ _ X0_ok ?_;unfold n25;have hn := ha.1;have hm := hb.1;have hbn := ha.2.1;have hbm := hb.2.1;refine t_cond (fun e => ?_) (fun e => ?_)
 ·have:a ≠ b := by rintro rfl; simp at e; omega
  exact t_ret ⟨by simp [this],rfl⟩
 have hnm:n = m := by simp at e; omega
 refine t_loop (fun mm vs h' => h = h' /\ ∃ i:Nat,vs = [.bool false,.int .i64 i] /\ i <= n /\ mm = n - i /\ a.take i = b.take i) ⟨rfl,0,rfl,Nat.zero_le _,rfl,rfl⟩ ?_;rintro Y mm vs _ hY ⟨rfl,i,rfl,hi,rfl,hc⟩;refine gZ ?_;refine t_if (fun e => ?_) (fun e => ?_)
 ·obtain ⟨x,a1,hx,ha1,e1⟩ := ha.at (i := i) (by omega);obtain ⟨y,a2,hy,ha2,e2⟩ := hb.at (i := i) (by omega);unfold IntE at e1 e2;refine gZ ?_;refine t_cond (fun b1 => ?_) (fun b1 => ?_)
  ·refine gZ ?_;have:a ≠ b := by rintro rfl; rw [hx] at hy; cases hy; simp at b1
   exact t_ret ⟨by simp [this],rfl⟩
  ·have b2:x = y := by simpa using b1
   refine t_again (hY (n - (i + 1)) _ _ (by omega) ⟨rfl,i + 1,?_,by omega,rfl,?_⟩)
   ·rw [wrap_id (by omega) (by omega)]; rfl
   ·rw [List.take_add_one,List.take_add_one,hc,hx,hy,b2]
 ·refine gZ ?_;rw [List.take_of_length_le (by omega),List.take_of_length_le (by omega)] at hc;exact t_ret ⟨by simp [hc],rfl⟩
end
section
open Go Go.TM Go.Proofs
attribute [local irreducible] T.wp CV FWK
theorem t_buildG {X:XP} {Q:Leaf -> LH -> Prop} {h:LH} {k:Value -> T} {t el:TypeId} {n s b:Nat} {parts:Array (Nat × Value)} {z:Value} {cells:Array Value} (hu:Tryz.prog.underlying t = some (.slice el)) (hi:(Tryz.prog.info? el).map (fun i => (i.size,i.bytes,i.zero)) = some (s,b,some z)) (hn:n * s <= 2 ^ 24) (hpos:n * s ≠ 0)
  (hf:Instr.fill (fun i => some (i * s,s)) ((Array.range (n * s)).map (z.cells[· % z.cells.size]!)) parts.toList = some cells)
  (hk:∀ r h',h.le h' -> h.get r = none -> h'.get r = some (true,.cells cells el (0,0)) -> (k (.slice (some ⟨r,0,none⟩) n n)).wp X Tryz.prog Q h'):(T.sem false (Instr.buildSlice t n parts) k).wp X Tryz.prog Q h :=
 t_build hu hi hn hpos hf fun r hr => hk r _ (LH.upd_le hr) hr (Cells.upd_self _ _ _)
theorem sl_ints {h:Cells} {r:Nat} {m:Bool} {el:TypeId} {l:List Int} {cs:Array Value} (hcs:cs = (l.map (Value.int .i64)).toArray) (hr:h r = some (m,.cells cs el (0,0))) (hb:l.length < 4611686018427387904):Sl IntE 1 h (some ⟨r,0,none⟩) l.length l := by
 refine ⟨rfl,hb,fun i x hx => ⟨_,rfl,?_⟩⟩;unfold IntE;rw [add_plain,add_plain];subst hcs;simp [Cells.cell?,hr,hx]
theorem cell_row {h:Cells} {r i:Nat} {m:Bool} {cs:Array Value} {el:TypeId} {v:Value} (hr:h r = some (m,.cells cs el (0,0))) (hv:cs[i]? = some v):h.cell? ⟨r,i,none⟩ = some v := by
 simp [Cells.cell?,hr,hv]
theorem exRep {h:Cells} {r1 r2 r3 r4 r5 r6 r7 r8 r9:Nat} (e1:h r1 = some (true,.cells #[.int .i64 21,.int .i64 23] 29 (0,0))) (e2:h r2 = some (true,.cells #[.int .i64 0,.int .i64 1] 3 (0,0))) (e3:h r3 = some (true,.cells #[.int .i64 0] 3 (0,0))) (e4:h r4 = some (true,.cells #[.int .i64 2] 3 (0,0))) (e5:h r5 = some (true,.cells #[.int .i64 0,.int .i64 1] 3 (0,0)))
  (e6:h r6 = some (true,.cells #[.int .i64 12,.int .i64 14,.int .i64 0,.slice (some ⟨r2,0,none⟩) 2 2,.int .i64 19,.int .i64 19,.int .i64 0,.slice (some ⟨r3,0,none⟩) 1 1,.int .i64 17,.int .i64 26,.int .i64 0,.slice (some ⟨r4,0,none⟩) 1 1,.int .i64 18,.int .i64 18,.int .i64 1,.slice (some ⟨r5,0,none⟩) 2 2] 32 (0,0)))
  (e7:h r7 = some (true,.cells #[.int .i64 0,.int .i64 1,.int .i64 2] 3 (0,0))) (e8:h r8 = some (true,.cells #[.int .i64 0,.int .i64 2] 3 (0,0))) (e9:h r9 = some (true,.cells #[.int .i64 20,.int .i64 0,.slice (some ⟨r7,0,none⟩) 3 3,.int .i64 25,.int .i64 0,.slice (some ⟨r8,0,none⟩) 2 2] 34 (0,0))) :
  FileR h ⟨some ⟨r1,0,none⟩,1,1,some ⟨r6,0,none⟩,4,4,some ⟨r9,0,none⟩,2,2⟩ exU := by
 have cr:∀ {r i j:Nat} {m:Bool} {cs:Array Value} {el:TypeId} {v:Value},h r = some (m,.cells cs el (0,0)) -> cs[i + j]? = some v -> h.cell? (Addr.add (Addr.add ⟨r,0,none⟩ i) j) = some v := by
  intro r i j m cs el v hr hv;rw [add_plain,add_plain,Nat.zero_add]; exact cell_row hr hv
 refine ⟨⟨rfl,by show (1:Nat) < _; omega,?_⟩,⟨rfl,by show (4:Nat) < _; omega,?_⟩,⟨rfl,by show (2:Nat) < _; omega,?_⟩⟩
 ·intro i x hx
  match i,hx with
  | 0,hx => cases hx; exact ⟨_,rfl,cr e1 rfl,cr e1 rfl⟩
  | i + 1,hx => simp [exU] at hx
 ·intro i x hx
  match i,hx with
  | 0,hx => cases hx; exact ⟨_,rfl,cr e6 rfl,cr e6 rfl,cr e6 rfl,_,_,_,cr e6 rfl,sl_ints (l := [0,1]) rfl e2 (by show (2:Nat) < _; omega)⟩
  | 1,hx => cases hx; exact ⟨_,rfl,cr e6 rfl,cr e6 rfl,cr e6 rfl,_,_,_,cr e6 rfl,sl_ints (l := [0]) rfl e3 (by show (1:Nat) < _; omega)⟩
  | 2,hx => cases hx; exact ⟨_,rfl,cr e6 rfl,cr e6 rfl,cr e6 rfl,_,_,_,cr e6 rfl,sl_ints (l := [2]) rfl e4 (by show (1:Nat) < _; omega)⟩
  | 3,hx => cases hx; exact ⟨_,rfl,cr e6 rfl,cr e6 rfl,cr e6 rfl,_,_,_,cr e6 rfl,sl_ints (l := [0,1]) rfl e5 (by show (2:Nat) < _; omega)⟩
  | i + 4,hx => simp [exU] at hx
 ·intro i x hx
  match i,hx with
  | 0,hx => cases hx; exact ⟨_,rfl,cr e9 rfl,cr e9 rfl,_,_,_,cr e9 rfl,sl_ints (l := [0,1,2]) rfl e7 (by show (3:Nat) < _; omega)⟩
  | 1,hx => cases hx; exact ⟨_,rfl,cr e9 rfl,cr e9 rfl,_,_,_,cr e9 rfl,sl_ints (l := [0,2]) rfl e8 (by show (2:Nat) < _; omega)⟩
  | i + 2,hx => simp [exU] at hx
set_option maxRecDepth 100000 in
theorem c52 {h:LH}:Gr Tryz.prog 24 #[] h fun r h' => ∃ f,r = fileV f exU /\ FileR h'.get f exU := by
 refine w52 X0_ok ?_;unfold n52;refine t_pu (c42 _ _) ?_;refine gZ ?_;refine t_buildG und22 inf30 (by decide) (by decide) (cells := #[.int .i64 21,.int .i64 23]) (by kernel_rfl) fun r1 h1 le1 _ e1 => ?_;refine gZ ?_;refine t_pu (c42 _ _) ?_;refine gZ ?_;refine t_buildG und50 inf3 (by decide) (by decide) (cells := #[.int .i64 0,.int .i64 1]) (by kernel_rfl) fun r2 h2 le2 _ e2 => ?_;refine gZ ?_;refine t_pu (c42 _ _) ?_;refine gZ ?_;refine t_buildG und50 inf3 (by decide) (by decide) (cells := #[.int .i64 0]) (by kernel_rfl) fun r3 h3 le3 _ e3 => ?_;refine gZ ?_;refine t_pu (c42 _ _) ?_;refine gZ ?_;refine t_buildG und50 inf3 (by decide) (by decide) (cells := #[.int .i64 2]) (by kernel_rfl) fun r4 h4 le4 _ e4 => ?_;refine gZ ?_;refine t_pu (c42 _ _) ?_;refine gZ ?_;refine t_buildG und50 inf3 (by decide) (by decide) (cells := #[.int .i64 0,.int .i64 1]) (by kernel_rfl) fun r5 h5 le5 _ e5 => ?_;refine gZ ?_;refine t_buildG und23 inf69 (by decide) (by decide) (cells := #[.int .i64 12,.int .i64 14,.int .i64 0,.slice (some ⟨r2,0,none⟩) 2 2,.int .i64 19,.int .i64 19,.int .i64 0,.slice (some ⟨r3,0,none⟩) 1 1,.int .i64 17,.int .i64 26,.int .i64 0,.slice (some ⟨r4,0,none⟩) 1 1,.int .i64 18,.int .i64 18,.int .i64 1,.slice (some ⟨r5,0,none⟩) 2 2]) (by kernel_rfl) fun r6 h6 le6 _ e6 => ?_;refine gZ ?_;refine t_buildG und50 inf3 (by decide) (by decide) (cells := #[.int .i64 0,.int .i64 1,.int .i64 2]) (by kernel_rfl) fun r7 h7 le7 _ e7 => ?_;refine gZ ?_;refine t_buildG und50 inf3 (by decide) (by decide) (cells := #[.int .i64 0,.int .i64 2]) (by kernel_rfl) fun r8 h8 le8 _ e8 => ?_;refine gZ ?_;refine t_buildG und24 inf64 (by decide) (by decide) (cells := #[.int .i64 20,.int .i64 0,.slice (some ⟨r7,0,none⟩) 3 3,.int .i64 25,.int .i64 0,.slice (some ⟨r8,0,none⟩) 2 2]) (by kernel_rfl) fun r9 h9 le9 _ e9 => ?_;refine gZ ?_;have l89 := le9;have l79 := LH.le_trans le8 l89;have l69 := LH.le_trans le7 l79;have l59 := LH.le_trans le6 l69;have l49 := LH.le_trans le5 l59;have l39 := LH.le_trans le4 l49;have l29 := LH.le_trans le3 l39;have l19 := LH.le_trans le2 l29;have e1 := l19.1 _ _ e1;have e2 := l29.1 _ _ e2;have e3 := l39.1 _ _ e3;have e4 := l49.1 _ _ e4;have e5 := l59.1 _ _ e5;have e6 := l69.1 _ _ e6;have e7 := l79.1 _ _ e7;have e8 := l89.1 _ _ e8;refine t_ret ⟨LH.le_trans le1 l19,⟨some ⟨r1,0,none⟩,1,1,some ⟨r6,0,none⟩,4,4,some ⟨r9,0,none⟩,2,2⟩,rfl,?_⟩;exact exRep e1 e2 e3 e4 e5 e6 e7 e8 e9
end
section
open Go Go.TM Go.Proofs
attribute [local irreducible] T.wp CV FWK
theorem le_updNew {h h':LH} {m:Nat} {x:Bool × Obj} (hl:h.le h') (hm:h.get m = none):h.le { h' with get := h'.get.upd m x } := ⟨fun b y hb => by
 have:b ≠ m := by rintro rfl; rw [hm] at hb; cases hb
 show h'.get.upd m x b = _;rw [Cells.upd_ne _ _ this]; exact hl.1 b y hb,hl.2⟩
theorem mapAt_le {h h':Cells} {m:Nat} {es:Array MapEntry} (hl:h.le h') (hm:MapAt h m es):MapAt h' m es := by
 obtain ⟨c,hc⟩ := hm;exact ⟨c,hl _ _ hc⟩
theorem und1248:Tryz.prog.underlying 295 = some (.map 297 4) := by kernel_rfl
theorem und1251:Tryz.prog.underlying 298 = some (.map 176 4) := by kernel_rfl
theorem und1252:Tryz.prog.underlying 299 = some (.map 178 4) := by kernel_rfl
theorem und1215:Tryz.prog.underlying 278 = some (.slice 277) := by kernel_rfl
theorem inf157:(Tryz.prog.info? 277).map (fun i => (i.size,i.bytes,i.zero)) = some (1,8,some .nilFunc) := by kernel_rfl
theorem keyPl (e:Int) (s:ByteArray):FKey Tryz.prog 297 (.agg #[.int .i64 e,.string s]) := .inr ⟨[.int .i64 e,.string s],rfl,flat_of (ks := [.i,.s]) (by kernel_rfl) rfl (fun i k v hk hv => by
 match i,hk,hv with
 | 0,hk,hv => cases hk; cases hv; exact ⟨_,rfl⟩
 | 1,hk,hv => cases hk; cases hv; exact ⟨_,rfl⟩)⟩
theorem keyMv (a b c:Int):FKey Tryz.prog 176 (.agg #[.int .i64 a,.int .i64 b,.int .i64 c]) := .inr ⟨_,rfl,flatMv a b c⟩
theorem keyKn (a b c d:Int):FKey Tryz.prog 178 (.agg #[.int .i64 a,.int .i64 b,.int .i64 c,.int .i64 d]) := .inr ⟨[.int .i64 a,.int .i64 b,.int .i64 c,.int .i64 d],rfl,flat_ints (vs := [a,b,c,d]) (by kernel_rfl)⟩
def SeenI (t:GTab) (i j:Nat) (e:MapEntry):Prop := ∃ (a b:Nat) (l:List GItem) (x:GItem),(a < i \/ (a = i /\ b < j)) /\ t.eds[a]? = some l /\ l[b]? = some x /\ e.key = .agg #[.int .i64 a,.string x.name]
set_option maxRecDepth 10000 in
theorem c3180 {h:LH} {f:TabC} {t:GTab} (hr:TabR h.get f t) (ok:TabOk t):Gr Tryz.prog 184 #[tabV f] h fun r _ => r = .int .i64 0 := by
 refine w3180 _ _ _ _ _ _ _ _ _ X0_ok ?_;unfold n3180;have hn0 := hr.eds.1;have hb0 := hr.eds.2.1;have hmany := ok.many;refine t_pu (c3183 _ _ _) ?_;rw [in_iff.2 (show (1:Int) <= (f.n0:Int) /\ (f.n0:Int) <= 3 by omega)];refine gZ ?_;refine t_cond (fun e => by cases e) (fun _ => ?_);refine t_makeMap fun m hm => ?_;refine gZ ?_;refine t_loop (fun mm vs h' => h.le h' /\ ∃ (i:Nat) (es:Array MapEntry),vs = [.int .i64 0,.int .i64 i] /\ i <= f.n0 /\ mm = f.n0 - i /\ MapAt h'.get m es /\ ∀ e ∈ es.toList,SeenI t i 0 e)
  ⟨LH.upd_le hm,0,#[],rfl,Nat.zero_le _,rfl,⟨0,Cells.upd_self _ _ _⟩,fun e he => by simp at he⟩ ?_
 rintro Y mm vs h1 hY ⟨le1,i,es,rfl,hi,rfl,hme,hseen⟩;refine gZ ?_;refine t_if (fun e1 => ?_) (fun e1 => ?_)
 ·obtain ⟨l,a,hl,ha,q,n,c,e2,e3⟩ := hr.eds.at (i := i) (by omega);have hin:0 <= (i:Int) /\ (i:Int) < (f.n0:Int) := by omega
  have e2' := Cells.cell?_le le1.1 e2;have hn := e3.1;have ol := ok.eds l (List.mem_of_getElem? hl);have h8 := ol.many;refine gZ ?_;refine t_if (fun e => by omega) (fun _ => ?_);refine t_loop (fun mm vs h' => h.le h' /\ ∃ (j:Nat) (es:Array MapEntry),vs = [.int .i64 0,.int .i64 j] /\ j <= n /\ mm = n - j /\ MapAt h'.get m es /\ ∀ e ∈ es.toList,SeenI t i j e)
   ⟨le1,0,es,rfl,Nat.zero_le _,rfl,hme,hseen⟩ ?_
  rintro Y2 mm vs h2 hY2 ⟨le2,j,es2,rfl,hj,rfl,hme2,hseen2⟩;refine gZ ?_;refine t_if (fun e4 => ?_) (fun e4 => ?_)
  ·obtain ⟨x,b,hx,hb',g1,g2⟩ := e3.at (i := j) (by omega);have hjn:0 <= (j:Int) /\ (j:Int) < (n:Int) := by omega
   have g1' := Cells.cell?_le le2.1 g1;have g2' := Cells.cell?_le le2.1 g2;have hxm := List.mem_of_getElem? hx;have hcls := ol.cls x hxm;refine gZ ?_
   repeat ((first | refine t_loadStr (by assumption) ?_ | refine t_loadV (by assumption) ?_ | refine gL0 (by assumption) ?_); refine gZ ?_)
   refine t_gr (c3208 (ol.name x hxm)) ?_;rintro _ h3 le3 rfl;have le03 := LH.le_trans le2 le3;have hme3 := mapAt_le le3.1 hme2;have hkeys:∀ e ∈ es2.toList,FKey Tryz.prog 297 e.key := fun e he => by
    obtain ⟨a',b',l',x',_,_,_,hk⟩ := hseen2 e he;rw [hk]; exact keyPl _ _
   refine gZ ?_;refine t_cond (fun e => by cases e) (fun _ => ?_);refine t_lookupK und1248 inf4 hme3 (keyPl _ _) hkeys (fun e he hk => ?_) fun _ => ?_
   ·exfalso;obtain ⟨a',b',l',x',hlt,hl',hx',hk'⟩ := hseen2 e he;rw [hk'] at hk;have heq:[Value.int .i64 (a':Int),.string x'.name] = [.int .i64 (i:Int),.string x.name] := agg_inj.1 hk;simp only [List.cons.injEq,Value.int.injEq,Value.string.injEq,true_and,and_true] at heq;have hai:a' = i := by omega
    subst hai;rw [hl] at hl'; cases hl';exact ol.once b' j x' x (by omega) hx' hx heq.2
   simp only [Bool.false_eq_true,if_false];refine gZ ?_;refine t_cond (fun e => by cases e) (fun _ => ?_);refine t_pu (c3183 _ _ _) ?_;rw [in_iff.2 hcls];refine gZ ?_;refine t_cond (fun e => by cases e) (fun _ => ?_);refine t_mapUpdateK und1248 hme3 (keyPl _ _) hkeys fun es3 c3 hes3 => ?_;refine t_again (hY2 (n - (j + 1)) _ _ (by omega) ⟨le_updNew le03 hm,j + 1,es3,?_,by omega,rfl,⟨c3,Cells.upd_self _ _ _⟩,fun e he => ?_⟩)
   ·rw [wrap_id (by omega) (by omega)]; rfl
   ·rcases hes3 e he with ⟨hk,_⟩ | he'
    ·exact ⟨i,j,l,x,.inr ⟨rfl,by omega⟩,hl,hx,hk⟩
    ·obtain ⟨a',b',l',x',hlt,hl',hx',hk'⟩ := hseen2 e he';exact ⟨a',b',l',x',by omega,hl',hx',hk'⟩
  ·refine gZ ?_;refine t_again (hY (f.n0 - (i + 1)) _ _ (by omega) ⟨le2,i + 1,es2,?_,by omega,rfl,hme2,fun e he => ?_⟩)
   ·rw [wrap_id (by omega) (by omega)]; rfl
   ·obtain ⟨a',b',l',x',hlt,hl',hx',hk'⟩ := hseen2 e he;exact ⟨a',b',l',x',.inl (by omega),hl',hx',hk'⟩
 ·refine gZ ?_;exact t_ret ⟨le1,rfl⟩
theorem edition_in {t:GTab} {e n:Int} (h:itemB t e n):isIn e 0 ((t.eds.length:Int) - 1) = true := in_iff.2 ⟨h.1,by have := h.2.1; omega⟩
def SeenM (t:GTab) (i:Nat) (e:MapEntry):Prop := ∃ (a:Nat) (x:GMv),a < i /\ t.moves[a]? = some x /\ e.key = .agg #[.int .i64 x.ed,.int .i64 x.src,.int .i64 x.dst]
set_option maxRecDepth 10000 in
theorem c3181 {h:LH} {f:TabC} {t:GTab} (hr:TabR h.get f t) (ok:TabOk t):Gr Tryz.prog 185 #[tabV f] h fun r _ => r = .int .i64 0 := by
 refine w3181 _ _ _ _ _ _ _ _ _ X0_ok ?_;unfold n3181;have hn1 := hr.moves.1;have hb1 := hr.moves.2.1;have hmv := ok.moves;have hmany := ok.many;refine t_if (fun e => by omega) (fun _ => ?_);refine t_makeMap fun m hm => ?_;refine gZ ?_;refine t_loop (fun mm vs h' => h.le h' /\ ∃ (i:Nat) (es:Array MapEntry),vs = [.int .i64 0,.int .i64 i] /\ i <= f.n1 /\ mm = f.n1 - i /\ MapAt h'.get m es /\ ∀ e ∈ es.toList,SeenM t i e)
  ⟨LH.upd_le hm,0,#[],rfl,Nat.zero_le _,rfl,⟨0,Cells.upd_self _ _ _⟩,fun e he => by simp at he⟩ ?_
 rintro Y mm vs h1 hY ⟨le1,i,es,rfl,hi,rfl,hme,hseen⟩;refine gZ ?_;refine t_if (fun e1 => ?_) (fun e1 => ?_)
 ·obtain ⟨x,a,hx,ha,g1,g2,g3⟩ := hr.moves.at (i := i) (by omega);have hin:0 <= (i:Int) /\ (i:Int) < (f.n1:Int) := by omega
  have g1 := Cells.cell?_le le1.1 g1;have g2 := Cells.cell?_le le1.1 g2;have g3 := Cells.cell?_le le1.1 g3;obtain ⟨o1,o2⟩ := ok.move x (List.mem_of_getElem? hx);have hr1 := hr.le le1.1;have h01 := o1.1;have h02 := o1.2.1;have ew:wrap .i64 (x.ed + 1) = x.ed + 1 := wrap_id (by omega) (by omega);have hkeys:∀ e ∈ es.toList,FKey Tryz.prog 176 e.key := fun e he => by
   obtain ⟨a',x',_,_,hk⟩ := hseen e he;rw [hk]; exact keyMv _ _ _
  refine gZ ?_;rw [ew];refine t_pu (c3161 hr1 _) ?_;rw [edition_in o1];refine gZ ?_;refine t_cond (fun e => by cases e) (fun _ => ?_);refine t_pu (c3161 hr1 _) ?_;rw [edition_in o2];refine gZ ?_;refine t_cond (fun e => by cases e) (fun _ => ?_);refine t_pu (c3168 hr1 _ _) ?_;rw [item_is.2 o1];refine gZ ?_;refine t_cond (fun e => by cases e) (fun _ => ?_);refine t_pu (c3168 hr1 _ _) ?_;rw [item_is.2 o2];refine gZ ?_;refine t_cond (fun e => by cases e) (fun _ => ?_);refine t_lookupK und1251 inf4 hme (keyMv _ _ _) hkeys (fun e he hk => ?_) fun _ => ?_
  ·exfalso;obtain ⟨a',x',hlt,hx',hk'⟩ := hseen e he;rw [hk'] at hk;have heq:[Value.int .i64 x'.ed,.int .i64 x'.src,.int .i64 x'.dst] = [.int .i64 x.ed,.int .i64 x.src,.int .i64 x.dst] := agg_inj.1 hk;simp only [List.cons.injEq,Value.int.injEq,true_and,and_true] at heq;exact ok.moveOnce a' i x' x hlt hx' hx heq
  simp only [Bool.false_eq_true,if_false];refine gZ ?_;refine t_cond (fun e => by cases e) (fun _ => ?_);refine t_mapUpdateK und1251 hme (keyMv _ _ _) hkeys fun es3 c3 hes3 => ?_;refine t_again (hY (f.n1 - (i + 1)) _ _ (by omega) ⟨le_updNew le1 hm,i + 1,es3,?_,by omega,rfl,⟨c3,Cells.upd_self _ _ _⟩,fun e he => ?_⟩)
  ·rw [wrap_id (by omega) (by omega)]; rfl
  ·rcases hes3 e he with ⟨hk,_⟩ | he'
   ·exact ⟨i,x,by omega,hx,hk⟩
   ·obtain ⟨a',x',hlt,hx',hk'⟩ := hseen e he';exact ⟨a',x',by omega,hx',hk'⟩
 ·refine gZ ?_;exact t_ret ⟨le1,rfl⟩
def SeenK (t:GTab) (i:Nat) (e:MapEntry):Prop := ∃ (a:Nat) (x:GKn),a < i /\ t.kins[a]? = some x /\ e.key = .agg #[.int .i64 x.ed,.int .i64 x.one,.int .i64 x.two,.int .i64 0]
set_option maxRecDepth 10000 in
theorem c3182 {h:LH} {f:TabC} {t:GTab} (hr:TabR h.get f t) (ok:TabOk t):Gr Tryz.prog 186 #[tabV f] h fun r _ => r = .int .i64 0 := by
 refine w3182 _ _ _ _ _ _ _ _ _ X0_ok ?_;unfold n3182;have hn1 := hr.kins.1;have hb1 := hr.kins.2.1;have hmv := ok.kins;refine t_if (fun e => by omega) (fun _ => ?_);refine t_makeMap fun m hm => ?_;refine gZ ?_;refine t_loop (fun mm vs h' => h.le h' /\ ∃ (i:Nat) (es:Array MapEntry),vs = [.int .i64 0,.int .i64 i] /\ i <= f.n2 /\ mm = f.n2 - i /\ MapAt h'.get m es /\ ∀ e ∈ es.toList,SeenK t i e)
  ⟨LH.upd_le hm,0,#[],rfl,Nat.zero_le _,rfl,⟨0,Cells.upd_self _ _ _⟩,fun e he => by simp at he⟩ ?_
 rintro Y mm vs h1 hY ⟨le1,i,es,rfl,hi,rfl,hme,hseen⟩;refine gZ ?_;refine t_if (fun e1 => ?_) (fun e1 => ?_)
 ·obtain ⟨x,a,hx,ha,g1,g2,g3,g4⟩ := hr.kins.at (i := i) (by omega);have hin:0 <= (i:Int) /\ (i:Int) < (f.n2:Int) := by omega
  have g1 := Cells.cell?_le le1.1 g1;have g2 := Cells.cell?_le le1.1 g2;have g3 := Cells.cell?_le le1.1 g3;have g4 := Cells.cell?_le le1.1 g4;obtain ⟨o1,o2,o3,o4,o5⟩ := ok.kin x (List.mem_of_getElem? hx);have hr1 := hr.le le1.1;have hkeys:∀ e ∈ es.toList,FKey Tryz.prog 178 e.key := fun e he => by
   obtain ⟨a',x',_,_,hk⟩ := hseen e he;rw [hk]; exact keyKn _ _ _ _
  refine gZ ?_;refine t_blk (fun vs h' => vs = [.bool false] /\ h1 = h') ?_ ?_
  ·refine t_pu (c3161 hr1 _) ?_;rw [edition_in o1];refine gZ ?_;refine t_cond (fun e => by cases e) (fun _ => ?_);refine t_pu (c3168 hr1 _ _) ?_;rw [item_is.2 o1];refine gZ ?_;refine t_cond (fun e => by cases e) (fun _ => ?_);refine t_pu (c3168 hr1 _ _) ?_;rw [item_is.2 o2];refine gZ ?_;exact t_again ⟨rfl,rfl⟩
  rintro vs _ ⟨rfl,rfl⟩;refine gZ ?_;refine t_cond (fun e => by cases e) (fun _ => ?_);refine t_if (fun e => by omega) (fun _ => ?_);refine t_pu (c3183 _ _ _) ?_;rw [in_iff.2 ⟨o4,o5⟩];refine gZ ?_;refine t_cond (fun e => by cases e) (fun _ => ?_);refine t_lookupK und1252 inf4 hme (keyKn _ _ _ _) hkeys (fun e he hk => ?_) fun _ => ?_
  ·exfalso;obtain ⟨a',x',hlt,hx',hk'⟩ := hseen e he;rw [hk'] at hk;have heq:[Value.int .i64 x'.ed,.int .i64 x'.one,.int .i64 x'.two,.int .i64 0] = [.int .i64 x.ed,.int .i64 x.one,.int .i64 x.two,.int .i64 0] := agg_inj.1 hk;simp only [List.cons.injEq,Value.int.injEq,true_and,and_true] at heq;exact ok.kinOnce a' i x' x hlt hx' hx heq
  simp only [Bool.false_eq_true,if_false];refine gZ ?_;refine t_cond (fun e => by cases e) (fun _ => ?_);refine t_mapUpdateK und1252 hme (keyKn _ _ _ _) hkeys fun es3 c3 hes3 => ?_;refine t_again (hY (f.n2 - (i + 1)) _ _ (by omega) ⟨le_updNew le1 hm,i + 1,es3,?_,by omega,rfl,⟨c3,Cells.upd_self _ _ _⟩,fun e he => ?_⟩)
  ·rw [wrap_id (by omega) (by omega)]; rfl
  ·rcases hes3 e he with ⟨hk,_⟩ | he'
   ·exact ⟨i,x,by omega,hx,hk⟩
   ·obtain ⟨a',x',hlt,hx',hk'⟩ := hseen e he';exact ⟨a',x',by omega,hx',hk'⟩
 ·refine gZ ?_;exact t_ret ⟨le1,rfl⟩
set_option maxRecDepth 10000 in
theorem c3160 {h:LH} {f:TabC} {t:GTab} (hr:TabR h.get f t) (ok:TabOk t):Gr Tryz.prog 146 #[tabV f] h fun r _ => r = .int .i64 0 := by
 refine w3160 _ _ _ _ _ _ _ _ _ X0_ok ?_;unfold n3160;refine t_buildG und1215 inf157 (by decide) (by decide) (cells := #[.func (.func 184) #[tabV f] #[],.func (.func 185) #[tabV f] #[],.func (.func 186) #[tabV f] #[]]) (by kernel_rfl) fun r h1 le1 hr0 e1 => ?_;refine gZ ?_;refine t_loop (fun mm vs h' => h1.le h' /\ ∃ i:Nat,vs = [.int .i64 0,.int .i64 i] /\ i <= 3 /\ mm = 3 - i) ⟨LH.le_refl _,0,rfl,by omega,rfl⟩ ?_;rintro Y mm vs h2 hY ⟨le2,i,rfl,hi,rfl⟩;have le02 := LH.le_trans le1 le2;have hr2 := hr.le le02.1;refine gZ ?_;refine t_if (fun e2 => ?_) (fun e2 => ?_)
 ·have hin:0 <= (i:Int) /\ (i:Int) < ((3:Nat):Int) := by omega
  have next:∀ h3:LH,h2.le h3 -> Y [.int .i64 0,.int .i64 (wrap .i64 ((i:Int) + 1))] h3 := fun h3 le3 => by
   refine hY (3 - (i + 1)) _ _ (by omega) ⟨LH.le_trans le2 le3,i + 1,?_,by omega,rfl⟩;rw [wrap_id (by omega) (by omega)]; rfl
  have hcell:∀ v,(#[Value.func (.func 184) #[tabV f] #[],.func (.func 185) #[tabV f] #[],.func (.func 186) #[tabV f] #[]])[i]? = some v -> h2.get.cell? (Addr.add ⟨r,0,none⟩ (i * 1)) = some v := fun v hv => by
   refine Cells.cell?_le le2.1 ?_;rw [add_plain,Nat.zero_add,Nat.mul_one];unfold Cells.cell?;rw [e1];exact hv
  have run:∀ (fid:FuncId),Gr Tryz.prog fid #[tabV f] h2 (fun r _ => r = .int .i64 0) -> CV X0 Tryz.prog (.func (.func fid) #[tabV f] #[]) #[] h2 fun r h' => h2.le h' /\ r = .int .i64 0 := fun fid hg => cv_fw X0_ok (by rfl) hg
  match i,e2,hcell,run,next with
  | 0,_,hcell,run,next =>
   have hc := hcell _ rfl;refine gZ ?_
   repeat ((first | refine t_loadStr (by assumption) ?_ | refine t_loadV (by assumption) ?_ | refine gL0 (by assumption) ?_); refine gZ ?_)
   refine t_callv (run _ (c3180 hr2 ok)) ?_;rintro _ h3 ⟨le3,rfl⟩;refine gZ ?_;refine t_cond (fun e => by cases e) (fun _ => ?_);exact t_again (next h3 le3)
  | 1,_,hcell,run,next =>
   have hc := hcell _ rfl;refine gZ ?_
   repeat ((first | refine t_loadStr (by assumption) ?_ | refine t_loadV (by assumption) ?_ | refine gL0 (by assumption) ?_); refine gZ ?_)
   refine t_callv (run _ (c3181 hr2 ok)) ?_;rintro _ h3 ⟨le3,rfl⟩;refine gZ ?_;refine t_cond (fun e => by cases e) (fun _ => ?_);exact t_again (next h3 le3)
  | 2,_,hcell,run,next =>
   have hc := hcell _ rfl;refine gZ ?_
   repeat ((first | refine t_loadStr (by assumption) ?_ | refine t_loadV (by assumption) ?_ | refine gL0 (by assumption) ?_); refine gZ ?_)
   refine t_callv (run _ (c3182 hr2 ok)) ?_;rintro _ h3 ⟨le3,rfl⟩;refine gZ ?_;refine t_cond (fun e => by cases e) (fun _ => ?_);exact t_again (next h3 le3)
  | i + 3,e2,_,_,_ => omega
 ·refine gZ ?_;exact t_ret ⟨le02,rfl⟩
end
section
open Go Go.TM Go.Proofs
attribute [local irreducible] T.wp CV FWK
theorem t_pushI {X:XP} {Q:Leaf -> LH -> Prop} {h h₀:LH} {k:Value -> T} {p:Option Addr} {n c:Nat} {l:List Int} {x:Int} (g:Growing IntEnc 3 1 h₀.get h.get p n c l) (hle:h₀.le h) (hn:n + 1 <= 2 ^ 30)
  (hk:∀ p' c' h',h₀.le h' -> Growing IntEnc 3 1 h₀.get h'.get p' (n + 1) c' (l ++ [x]) -> (k (.slice p' (n + 1) c')).wp X Tryz.prog Q h') :
  (T.sem false (Instr.buildSlice 30 1 #[(0,.int .i64 x)]) fun v => T.unS v fun a m c2 => T.sem false (Builtin.append_ #[30,30] 30 #[.slice p n c,.slice a m c2]) k).wp X Tryz.prog Q h := by
 refine t_build und50 inf3 (by decide) (by decide) (cells := #[.int .i64 x]) (by kernel_rfl) fun r hr => ?_;have le2:h.le _ := LH.upd_le (x := (true,.cells #[.int .i64 x] 3 (0,0))) hr;refine gG ?_;refine t_grow (h₀ := h₀) (x := x) (ws := [.int .i64 x]) rfl rfl und50 und50 inf3 rfl (by omega) hn (g.le le2.1) (LH.le_trans hle le2) rfl rfl ?_ ?_ ?_
 ·intro j w hj;rw [add_plain,Nat.zero_add];exact cell_upd (by simpa using hj)
 ·intro w hw; simp at hw; subst hw; rfl
 ·intro p' c' h₂ hle2 _ g2;exact hk p' c' h₂ hle2 g2
end
section
open Go Go.TM Go.Proofs
set_option linter.unusedVariables false
set_option maxRecDepth 100000
variable {X:XP} {h:LH} {A:Value -> LH -> Prop}
def n3133 (t_0p:Option Addr) (t_0n t_0c:Nat) (t_1p:Option Addr) (t_1n t_1c:Nat) (t_2p:Option Addr) (t_2n t_2c:Nat) (edition:Int) (listsp:Option Addr) (listsn listsc:Nat):T := .cI 146 #[.agg #[.slice t_0p t_0n t_0c,.slice t_1p t_1n t_1c,.slice t_2p t_2n t_2c]] fun n => bif n != 0 then .rt (.tuple #[.agg #[.slice t_0p t_0n t_0c,.slice t_1p t_1n t_1c,.slice t_2p t_2n t_2c],.int .i64 n]) else .cB 147 #[.agg #[.slice t_0p t_0n t_0c,.slice t_1p t_1n t_1c,.slice t_2p t_2n t_2c],.int .i64 edition] fun b => bif !b then .rt (.tuple #[.agg #[.slice t_0p t_0n t_0c,.slice t_1p t_1n t_1c,.slice t_2p t_2n t_2c],.int .i64 6]) else .loop [.int .i64 0,.int .i64 0,.slice none 0 0,.slice none 0 0,.slice none 0 0] (fun vs => .pi vs fun n vs => .pi vs fun n_1 vs => .popS vs fun a n_2 c vs => .popS vs fun a_1 n_3 c_1 vs => .popS vs fun a_2 n_4 c_2 vs => .unNil vs (bif decide (n_1 < (↑listsn:Int)) then .need (0 <= n_1 /\ n_1 < (↑listsn:Int)) (.someA listsp fun a_3 => .loadS (a_3.add (n_1.toNat * 1)) fun p n_5 c_3 => .cI 148 #[.agg #[.slice t_0p t_0n t_0c,.slice t_1p t_1n t_1c,.slice t_2p t_2n t_2c],.int .i64 edition,.slice p n_5 c_3] fun n_6 => bif n_6 != 0 then .rn [n_6,.int .i64 n_1,.slice t_0p t_0n t_0c,.slice t_1p t_1n t_1c,.slice t_2p t_2n t_2c] else .ag [n,.int .i64 (wrap .i64 (n_1 + 1)),.slice a n_2 c,.slice a_1 n_3 c_1,.slice a_2 n_4 c_2]) else .bk [n,.int .i64 n_1,.slice a n_2 c,.slice a_1 n_3 c_1,.slice a_2 n_4 c_2])) (fun vs => .pi vs fun n vs => .pi vs fun n vs => .popS vs fun a n c vs => .popS vs fun a n c vs => .popS vs fun a n c vs => .unNil vs (.rt (.tuple #[.agg #[.slice t_0p t_0n t_0c,.slice t_1p t_1n t_1c,.slice t_2p t_2n t_2c],.int .i64 0]))) (fun vs => .pi vs fun n vs => .pi vs fun n_1 vs => .popS vs fun a n_2 c vs => .popS vs fun a_1 n_3 c_1 vs => .popS vs fun a_2 n_4 c_2 vs => .unNil vs (.rt (.tuple #[.agg #[.slice a n_2 c,.slice a_1 n_3 c_1,.slice a_2 n_4 c_2],.int .i64 n]))) fun x x_1 => .fail
theorem w3133 (t_0p:Option Addr) (t_0n t_0c:Nat) (t_1p:Option Addr) (t_1n t_1c:Nat) (t_2p:Option Addr) (t_2n t_2c:Nat) (edition:Int) (listsp:Option Addr) (listsn listsc:Nat):FX X 111 #[.agg #[.slice t_0p t_0n t_0c,.slice t_1p t_1n t_1c,.slice t_2p t_2n t_2c],.int .i64 edition,.slice listsp listsn listsc] h A (n3133 t_0p t_0n t_0c t_1p t_1n t_1c t_2p t_2n t_2c edition listsp listsn listsc) := fk [3,6,8] [⟨0,[(7,.int .i64),(28,.int .i64),(28672,.slice),(28673,.slice),(28674,.slice)],[3,8],[],[],[]⟩] [] Tryz.f111
def n3162 (t_0p:Option Addr) (t_0n t_0c:Nat) (t_1p:Option Addr) (t_1n t_1c:Nat) (t_2p:Option Addr) (t_2n t_2c:Nat) (from0 to:Int) (listp:Option Addr) (listn listc:Nat):T := .cl 112 #[.slice listp listn listc] fun v => .unAgg v fun l => .popB l fun b vs => .popB vs fun b_1 vs => .popB vs fun b_2 vs => .popB vs fun b_3 vs => .popB vs fun b_4 vs => .popB vs fun b_5 vs => .popB vs fun b_6 vs => .popB vs fun b_7 vs => .unNil vs (.cl 112 #[.slice listp listn listc] fun v => .unAgg v fun l => .popB l fun b_8 vs => .popB vs fun b_9 vs => .popB vs fun b_10 vs => .popB vs fun b_11 vs => .popB vs fun b_12 vs => .popB vs fun b_13 vs => .popB vs fun b_14 vs => .popB vs fun b_15 vs => .unNil vs (.blk (bif decide (to < from0) then .ag [.func (Fn.func 114) #[.agg #[.slice t_0p t_0n t_0c,.slice t_1p t_1n t_1c,.slice t_2p t_2n t_2c]] #[],.int .i64 (-1)] else .ag [.func (Fn.func 113) #[.agg #[.slice t_0p t_0n t_0c,.slice t_1p t_1n t_1c,.slice t_2p t_2n t_2c]] #[],.int .i64 1]) (fun vs => .popV vs fun v vs => .pi vs fun n vs => .unNil vs (.loop [from0,.bool b,.bool b_1,.bool b_2,.bool b_3,.bool b_4,.bool b_5,.bool b_6,.bool b_7,.bool b_8,.bool b_9,.bool b_10,.bool b_11,.bool b_12,.bool b_13,.bool b_14,.bool b_15] (fun vs => .pi vs fun n_1 vs => .popB vs fun b vs => .popB vs fun b_16 vs => .popB vs fun b_17 vs => .popB vs fun b_18 vs => .popB vs fun b_19 vs => .popB vs fun b_20 vs => .popB vs fun b_21 vs => .popB vs fun b_22 vs => .popB vs fun b_23 vs => .popB vs fun b_24 vs => .popB vs fun b_25 vs => .popB vs fun b_26 vs => .popB vs fun b_27 vs => .popB vs fun b_28 vs => .popB vs fun b_29 vs => .popB vs fun b_30 vs => .unNil vs (bif n_1 != to then .callv false v #[n_1] fun v => .nd (.agg #[b_23,.bool b_24,.bool b_25,.bool b_26,.bool b_27,.bool b_28,.bool b_29,.bool b_30]) (.nd (.agg #[b,.bool b_16,.bool b_17,.bool b_18,.bool b_19,.bool b_20,.bool b_21,.bool b_22]) (.cT 115 #[v,.agg #[b,.bool b_16,.bool b_17,.bool b_18,.bool b_19,.bool b_20,.bool b_21,.bool b_22],.agg #[b_23,.bool b_24,.bool b_25,.bool b_26,.bool b_27,.bool b_28,.bool b_29,.bool b_30]] fun v vs => .unAgg v fun l => .popB l fun b vs_1 => .popB vs_1 fun b_31 vs_2 => .popB vs_2 fun b_32 vs_3 => .popB vs_3 fun b_33 vs_4 => .popB vs_4 fun b_34 vs_5 => .popB vs_5 fun b_35 vs_6 => .popB vs_6 fun b_36 vs_7 => .popB vs_7 fun b_37 vs_8 => .unNil vs_8 (.unCons vs fun v vs => .unAgg v fun l => .popB l fun b_38 vs_9 => .popB vs_9 fun b_39 vs_10 => .popB vs_10 fun b_40 vs_11 => .popB vs_11 fun b_41 vs_12 => .popB vs_12 fun b_42 vs_13 => .popB vs_13 fun b_43 vs_14 => .popB vs_14 fun b_44 vs_15 => .popB vs_15 fun b_45 vs_16 => .unNil vs_16 (.unNil vs (.nd (.agg #[b_38,.bool b_39,.bool b_40,.bool b_41,.bool b_42,.bool b_43,.bool b_44,.bool b_45]) (.ag [.int .i64 (wrap .i64 (n_1 + n)),.bool b,.bool b_31,.bool b_32,.bool b_33,.bool b_34,.bool b_35,.bool b_36,.bool b_37,.bool b_38,.bool b_39,.bool b_40,.bool b_41,.bool b_42,.bool b_43,.bool b_44,.bool b_45])))))) else .bk [n_1,.bool b,.bool b_16,.bool b_17,.bool b_18,.bool b_19,.bool b_20,.bool b_21,.bool b_22,.bool b_23,.bool b_24,.bool b_25,.bool b_26,.bool b_27,.bool b_28,.bool b_29,.bool b_30])) (fun vs => .pi vs fun n vs => .popB vs fun b vs => .popB vs fun b_16 vs => .popB vs fun b_17 vs => .popB vs fun b_18 vs => .popB vs fun b_19 vs => .popB vs fun b_20 vs => .popB vs fun b_21 vs => .popB vs fun b_22 vs => .popB vs fun b_23 vs => .popB vs fun b_24 vs => .popB vs fun b_25 vs => .popB vs fun b_26 vs => .popB vs fun b_27 vs => .popB vs fun b_28 vs => .popB vs fun b_29 vs => .popB vs fun b_30 vs => .unNil vs (.nd (.agg #[b_23,.bool b_24,.bool b_25,.bool b_26,.bool b_27,.bool b_28,.bool b_29,.bool b_30]) (.rt (.tuple #[.agg #[b,.bool b_16,.bool b_17,.bool b_18,.bool b_19,.bool b_20,.bool b_21,.bool b_22],.agg #[b_23,.bool b_24,.bool b_25,.bool b_26,.bool b_27,.bool b_28,.bool b_29,.bool b_30]])))) (fun vs => .pi vs fun n vs => .popB vs fun b vs => .popB vs fun b_16 vs => .popB vs fun b_17 vs => .popB vs fun b_18 vs => .popB vs fun b_19 vs => .popB vs fun b_20 vs => .popB vs fun b_21 vs => .popB vs fun b_22 vs => .popB vs fun b_23 vs => .popB vs fun b_24 vs => .popB vs fun b_25 vs => .popB vs fun b_26 vs => .popB vs fun b_27 vs => .popB vs fun b_28 vs => .popB vs fun b_29 vs => .popB vs fun b_30 vs => .unNil vs (.rt (.tuple #[.agg #[b,.bool b_16,.bool b_17,.bool b_18,.bool b_19,.bool b_20,.bool b_21,.bool b_22],.agg #[b_23,.bool b_24,.bool b_25,.bool b_26,.bool b_27,.bool b_28,.bool b_29,.bool b_30]]))) fun x x_1 => .fail)) (fun vs => .popV vs fun v vs => .pi vs fun n vs => .unNil vs (.rt (.tuple #[.agg #[b,.bool b_1,.bool b_2,.bool b_3,.bool b_4,.bool b_5,.bool b_6,.bool b_7],.agg #[b_8,.bool b_9,.bool b_10,.bool b_11,.bool b_12,.bool b_13,.bool b_14,.bool b_15]]))) fun x x_1 => .fail))
theorem w3162 (t_0p:Option Addr) (t_0n t_0c:Nat) (t_1p:Option Addr) (t_1n t_1c:Nat) (t_2p:Option Addr) (t_2n t_2c:Nat) (from0 to:Int) (listp:Option Addr) (listn listc:Nat):FX X 71 #[.agg #[.slice t_0p t_0n t_0c,.slice t_1p t_1n t_1c,.slice t_2p t_2n t_2c],.int .i64 from0,.int .i64 to,.slice listp listn listc] h A (n3162 t_0p t_0n t_0c t_1p t_1n t_1c t_2p t_2n t_2c from0 to listp listn listc) := fk [4,8,9] [⟨0,[(12,.int .i64),(36864,.bool),(36865,.bool),(36866,.bool),(36867,.bool),(36868,.bool),(36869,.bool),(36870,.bool),(36871,.bool),(40960,.bool),(40961,.bool),(40962,.bool),(40963,.bool),(40964,.bool),(40965,.bool),(40966,.bool),(40967,.bool)],[4],[],[],[]⟩] [⟨5,[(10,.any),(11,.int .i64)],[4,8,9],[],[],[]⟩] Tryz.f71
def n3163 (s_0 s_1 s_2 s_3 s_4 s_5 s_6 s_7:Bool):T := .loop [.slice none 0 0,.int .i64 0] (fun vs => .popS vs fun a n c vs => .pi vs fun n_1 vs => .unNil vs (bif decide (n_1 < 8) then .sem false (Instr.index 139 (.agg #[s_0,.bool s_1,.bool s_2,.bool s_3,.bool s_4,.bool s_5,.bool s_6,.bool s_7]) (.int .i64 n_1)) fun v => .unB v fun t => bif t then .sem false (Instr.buildSlice 30 1 #[(0,.int .i64 n_1)]) fun v => .unS v fun a_1 n_2 c_1 => .sem false (Builtin.append_ #[30,30] 30 #[.slice a n c,.slice a_1 n_2 c_1]) fun v => .unS v fun a n c => .ag [.slice a n c,.int .i64 (wrap .i64 (n_1 + 1))] else .ag [.slice a n c,.int .i64 (wrap .i64 (n_1 + 1))] else .bk [.slice a n c,.int .i64 n_1])) (fun vs => .popS vs fun a n c vs => .pi vs fun n_1 vs => .unNil vs (.rt (.slice a n c))) (fun vs => .popS vs fun a n c vs => .pi vs fun n vs => .unNil vs (.rt (.slice none 0 0))) fun x x_1 => .fail
theorem w3163 (s_0 s_1 s_2 s_3 s_4 s_5 s_6 s_7:Bool):FX X 73 #[.agg #[s_0,.bool s_1,.bool s_2,.bool s_3,.bool s_4,.bool s_5,.bool s_6,.bool s_7]] h A (n3163 s_0 s_1 s_2 s_3 s_4 s_5 s_6 s_7) := fk [1] [⟨0,[(3,.slice),(7,.int .i64)],[1],[],[],[]⟩] [] Tryz.f73
def n3184 (listp:Option Addr) (listn listc:Nat):T := .new 139 #[false,.bool false,.bool false,.bool false,.bool false,.bool false,.bool false,.bool false] fun r => .loop [.int .i64 0] (fun vs => .pi vs fun n vs => .unNil vs (bif decide (n < (↑listn:Int)) then .need (0 <= n /\ n < (↑listn:Int)) (.someA listp fun a => .li (a.add (n.toNat * 1)) fun n_1 => .need (0 <= n_1 /\ n_1 < (↑8:Int)) (.store ((Addr.add ⟨r,0,none⟩ (n_1.toNat * 1)).add 0) (.bool true) (.ag [.int .i64 (wrap .i64 (n + 1))]))) else .bk [n])) (fun vs => .pi vs fun n vs => .unNil vs (.loadB (Addr.add ⟨r,0,none⟩ 0) fun b => .loadB (Addr.add ⟨r,0,none⟩ 1) fun b_1 => .loadB (Addr.add ⟨r,0,none⟩ 2) fun b_2 => .loadB (Addr.add ⟨r,0,none⟩ 3) fun b_3 => .loadB (Addr.add ⟨r,0,none⟩ 4) fun b_4 => .loadB (Addr.add ⟨r,0,none⟩ 5) fun b_5 => .loadB (Addr.add ⟨r,0,none⟩ 6) fun b_6 => .loadB (Addr.add ⟨r,0,none⟩ 7) fun b_7 => .rt (.agg #[b,.bool b_1,.bool b_2,.bool b_3,.bool b_4,.bool b_5,.bool b_6,.bool b_7]))) (fun vs => .pi vs fun n vs => .unNil vs (.rt (.agg #[false,.bool false,.bool false,.bool false,.bool false,.bool false,.bool false,.bool false]))) fun x x_1 => .fail
theorem w3184 (listp:Option Addr) (listn listc:Nat):FX X 112 #[.slice listp listn listc] h A (n3184 listp listn listc) := fk [2] [⟨0,[(8,.int .i64)],[2],[],[],[]⟩] [] Tryz.f112
def n3185 (t_0p:Option Addr) (t_0n t_0c:Nat) (t_1p:Option Addr) (t_1n t_1c:Nat) (t_2p:Option Addr) (t_2n t_2c:Nat) (edition:Int):T := .new 137 #[.slice t_0p t_0n t_0c,.slice t_1p t_1n t_1c,.slice t_2p t_2n t_2c] fun r => .new 3 #[edition] fun r_1 => .rt (.func (Fn.func 149) #[] #[.pointer (some ⟨r,0,none⟩),.pointer (some ⟨r_1,0,none⟩)])
theorem w3185 (t_0p:Option Addr) (t_0n t_0c:Nat) (t_1p:Option Addr) (t_1n t_1c:Nat) (t_2p:Option Addr) (t_2n t_2c:Nat) (edition:Int):FX X 113 #[.agg #[.slice t_0p t_0n t_0c,.slice t_1p t_1n t_1c,.slice t_2p t_2n t_2c],.int .i64 edition] h A (n3185 t_0p t_0n t_0c t_1p t_1n t_1c t_2p t_2n t_2c edition) := fk [] [] [] Tryz.f113
def n3186 (t_0p:Option Addr) (t_0n t_0c:Nat) (t_1p:Option Addr) (t_1n t_1c:Nat) (t_2p:Option Addr) (t_2n t_2c:Nat) (edition:Int):T := .new 137 #[.slice t_0p t_0n t_0c,.slice t_1p t_1n t_1c,.slice t_2p t_2n t_2c] fun r => .new 3 #[edition] fun r_1 => .rt (.func (Fn.func 150) #[] #[.pointer (some ⟨r,0,none⟩),.pointer (some ⟨r_1,0,none⟩)])
theorem w3186 (t_0p:Option Addr) (t_0n t_0c:Nat) (t_1p:Option Addr) (t_1n t_1c:Nat) (t_2p:Option Addr) (t_2n t_2c:Nat) (edition:Int):FX X 114 #[.agg #[.slice t_0p t_0n t_0c,.slice t_1p t_1n t_1c,.slice t_2p t_2n t_2c],.int .i64 edition] h A (n3186 t_0p t_0n t_0c t_1p t_1n t_1c t_2p t_2n t_2c edition) := fk [] [] [] Tryz.f114
def n3187 (moves:Value) (sure_0 sure_1 sure_2 sure_3 sure_4 sure_5 sure_6 sure_7 can_0 can_1 can_2 can_3 can_4 can_5 can_6 can_7:Bool):T := .new 139 #[sure_0,.bool sure_1,.bool sure_2,.bool sure_3,.bool sure_4,.bool sure_5,.bool sure_6,.bool sure_7] fun r => .new 139 #[can_0,.bool can_1,.bool can_2,.bool can_3,.bool can_4,.bool can_5,.bool can_6,.bool can_7] fun r_1 => .new 139 #[false,.bool false,.bool false,.bool false,.bool false,.bool false,.bool false,.bool false] fun r_2 => .new 139 #[false,.bool false,.bool false,.bool false,.bool false,.bool false,.bool false,.bool false] fun r_3 => .new 139 #[false,.bool false,.bool false,.bool false,.bool false,.bool false,.bool false,.bool false] fun r_4 => .each moves [] (fun xs vs => .unCons xs fun v vs_1 => .ui v fun n => .unCons vs_1 fun v vs_2 => .ui v fun n_1 => .unNil vs_2 (.unNil vs (.need (0 <= n_1 /\ n_1 < (↑8:Int)) (.store ((Addr.add ⟨r_2,0,none⟩ (n_1.toNat * 1)).add 0) (.bool true) (.need (0 <= n_1 /\ n_1 < (↑8:Int)) (.loadB (Addr.add ⟨r_3,0,none⟩ (n_1.toNat * 1)) fun b => bif b then .need (0 <= n_1 /\ n_1 < (↑8:Int)) (.store ((Addr.add ⟨r_3,0,none⟩ (n_1.toNat * 1)).add 0) (.bool true) (.need (0 <= n_1 /\ n_1 < (↑8:Int)) (.loadB (Addr.add ⟨r_4,0,none⟩ (n_1.toNat * 1)) fun b => bif b then .need (0 <= n_1 /\ n_1 < (↑8:Int)) (.store ((Addr.add ⟨r_4,0,none⟩ (n_1.toNat * 1)).add 0) (.bool true) (.ag [])) else .need (0 <= n /\ n < (↑8:Int)) (.loadB (Addr.add ⟨r_1,0,none⟩ (n.toNat * 1)) fun b => .need (0 <= n_1 /\ n_1 < (↑8:Int)) (.store ((Addr.add ⟨r_4,0,none⟩ (n_1.toNat * 1)).add 0) (.bool b) (.ag [])))))) else .need (0 <= n /\ n < (↑8:Int)) (.loadB (Addr.add ⟨r,0,none⟩ (n.toNat * 1)) fun b => .need (0 <= n_1 /\ n_1 < (↑8:Int)) (.store ((Addr.add ⟨r_3,0,none⟩ (n_1.toNat * 1)).add 0) (.bool !b) (.need (0 <= n_1 /\ n_1 < (↑8:Int)) (.loadB (Addr.add ⟨r_4,0,none⟩ (n_1.toNat * 1)) fun b => bif b then .need (0 <= n_1 /\ n_1 < (↑8:Int)) (.store ((Addr.add ⟨r_4,0,none⟩ (n_1.toNat * 1)).add 0) (.bool true) (.ag [])) else .need (0 <= n /\ n < (↑8:Int)) (.loadB (Addr.add ⟨r_1,0,none⟩ (n.toNat * 1)) fun b => .need (0 <= n_1 /\ n_1 < (↑8:Int)) (.store ((Addr.add ⟨r_4,0,none⟩ (n_1.toNat * 1)).add 0) (.bool b) (.ag []))))))))))))) (fun vs => .unNil vs (.loop [.int .i64 0] (fun vs => .pi vs fun n vs => .unNil vs (bif decide (n < 8) then .need (0 <= n /\ n < (↑8:Int)) (.loadB (Addr.add ⟨r_2,0,none⟩ (n.toNat * 1)) fun b => bif b then .need (0 <= n /\ n < (↑8:Int)) (.loadB (Addr.add ⟨r_3,0,none⟩ (n.toNat * 1)) fun b => .need (0 <= n /\ n < (↑8:Int)) (.store ((Addr.add ⟨r_2,0,none⟩ (n.toNat * 1)).add 0) (.bool !b) (.ag [.int .i64 (wrap .i64 (n + 1))]))) else .need (0 <= n /\ n < (↑8:Int)) (.store ((Addr.add ⟨r_2,0,none⟩ (n.toNat * 1)).add 0) (.bool false) (.ag [.int .i64 (wrap .i64 (n + 1))]))) else .bk [n])) (fun vs => .pi vs fun n vs => .unNil vs (.loadB (Addr.add ⟨r_2,0,none⟩ 0) fun b => .loadB (Addr.add ⟨r_2,0,none⟩ 1) fun b_1 => .loadB (Addr.add ⟨r_2,0,none⟩ 2) fun b_2 => .loadB (Addr.add ⟨r_2,0,none⟩ 3) fun b_3 => .loadB (Addr.add ⟨r_2,0,none⟩ 4) fun b_4 => .loadB (Addr.add ⟨r_2,0,none⟩ 5) fun b_5 => .loadB (Addr.add ⟨r_2,0,none⟩ 6) fun b_6 => .loadB (Addr.add ⟨r_2,0,none⟩ 7) fun b_7 => .loadB (Addr.add ⟨r_4,0,none⟩ 0) fun b_8 => .loadB (Addr.add ⟨r_4,0,none⟩ 1) fun b_9 => .loadB (Addr.add ⟨r_4,0,none⟩ 2) fun b_10 => .loadB (Addr.add ⟨r_4,0,none⟩ 3) fun b_11 => .loadB (Addr.add ⟨r_4,0,none⟩ 4) fun b_12 => .loadB (Addr.add ⟨r_4,0,none⟩ 5) fun b_13 => .loadB (Addr.add ⟨r_4,0,none⟩ 6) fun b_14 => .loadB (Addr.add ⟨r_4,0,none⟩ 7) fun b_15 => .loadB (Addr.add ⟨r_4,0,none⟩ 0) fun b_16 => .loadB (Addr.add ⟨r_4,0,none⟩ 1) fun b_17 => .loadB (Addr.add ⟨r_4,0,none⟩ 2) fun b_18 => .loadB (Addr.add ⟨r_4,0,none⟩ 3) fun b_19 => .loadB (Addr.add ⟨r_4,0,none⟩ 4) fun b_20 => .loadB (Addr.add ⟨r_4,0,none⟩ 5) fun b_21 => .loadB (Addr.add ⟨r_4,0,none⟩ 6) fun b_22 => .loadB (Addr.add ⟨r_4,0,none⟩ 7) fun b_23 => .ne (.agg #[b_16,.bool b_17,.bool b_18,.bool b_19,.bool b_20,.bool b_21,.bool b_22,.bool b_23]) (.agg #[b_8,.bool b_9,.bool b_10,.bool b_11,.bool b_12,.bool b_13,.bool b_14,.bool b_15]) (.rt (.tuple #[.agg #[b,.bool b_1,.bool b_2,.bool b_3,.bool b_4,.bool b_5,.bool b_6,.bool b_7],.agg #[b_8,.bool b_9,.bool b_10,.bool b_11,.bool b_12,.bool b_13,.bool b_14,.bool b_15]])))) (fun vs => .pi vs fun n vs => .unNil vs (.rt (.tuple #[.agg #[false,.bool false,.bool false,.bool false,.bool false,.bool false,.bool false,.bool false],.agg #[false,.bool false,.bool false,.bool false,.bool false,.bool false,.bool false,.bool false]]))) fun x x_1 => .fail)) (fun vs => .unNil vs (.loop [.int .i64 0] (fun vs => .pi vs fun n vs => .unNil vs (bif decide (n < 8) then .need (0 <= n /\ n < (↑8:Int)) (.loadB (Addr.add ⟨r_2,0,none⟩ (n.toNat * 1)) fun b => bif b then .need (0 <= n /\ n < (↑8:Int)) (.loadB (Addr.add ⟨r_3,0,none⟩ (n.toNat * 1)) fun b => .need (0 <= n /\ n < (↑8:Int)) (.store ((Addr.add ⟨r_2,0,none⟩ (n.toNat * 1)).add 0) (.bool !b) (.ag [.int .i64 (wrap .i64 (n + 1))]))) else .need (0 <= n /\ n < (↑8:Int)) (.store ((Addr.add ⟨r_2,0,none⟩ (n.toNat * 1)).add 0) (.bool false) (.ag [.int .i64 (wrap .i64 (n + 1))]))) else .bk [n])) (fun vs => .pi vs fun n vs => .unNil vs (.loadB (Addr.add ⟨r_2,0,none⟩ 0) fun b => .loadB (Addr.add ⟨r_2,0,none⟩ 1) fun b_1 => .loadB (Addr.add ⟨r_2,0,none⟩ 2) fun b_2 => .loadB (Addr.add ⟨r_2,0,none⟩ 3) fun b_3 => .loadB (Addr.add ⟨r_2,0,none⟩ 4) fun b_4 => .loadB (Addr.add ⟨r_2,0,none⟩ 5) fun b_5 => .loadB (Addr.add ⟨r_2,0,none⟩ 6) fun b_6 => .loadB (Addr.add ⟨r_2,0,none⟩ 7) fun b_7 => .loadB (Addr.add ⟨r_4,0,none⟩ 0) fun b_8 => .loadB (Addr.add ⟨r_4,0,none⟩ 1) fun b_9 => .loadB (Addr.add ⟨r_4,0,none⟩ 2) fun b_10 => .loadB (Addr.add ⟨r_4,0,none⟩ 3) fun b_11 => .loadB (Addr.add ⟨r_4,0,none⟩ 4) fun b_12 => .loadB (Addr.add ⟨r_4,0,none⟩ 5) fun b_13 => .loadB (Addr.add ⟨r_4,0,none⟩ 6) fun b_14 => .loadB (Addr.add ⟨r_4,0,none⟩ 7) fun b_15 => .loadB (Addr.add ⟨r_4,0,none⟩ 0) fun b_16 => .loadB (Addr.add ⟨r_4,0,none⟩ 1) fun b_17 => .loadB (Addr.add ⟨r_4,0,none⟩ 2) fun b_18 => .loadB (Addr.add ⟨r_4,0,none⟩ 3) fun b_19 => .loadB (Addr.add ⟨r_4,0,none⟩ 4) fun b_20 => .loadB (Addr.add ⟨r_4,0,none⟩ 5) fun b_21 => .loadB (Addr.add ⟨r_4,0,none⟩ 6) fun b_22 => .loadB (Addr.add ⟨r_4,0,none⟩ 7) fun b_23 => .ne (.agg #[b_16,.bool b_17,.bool b_18,.bool b_19,.bool b_20,.bool b_21,.bool b_22,.bool b_23]) (.agg #[b_8,.bool b_9,.bool b_10,.bool b_11,.bool b_12,.bool b_13,.bool b_14,.bool b_15]) (.rt (.tuple #[.agg #[b,.bool b_1,.bool b_2,.bool b_3,.bool b_4,.bool b_5,.bool b_6,.bool b_7],.agg #[b_8,.bool b_9,.bool b_10,.bool b_11,.bool b_12,.bool b_13,.bool b_14,.bool b_15]])))) (fun vs => .pi vs fun n vs => .unNil vs (.rt (.tuple #[.agg #[false,.bool false,.bool false,.bool false,.bool false,.bool false,.bool false,.bool false],.agg #[false,.bool false,.bool false,.bool false,.bool false,.bool false,.bool false,.bool false]]))) fun x x_1 => .fail)) (fun vs => .unNil vs (.rt (.tuple #[.agg #[false,.bool false,.bool false,.bool false,.bool false,.bool false,.bool false,.bool false],.agg #[false,.bool false,.bool false,.bool false,.bool false,.bool false,.bool false,.bool false]]))) fun x x_1 => .fail
theorem w3187 (moves:Value) (sure_0 sure_1 sure_2 sure_3 sure_4 sure_5 sure_6 sure_7 can_0 can_1 can_2 can_3 can_4 can_5 can_6 can_7:Bool):FX X 115 #[moves,.agg #[sure_0,.bool sure_1,.bool sure_2,.bool sure_3,.bool sure_4,.bool sure_5,.bool sure_6,.bool sure_7],.agg #[can_0,.bool can_1,.bool can_2,.bool can_3,.bool can_4,.bool can_5,.bool can_6,.bool can_7]] h A (n3187 moves sure_0 sure_1 sure_2 sure_3 sure_4 sure_5 sure_6 sure_7 can_0 can_1 can_2 can_3 can_4 can_5 can_6 can_7) := fk [6,7] [{ id := 0,slots := [],ro := [6,7],outs := [],ps := [.cell (.int .i64),.cell (.int .i64)] },⟨2,[(40,.int .i64)],[6,7],[],[],[]⟩] [] Tryz.f115
def n3209 (yield:Value) (z0 z1:Addr):T := .loadS ((z0.add 0).add 1) fun p n c => .loop [.int .i64 0] (fun vs => .pi vs fun n_1 vs => .unNil vs (bif decide (n_1 < (↑n:Int)) then .need (0 <= n_1 /\ n_1 < (↑n:Int)) (.someA p fun a => .li ((a.add (n_1.toNat * 3)).add 0) fun n => .li ((a.add (n_1.toNat * 3)).add 1) fun n_2 => .li ((a.add (n_1.toNat * 3)).add 2) fun n_3 => .li z1 fun n_4 => bif n == n_4 then .callv false yield #[n_2,.int .i64 n_3] fun v => .unB v fun b => bif !b then .rn [n_1] else .ag [.int .i64 (wrap .i64 (n_1 + 1))] else .ag [.int .i64 (wrap .i64 (n_1 + 1))]) else .bk [n_1])) (fun vs => .pi vs fun n vs => .unNil vs (.rt (.tuple #[]))) (fun vs => .pi vs fun n vs => .unNil vs (.rt (.tuple #[]))) fun x x_1 => .fail
theorem w3209 (yield:Value) (z0 z1:Addr):FX X 149 #[yield,.pointer (some z0),.pointer (some z1)] h A (n3209 yield z0 z1) := fk [5] [⟨0,[(10,.int .i64)],[],[],[],[]⟩] [] Tryz.f149
def n3210 (yield:Value) (z0 z1:Addr):T := .loadS ((z0.add 0).add 1) fun p n c => .loop [.int .i64 0] (fun vs => .pi vs fun n_1 vs => .unNil vs (bif decide (n_1 < (↑n:Int)) then .need (0 <= n_1 /\ n_1 < (↑n:Int)) (.someA p fun a => .li ((a.add (n_1.toNat * 3)).add 0) fun n => .li ((a.add (n_1.toNat * 3)).add 1) fun n_2 => .li ((a.add (n_1.toNat * 3)).add 2) fun n_3 => .li z1 fun n_4 => bif n == wrap .i64 (n_4 - 1) then .callv false yield #[n_3,.int .i64 n_2] fun v => .unB v fun b => bif !b then .rn [n_1] else .ag [.int .i64 (wrap .i64 (n_1 + 1))] else .ag [.int .i64 (wrap .i64 (n_1 + 1))]) else .bk [n_1])) (fun vs => .pi vs fun n vs => .unNil vs (.rt (.tuple #[]))) (fun vs => .pi vs fun n vs => .unNil vs (.rt (.tuple #[]))) fun x x_1 => .fail
theorem w3210 (yield:Value) (z0 z1:Addr):FX X 150 #[yield,.pointer (some z0),.pointer (some z1)] h A (n3210 yield z0 z1) := fk [5] [⟨0,[(10,.int .i64)],[],[],[],[]⟩] [] Tryz.f150
end
end Go.Proofs.YtfkfohpnpljihaaGreatDoor
section
namespace Go.TM
open Go Go.Conc
variable {P:Program} {X:XP} {Q:Leaf -> LH -> Prop}
def Arr8 (h:Cells) (r:Nat) (el:TypeId) (s:Te.Items):Prop := ∃ cs,h r = some (true,.cells cs el (0,0)) /\ cs.size = 8 /\ ∀ j,j < 8 -> cs[j]? = some (.bool (s j))
theorem Arr8.le {h h':Cells} {r:Nat} {el:TypeId} {s:Te.Items} (hl:h.le h') (a:Arr8 h r el s):Arr8 h' r el s := by
 obtain ⟨cs,h1,h2⟩ := a;exact ⟨cs,hl _ _ h1,h2⟩
theorem Arr8.cell {h:Cells} {r:Nat} {el:TypeId} {s:Te.Items} (a:Arr8 h r el s) {j:Nat} (hj:j < 8):h.cell? (Addr.add ⟨r,0,none⟩ j) = some (.bool (s j)) := by
 obtain ⟨cs,h1,h2,h3⟩ := a;rw [add_plain,Nat.zero_add];unfold Cells.cell?;rw [h1];exact h3 j hj
theorem Arr8.new {h:Cells} {r:Nat} {el:TypeId} (s:Te.Items):Arr8 (h.upd r (true,.cells #[.bool (s 0),.bool (s 1),.bool (s 2),.bool (s 3),.bool (s 4),.bool (s 5),.bool (s 6),.bool (s 7)] el (0,0))) r el s := by
 refine ⟨_,Cells.upd_self _ _ _,rfl,fun j hj => ?_⟩
 match j,hj with
 | 0,_ => rfl
 | 1,_ => rfl
 | 2,_ => rfl
 | 3,_ => rfl
 | 4,_ => rfl
 | 5,_ => rfl
 | 6,_ => rfl
 | 7,_ => rfl
structure Turn1 (r:Nat) (h h':LH):Prop where
 keep:∀ b,b ≠ r -> h'.get b = h.get b
 rest:h'.chans = h.chans /\ h'.pend = h.pend /\ h'.todo = h.todo
theorem Turn1.le {r:Nat} {h₀ h h':LH} (t:Turn1 r h h') (hl:h₀.le h) (hr:h₀.get r = none):h₀.le h' :=
 ⟨fun b y hb => by
  have:b ≠ r := by rintro rfl; rw [hr] at hb; cases hb
  rw [t.keep b this]; exact hl.1 b y hb,by rw [t.rest.1]; exact hl.2.1,by rw [t.rest.2.1]; exact hl.2.2.1,by rw [t.rest.2.2]; exact hl.2.2.2⟩
theorem Turn1.arr {r b:Nat} {h h':LH} {el:TypeId} {s:Te.Items} (t:Turn1 r h h') (hb:b ≠ r) (a:Arr8 h.get b el s):Arr8 h'.get b el s := by
 obtain ⟨cs,h1,h2⟩ := a;exact ⟨cs,by rw [t.keep b hb]; exact h1,h2⟩
def setA (s:Te.Items) (j:Nat) (b:Bool):Te.Items := fun i => if i = j then b else s i
theorem t_storeA {h:LH} {r j:Nat} {el:TypeId} {s:Te.Items} {a:Addr} {b:Bool} {k:T} (ha:a = ⟨r,j,none⟩) (hs:Arr8 h.get r el s) (hj:j < 8) (hk:∀ h',Turn1 r h h' -> Arr8 h'.get r el (setA s j b) -> k.wp X P Q h'):(T.store a (.bool b) k).wp X P Q h := by
 subst ha;obtain ⟨cs,h1,h2,h3⟩ := hs;refine t_store (v₀ := .bool (s j)) rfl ⟨_,h1⟩ ?_ (by simp [Cells.frozen?,h1]) (hk _ ⟨fun b' hb => ?_,rfl,rfl,rfl⟩ ⟨cs.setIfInBounds j (.bool b),?_,by simp [h2],fun i hi => ?_⟩)
 ·unfold Cells.cell?;simp only [h1];exact h3 j hj
 ·show h.get.setCell _ _ b' = _;unfold Cells.setCell;rw [if_neg hb]
 ·show h.get.setCell _ _ r = _;unfold Cells.setCell;rw [if_pos rfl,h1];rfl
 ·rw [Array.getElem?_setIfInBounds];unfold setA;by_cases e:j = i
  ·subst e; rw [if_pos rfl,if_pos (by omega),if_pos rfl]
  ·rw [if_neg e,if_neg (Ne.symm e)]; exact h3 i hi
abbrev boolsV (s:Te.Items):Value := .agg #[.bool (s 0),.bool (s 1),.bool (s 2),.bool (s 3),.bool (s 4),.bool (s 5),.bool (s 6),.bool (s 7)]
def setL (l:List Int):Te.Items := fun i => l.contains (i:Int)
def listT (s:Te.Items):List Int := ((List.range 8).filter s).map fun i:Nat => (i:Int)
end Go.TM
namespace Go.Proofs.YtfkfohpnpljihaaGreatDoor
open Go Go.TM Go.Proofs
attribute [local irreducible] T.wp CV FWK
theorem und1189:Tryz.prog.underlying 139 = some (.array 8 4) := by kernel_rfl
theorem und4:Tryz.prog.underlying 4 = some .bool := by kernel_rfl
theorem agg4:isAggT Tryz.prog 4 = false := by kernel_rfl
theorem c3184 {h:LH} {p:Option Addr} {n c:Nat} {l:List Int} (hl:Sl IntE 1 h.get p n l) (hin:∀ v ∈ l,0 <= v /\ v < 8):Gr Tryz.prog 112 #[.slice p n c] h fun r _ => r = boolsV (setL l) := by
 refine w3184 _ _ _ X0_ok ?_;unfold n3184;have hn := hl.1;have hb := hl.2.1;refine t_new fun r hr => ?_;refine t_loop (fun mm vs h' => h.le h' /\ ∃ i:Nat,vs = [.int .i64 i] /\ i <= n /\ mm = n - i /\ Arr8 h'.get r 139 (setL (l.take i))) ⟨LH.upd_le hr,0,rfl,Nat.zero_le _,rfl,Arr8.new (setL [])⟩ ?_;rintro Y mm vs h1 hY ⟨le1,i,rfl,hi,rfl,ha⟩;refine gZ ?_;refine t_if (fun e1 => ?_) (fun e1 => ?_)
 ·obtain ⟨x,a,hx,ha',e2⟩ := (hl.le IntE.grow le1.1).at (i := i) (by omega);unfold IntE at e2;have hxr := hin x (List.mem_of_getElem? hx);have hin':0 <= (i:Int) /\ (i:Int) < (n:Int) := by omega
  have hx8:0 <= x /\ x < ((8:Nat):Int) := by omega
  refine gZ ?_;refine t_storeA (j := x.toNat) (by rw [add_plain,add_plain]; simp) ha (by omega) fun h2 t2 a2 => ?_;refine t_again (hY (n - (i + 1)) _ _ (by omega) ⟨t2.le le1 hr,i + 1,?_,by omega,rfl,?_⟩)
  ·rw [wrap_id (by omega) (by omega)]; rfl
  ·have:setA (setL (l.take i)) x.toNat true = setL (l.take (i + 1)) := by
    funext j;unfold setA setL;rw [List.take_add_one,hx];by_cases e:j = x.toNat
    ·subst e;rw [if_pos rfl];have:((x.toNat:Nat):Int) = x := by omega
     simp [this]
    ·rw [if_neg e];have:¬ (j:Int) = x := by omega
     simp [this]
   rw [<- this]; exact a2
 ·have htake:l.take i = l := List.take_of_length_le (by omega);rw [htake] at ha;have k0 := ha.cell (j := 0) (by decide);have k1 := ha.cell (j := 1) (by decide);have k2 := ha.cell (j := 2) (by decide);have k3 := ha.cell (j := 3) (by decide);have k4 := ha.cell (j := 4) (by decide);have k5 := ha.cell (j := 5) (by decide);have k6 := ha.cell (j := 6) (by decide);have k7 := ha.cell (j := 7) (by decide);refine gZ ?_;exact t_ret ⟨le1,rfl⟩
theorem list_take {s:Te.Items} {i:Nat} (hi:i < 8):((List.range 8).take (i + 1)).filter s = ((List.range 8).take i).filter s ++ (if s i then [i] else []) := by
 rw [List.take_add_one,List.getElem?_range hi,List.filter_append];congr 1;simp only [Option.toList_some,List.filter_cons,List.filter_nil]
theorem c3163 {h:LH} (s:Te.Items):Gr Tryz.prog 73 #[boolsV s] h fun r h' => ∃ p n c,r = .slice p n c /\ n <= c /\ Sl IntE 1 h'.get p n (listT s) := by
 refine w3163 _ _ _ _ _ _ _ _ X0_ok ?_;unfold n3163;refine t_loop (fun mm vs h' => h.le h' /\ ∃ (i:Nat) (p:Option Addr) (n c:Nat),vs = [.slice p n c,.int .i64 i] /\ i <= 8 /\ mm = 8 - i /\ Growing IntEnc 3 1 h.get h'.get p n c ((((List.range 8).take i).filter s).map fun j:Nat => (j:Int)))
  ⟨LH.le_refl _,0,none,0,0,rfl,Nat.zero_le _,rfl,Growing.nil⟩ ?_
 rintro Y mm vs h₁ hY ⟨hle,i,p,n,c,rfl,hi,rfl,g⟩;refine gZ ?_;refine t_if (fun e1 => ?_) (fun e1 => ?_)
 ·have hi8:i < 8 := by omega
  have hst := list_take (s := s) hi8;have hlen:(((List.range 8).take i).filter s).length <= 8 := Nat.le_trans (List.length_filter_le _ _) (by rw [List.length_take,List.length_range]; omega);have hng := g.count IntEnc.len (by omega);rw [List.length_map] at hng;refine t_index (v := .bool (s i)) und1189 inf4 und4 agg4 hi8 ?_ ?_
  ·match i,hi8 with
   | 0,_ => rfl
   | 1,_ => rfl
   | 2,_ => rfl
   | 3,_ => rfl
   | 4,_ => rfl
   | 5,_ => rfl
   | 6,_ => rfl
   | 7,_ => rfl
  refine gZ ?_;refine t_cond (fun b1 => ?_) (fun b1 => ?_)
  ·rw [if_pos b1] at hst;refine t_pushI g hle (by omega) fun p' c' h₂ hle2 g2 => ?_;refine gZ ?_;refine t_again (hY (8 - (i + 1)) _ _ (by omega) ⟨hle2,i + 1,p',n + 1,c',?_,by omega,rfl,by rw [hst,List.map_append]; exact g2⟩);rw [wrap_id (by omega) (by omega)]; rfl
  ·rw [if_neg (by rw [b1]; simp),List.append_nil] at hst;refine t_again (hY (8 - (i + 1)) _ _ (by omega) ⟨hle,i + 1,p,n,c,?_,by omega,rfl,by rw [hst]; exact g⟩);rw [wrap_id (by omega) (by omega)]; rfl
 ·refine gZ ?_;have htake:((List.range 8).take i) = List.range 8 := List.take_of_length_le (by simp; omega);rw [htake] at g;have hlen:(listT s).length <= 8 := by unfold listT; rw [List.length_map]; exact Nat.le_trans (List.length_filter_le _ _) (by simp)
  have hng := g.count IntEnc.len (by omega);obtain ⟨_,o2,_⟩ := g.row;have hcap:n <= c := by rcases o2.2 with ⟨_,e,e'⟩ | ⟨_,_,_,_,_,hc,_⟩ <;> omega
  exact t_ret ⟨hle,p,n,c,rfl,hcap,g.sl IntEnc.len (by omega) IntEnc.e (by show (listT s).length < _; omega)⟩
/-! ### The moves out of an edition -/
def mvPair (back:Bool) (m:GMv):List Value := if back then [.int .i64 m.dst,.int .i64 m.src] else [.int .i64 m.src,.int .i64 m.dst]
def mvSel (back:Bool) (e:Int) (m:GMv):Bool := if back then m.ed == e - 1 else m.ed == e
def mvL (back:Bool) (e:Int) (l:List GMv):List (List Value) := (l.filter (mvSel back e)).map (mvPair back)
theorem mvL_cons (back:Bool) (e:Int) (m:GMv) (l:List GMv):mvL back e (m :: l) = (if mvSel back e m then [mvPair back m] else []) ++ mvL back e l := by
 unfold mvL;rw [List.filter_cons];split <;> rfl
theorem hands3209 {h₀:LH} {f:TabC} {t:GTab} {z0 z1:Addr} {e:Int} (he:IsI (e - 1)) (hz0:h₀.get.cell? (Addr.add (Addr.add z0 0) 1) = some (.slice f.p1 f.n1 f.c1)) (hz1:h₀.get.cell? z1 = some (.int .i64 e)) (hr:TabR h₀.get f t) :
  Hands X0 Tryz.prog (.func (.func 149) #[] #[.pointer (some z0),.pointer (some z1)]) h₀ (mvL false e t.moves) := by
 intro y J E _ _ hyield h hle hJ;refine cv_fw X0_ok (by rfl) (?_:FW X0 Tryz.prog 149 #[y,.pointer (some z0),.pointer (some z1)] h _);refine w3209 _ _ _ X0_ok ?_;unfold n3209;have hn := hr.moves.1;have hb := hr.moves.2.1;have y0 := Cells.cell?_le hle.1 hz0;refine gZ ?_;refine t_loop (fun mm vs h' => h₀.le h' /\ ∃ (j cnt:Nat),vs = [.int .i64 j] /\ j <= f.n1 /\ mm = f.n1 - j /\ J cnt h' /\ cnt <= (mvL false e t.moves).length /\ (mvL false e t.moves).drop cnt = mvL false e (t.moves.drop j)) (n := f.n1) ⟨hle,0,0,rfl,Nat.zero_le _,by omega,hJ,Nat.zero_le _,rfl⟩ ?_;rintro Y mm vs h₁ hY ⟨le1,j,cnt,rfl,hj,rfl,hJ1,hcl,hdrop⟩;refine gZ ?_;refine t_if (fun e1 => ?_) (fun e1 => ?_)
 ·obtain ⟨m,a,hm,ha,g1,g2,g3⟩ := (hr.moves.le MvE.grow le1.1).at (i := j) (by omega);have hin:0 <= (j:Int) /\ (j:Int) < (f.n1:Int) := by omega
  have w1 := Cells.cell?_le le1.1 hz1;rw [drop_of hm,mvL_cons] at hdrop;refine gZ ?_;refine t_cond (fun b1 => ?_) (fun b1 => ?_)
  ·have hs:mvSel false e m = true := b1;rw [if_pos hs] at hdrop;have hget:(mvL false e t.moves)[cnt]? = some (mvPair false m) := by
    have:((mvL false e t.moves).drop cnt)[0]? = some (mvPair false m) := by rw [hdrop]; rfl
    simpa using this
   have hlt:cnt < (mvL false e t.moves).length := (List.getElem?_eq_some_iff.1 hget).1;have hcv := hyield cnt h₁ _ le1 hget hJ1;refine t_callv hcv ?_;rintro b h₂ ⟨le2,⟨rfl,hJ2⟩ | ⟨rfl,hE⟩⟩
   ·refine gZ ?_;refine t_cond (fun e => by cases e) (fun _ => ?_);refine t_again (hY (f.n1 - (j + 1)) _ _ (by omega) ⟨le2,j + 1,cnt + 1,?_,by omega,rfl,hJ2,by omega,?_⟩)
    ·rw [wrap_id (by omega) (by omega)]; rfl
    ·rw [<- List.drop_drop,hdrop]; rfl
   ·refine gZ ?_;refine t_cond (fun _ => ?_) (fun e => by cases e);refine gI ?_;refine gZ ?_;exact t_ret ⟨le2,.inr hE⟩
  ·have hs:mvSel false e m = false := b1;rw [if_neg (by rw [hs]; simp),List.nil_append] at hdrop;refine t_again (hY (f.n1 - (j + 1)) _ _ (by omega) ⟨le1,j + 1,cnt,?_,by omega,rfl,hJ1,hcl,hdrop⟩);rw [wrap_id (by omega) (by omega)]; rfl
 ·refine gZ ?_;refine t_ret ⟨le1,.inl ?_⟩;rw [List.drop_eq_nil_of_le (by omega:t.moves.length <= j)] at hdrop;have hd := congrArg List.length hdrop;rw [List.length_drop] at hd;have h0:(mvL false e ([]:List GMv)).length = 0 := rfl;have:cnt = (mvL false e t.moves).length := by omega
  rw [<- this]; exact hJ1
theorem hands3210 {h₀:LH} {f:TabC} {t:GTab} {z0 z1:Addr} {e:Int} (he:IsI (e - 1)) (hz0:h₀.get.cell? (Addr.add (Addr.add z0 0) 1) = some (.slice f.p1 f.n1 f.c1)) (hz1:h₀.get.cell? z1 = some (.int .i64 e)) (hr:TabR h₀.get f t) :
  Hands X0 Tryz.prog (.func (.func 150) #[] #[.pointer (some z0),.pointer (some z1)]) h₀ (mvL true e t.moves) := by
 intro y J E _ _ hyield h hle hJ;refine cv_fw X0_ok (by rfl) (?_:FW X0 Tryz.prog 150 #[y,.pointer (some z0),.pointer (some z1)] h _);refine w3210 _ _ _ X0_ok ?_;unfold n3210;have hn := hr.moves.1;have hb := hr.moves.2.1;have y0 := Cells.cell?_le hle.1 hz0;refine gZ ?_;refine t_loop (fun mm vs h' => h₀.le h' /\ ∃ (j cnt:Nat),vs = [.int .i64 j] /\ j <= f.n1 /\ mm = f.n1 - j /\ J cnt h' /\ cnt <= (mvL true e t.moves).length /\ (mvL true e t.moves).drop cnt = mvL true e (t.moves.drop j)) (n := f.n1) ⟨hle,0,0,rfl,Nat.zero_le _,by omega,hJ,Nat.zero_le _,rfl⟩ ?_;rintro Y mm vs h₁ hY ⟨le1,j,cnt,rfl,hj,rfl,hJ1,hcl,hdrop⟩;refine gZ ?_;refine t_if (fun e1 => ?_) (fun e1 => ?_)
 ·obtain ⟨m,a,hm,ha,g1,g2,g3⟩ := (hr.moves.le MvE.grow le1.1).at (i := j) (by omega);have hin:0 <= (j:Int) /\ (j:Int) < (f.n1:Int) := by omega
  have w1 := Cells.cell?_le le1.1 hz1;rw [drop_of hm,mvL_cons] at hdrop;refine gZ ?_;rw [wrap_id he.1 he.2];refine t_cond (fun b1 => ?_) (fun b1 => ?_)
  ·have hs:mvSel true e m = true := b1;rw [if_pos hs] at hdrop;have hget:(mvL true e t.moves)[cnt]? = some (mvPair true m) := by
    have:((mvL true e t.moves).drop cnt)[0]? = some (mvPair true m) := by rw [hdrop]; rfl
    simpa using this
   have hlt:cnt < (mvL true e t.moves).length := (List.getElem?_eq_some_iff.1 hget).1;have hcv := hyield cnt h₁ _ le1 hget hJ1;refine t_callv hcv ?_;rintro b h₂ ⟨le2,⟨rfl,hJ2⟩ | ⟨rfl,hE⟩⟩
   ·refine gZ ?_;refine t_cond (fun e => by cases e) (fun _ => ?_);refine t_again (hY (f.n1 - (j + 1)) _ _ (by omega) ⟨le2,j + 1,cnt + 1,?_,by omega,rfl,hJ2,by omega,?_⟩)
    ·rw [wrap_id (by omega) (by omega)]; rfl
    ·rw [<- List.drop_drop,hdrop]; rfl
   ·refine gZ ?_;refine t_cond (fun _ => ?_) (fun e => by cases e);refine gI ?_;refine gZ ?_;exact t_ret ⟨le2,.inr hE⟩
  ·have hs:mvSel true e m = false := b1;rw [if_neg (by rw [hs]; simp),List.nil_append] at hdrop;refine t_again (hY (f.n1 - (j + 1)) _ _ (by omega) ⟨le1,j + 1,cnt,?_,by omega,rfl,hJ1,hcl,hdrop⟩);rw [wrap_id (by omega) (by omega)]; rfl
 ·refine gZ ?_;refine t_ret ⟨le1,.inl ?_⟩;rw [List.drop_eq_nil_of_le (by omega:t.moves.length <= j)] at hdrop;have hd := congrArg List.length hdrop;rw [List.length_drop] at hd;have h0:(mvL true e ([]:List GMv)).length = 0 := rfl;have:cnt = (mvL true e t.moves).length := by omega
  rw [<- this]; exact hJ1
theorem c3185 {h:LH} {f:TabC} {t:GTab} (hr:TabR h.get f t) {e:Int} (he:IsI (e - 1)):Gr Tryz.prog 113 #[tabV f,.int .i64 e] h fun r h' => Hands X0 Tryz.prog r h' (mvL false e t.moves) := by
 refine w3185 _ _ _ _ _ _ _ _ _ _ X0_ok ?_;unfold n3185;refine t_new fun r hr0 => ?_;refine t_new fun r1 hr1 => ?_;have le1 := LH.upd_le (x := (true,.cells #[.slice f.p0 f.n0 f.c0,.slice f.p1 f.n1 f.c1,.slice f.p2 f.n2 f.c2] 137 (0,0))) hr0;have le2 := LH.le_trans le1 (LH.upd_le (x := (true,.cells #[.int .i64 e] 3 (0,0))) hr1);refine t_ret ⟨le2,hands3209 he ?_ ?_ (hr.le le2.1)⟩
 ·rw [add_plain,add_plain];refine Cells.cell?_le (LH.upd_le hr1).1 (cell_upd rfl)
 ·exact cell_upd rfl
theorem c3186 {h:LH} {f:TabC} {t:GTab} (hr:TabR h.get f t) {e:Int} (he:IsI (e - 1)):Gr Tryz.prog 114 #[tabV f,.int .i64 e] h fun r h' => Hands X0 Tryz.prog r h' (mvL true e t.moves) := by
 refine w3186 _ _ _ _ _ _ _ _ _ _ X0_ok ?_;unfold n3186;refine t_new fun r hr0 => ?_;refine t_new fun r1 hr1 => ?_;have le1 := LH.upd_le (x := (true,.cells #[.slice f.p0 f.n0 f.c0,.slice f.p1 f.n1 f.c1,.slice f.p2 f.n2 f.c2] 137 (0,0))) hr0;have le2 := LH.le_trans le1 (LH.upd_le (x := (true,.cells #[.int .i64 e] 3 (0,0))) hr1);refine t_ret ⟨le2,hands3210 he ?_ ?_ (hr.le le2.1)⟩
 ·rw [add_plain,add_plain];refine Cells.cell?_le (LH.upd_le hr1).1 (cell_upd rfl)
 ·exact cell_upd rfl
end Go.Proofs.YtfkfohpnpljihaaGreatDoor
end
section
namespace Go.TM
open Go Go.Conc
variable {P:Program} {X:XP} {Q:Leaf -> LH -> Prop}
theorem none_of_le {h h':LH} (hl:h.le h') {b:Nat} (hb:h'.get b = none):h.get b = none := by
 cases hh:h.get b with
 | none => rfl
 | some y => rw [hl.1 b y hh] at hb; cases hb
theorem Arr8.ne {h:Cells} {r b:Nat} {el:TypeId} {s:Te.Items} (a:Arr8 h r el s) (hb:h b = none):r ≠ b := by
 rintro rfl;obtain ⟨cs,h1,_⟩ := a;rw [h1] at hb; cases hb
theorem Arr8.congr {h:Cells} {r:Nat} {el:TypeId} {s t:Te.Items} (a:Arr8 h r el s) (hst:∀ j,j < 8 -> s j = t j):Arr8 h r el t := by
 obtain ⟨cs,h1,h2,h3⟩ := a;exact ⟨cs,h1,h2,fun j hj => by rw [h3 j hj,hst j hj]⟩
theorem t_newA {h:LH} {el:TypeId} (s:Te.Items) {k:Nat -> T} (hk:∀ r h',h.get r = none -> h.le h' -> Arr8 h'.get r el s -> (k r).wp X P Q h'):(T.new el #[.bool (s 0),.bool (s 1),.bool (s 2),.bool (s 3),.bool (s 4),.bool (s 5),.bool (s 6),.bool (s 7)] k).wp X P Q h :=
 t_new fun r hr => hk r _ hr (LH.upd_le hr) (Arr8.new s)
namespace Te
def anyT (mv:List (Nat × Nat)) (f:Nat × Nat -> Bool):Items := fun y => mv.any fun m => m.2 == y && f m
theorem anyT_step {mv:List (Nat × Nat)} {f:Nat × Nat -> Bool} {i:Nat} {m:Nat × Nat} (hm:mv[i]? = some m):anyT (mv.take (i + 1)) f = setA (anyT (mv.take i) f) m.2 (anyT (mv.take i) f m.2 || f m) := by
 funext y;unfold anyT setA;rw [List.take_add_one,hm,List.any_append];simp only [Option.toList_some,List.any_cons,List.any_nil,Bool.or_false];by_cases e:y = m.2
 ·subst e; simp
 ·rw [if_neg e];have:(m.2 == y) = false := by simpa using fun h => e h.symm
  simp [this]
theorem sure_is (mv:List (Nat × Nat)) (s:Items) (y:Nat):coverSure mv s y = (anyT mv (fun _ => true) y && !anyT mv (fun m => !s m.1) y) := by
 unfold coverSure anyT;rw [List.not_any_eq_all_not];congr 1
 ·simp
 ·congr 1;funext m;cases h:m.2 == y <;> cases h2:s m.1 <;> simp [bne,h,h2]
theorem cov_step (a b:Items) (i:Nat):setA (fun y => a y && (decide (i <= y) || !b y)) i (a i && !b i) = fun y => a y && (decide (i + 1 <= y) || !b y) := by
 funext y;unfold setA;by_cases e:y = i
 ·subst e;rw [if_pos rfl,show decide (y + 1 <= y) = false by rw [decide_eq_false_iff_not]; omega,Bool.false_or]
 ·rw [if_neg e];have:decide (i <= y) = decide (i + 1 <= y) := by
   rw [decide_eq_decide]; omega
  simp only [this]
end Te
end Go.TM
namespace Go.Proofs.YtfkfohpnpljihaaGreatDoor
open Go Go.TM Go.Proofs
attribute [local irreducible] T.wp CV FWK
set_option maxRecDepth 10000 in
theorem c3187 {h:LH} {v:Value} {mv:List (Nat × Nat)} (hH:Hands X0 Tryz.prog v h (mv.map fun m => [.int .i64 (m.1:Int),.int .i64 (m.2:Int)])) (h8:∀ m ∈ mv,m.1 < 8 /\ m.2 < 8) (s c:Te.Items) :
  Gr Tryz.prog 115 #[v,boolsV s,boolsV c] h fun r _ => r = .tuple #[boolsV (Te.coverSure mv s),boolsV (Te.coverCan mv c)] := by
 refine w3187 _ _ _ _ _ _ _ _ _ _ _ _ _ _ _ _ _ X0_ok ?_;unfold n3187;refine t_newA s fun r g0 hr0 l0 a0 => ?_;refine t_newA c fun r1 g1 hr1 l1 a1 => ?_;refine t_newA (fun _ => false) fun r2 g2 hr2 l2 a2 => ?_;refine t_newA (fun _ => false) fun r3 g3 hr3 l3 a3 => ?_;refine t_newA (fun _ => false) fun r4 g4 hr4 l4 a4 => ?_;have l12 := LH.le_trans l1 l2;have l23 := LH.le_trans l2 l3;have l34 := LH.le_trans l3 l4;have l234 := LH.le_trans l2 l34;have l1234 := LH.le_trans l1 l234;have l01 := LH.le_trans l0 l1;have l012 := LH.le_trans l01 l2;have l0123 := LH.le_trans l012 l3;have l01234 := LH.le_trans l0123 l4;have n02 := (a0.le l1.1).ne hr2;have n03 := (a0.le l12.1).ne hr3;have n04 := (a0.le (LH.le_trans l12 l3).1).ne hr4;have n12 := a1.ne hr2;have n13 := (a1.le l2.1).ne hr3;have n14 := (a1.le l23.1).ne hr4;have n23 := a2.ne hr3;have n24 := (a2.le l3.1).ne hr4;have n34 := a3.ne hr4;replace hr2 := none_of_le l01 hr2;replace hr3 := none_of_le l012 hr3;replace hr4 := none_of_le l0123 hr4;refine t_each (h₀ := h) l01234 hH (fun i vs h' => vs = [] /\ Arr8 h'.get r 139 s /\ Arr8 h'.get r1 139 c /\ Arr8 h'.get r2 139 (Te.anyT (mv.take i) fun _ => true) /\ Arr8 h'.get r3 139 (Te.anyT (mv.take i) fun m => !s m.1) /\ Arr8 h'.get r4 139 (Te.anyT (mv.take i) fun m => c m.1))
  ⟨rfl,a0.le l1234.1,a1.le l234.1,a2.le l34.1,a3.le l4.1,a4⟩ ?_ ?_
 ·rintro vs h' hle ⟨rfl,A,B,C,D,E⟩;rw [List.length_map,List.take_length] at C D E;refine gZ ?_;refine t_loop (fun mm vs h' => h.le h' /\ ∃ i:Nat,vs = [.int .i64 i] /\ i <= 8 /\ mm = 8 - i /\ Arr8 h'.get r2 139 (fun y => Te.anyT mv (fun _ => true) y && (decide (i <= y) || !Te.anyT mv (fun m => !s m.1) y)) /\ Arr8 h'.get r3 139 (Te.anyT mv fun m => !s m.1) /\ Arr8 h'.get r4 139 (Te.anyT mv fun m => c m.1))
   ⟨hle,0,rfl,by omega,rfl,C.congr fun j _ => by simp,D,E⟩ ?_
  rintro Y mm vs h1 hY ⟨le1,i,rfl,hi,rfl,C1,D1,E1⟩;refine gZ ?_;refine t_if (fun e1 => ?_) (fun e1 => ?_)
  ·have hi8:i < 8 := by omega
   have hin:0 <= (i:Int) /\ (i:Int) < ((8:Nat):Int) := by omega
   have k1:h1.get.cell? (Addr.add ⟨r2,0,none⟩ (Int.toNat (i:Int) * 1)) = some (.bool (Te.anyT mv (fun _ => true) i)) := by
    rw [Int.toNat_natCast,Nat.mul_one];have := C1.cell hi8;simpa using this
   have k2:h1.get.cell? (Addr.add ⟨r3,0,none⟩ (Int.toNat (i:Int) * 1)) = some (.bool (Te.anyT mv (fun m => !s m.1) i)) := by rw [Int.toNat_natCast,Nat.mul_one]; exact D1.cell hi8
   have next:∀ h2,Turn1 r2 h1 h2 -> Arr8 h2.get r2 139 (setA (fun y => Te.anyT mv (fun _ => true) y && (decide (i <= y) || !Te.anyT mv (fun m => !s m.1) y)) i (Te.anyT mv (fun _ => true) i && !Te.anyT mv (fun m => !s m.1) i)) -> Y [.int .i64 (wrap .i64 ((i:Int) + 1))] h2 := fun h2 t2 a2 => by
    rw [Te.cov_step] at a2;refine hY (8 - (i + 1)) _ _ (by omega) ⟨t2.le le1 hr2,i + 1,?_,by omega,rfl,a2,t2.arr n23.symm D1,t2.arr n24.symm E1⟩;rw [wrap_id (by omega) (by omega)]; rfl
   refine gZ ?_;refine t_cond (fun b1 => ?_) (fun b1 => ?_)
   ·refine gZ ?_;refine t_storeA (j := i) (by rw [add_plain,add_plain]; simp) C1 hi8 fun h2 t2 a2 => ?_;refine t_again (next h2 t2 ?_);rw [b1,Bool.true_and]; exact a2
   ·refine gZ ?_;refine t_storeA (j := i) (by rw [add_plain,add_plain]; simp) C1 hi8 fun h2 t2 a2 => ?_;refine t_again (next h2 t2 ?_);rw [b1,Bool.false_and]; exact a2
  ·have C2:Arr8 h1.get r2 139 (Te.coverSure mv s) := C1.congr fun j hj => by
    rw [Te.sure_is];have:decide (i <= j) = false := by rw [decide_eq_false_iff_not]; omega
    rw [this,Bool.false_or]
   have E2:Arr8 h1.get r4 139 (Te.coverCan mv c) := E1;have k0 := C2.cell (j := 0) (by decide);have k1 := C2.cell (j := 1) (by decide);have k2 := C2.cell (j := 2) (by decide);have k3 := C2.cell (j := 3) (by decide);have k4 := C2.cell (j := 4) (by decide);have k5 := C2.cell (j := 5) (by decide);have k6 := C2.cell (j := 6) (by decide);have k7 := C2.cell (j := 7) (by decide);have m0 := E2.cell (j := 0) (by decide);have m1 := E2.cell (j := 1) (by decide);have m2 := E2.cell (j := 2) (by decide);have m3 := E2.cell (j := 3) (by decide);have m4 := E2.cell (j := 4) (by decide);have m5 := E2.cell (j := 5) (by decide);have m6 := E2.cell (j := 6) (by decide);have m7 := E2.cell (j := 7) (by decide);refine gZ ?_;exact t_ret ⟨le1,rfl⟩
 ·rintro i xs vs h' hxs hle ⟨rfl,A,B,C,D,E⟩ Y hY;rw [List.getElem?_map] at hxs;obtain ⟨m,hm,rfl⟩ := Option.map_eq_some_iff.1 hxs;obtain ⟨m1,m2⟩ := h8 m (List.mem_of_getElem? hm);have i1:0 <= (m.1:Int) /\ (m.1:Int) < ((8:Nat):Int) := by omega
  have i2:0 <= (m.2:Int) /\ (m.2:Int) < ((8:Nat):Int) := by omega
  refine gZ ?_;refine t_storeA (j := m.2) (by rw [add_plain,add_plain]; simp) C m2 fun h2 t2 C2 => ?_;have le2 := t2.le hle hr2;have A2 := t2.arr n02 A;have B2 := t2.arr n12 B;have D2 := t2.arr n23.symm D;have E2 := t2.arr n24.symm E;replace C2:Arr8 h2.get r2 139 (Te.anyT (mv.take (i + 1)) fun _ => true) := by
   rw [Te.anyT_step hm,Bool.or_true]; exact C2
  have d':h2.get.cell? (Addr.add ⟨r3,0,none⟩ (Int.toNat (m.2:Int) * 1)) = some (.bool (Te.anyT (mv.take i) (fun m => !s m.1) m.2)) := by rw [Int.toNat_natCast,Nat.mul_one]; exact D2.cell m2
  refine gZ ?_;refine t_cond (fun e1 => ?_) (fun e1 => ?_)
  ·refine gZ ?_;refine t_storeA (j := m.2) (by rw [add_plain,add_plain]; simp) D2 m2 fun h3 t3 D3 => ?_;have le3 := t3.le le2 hr3;have A3 := t3.arr n03 A2;have B3 := t3.arr n13 B2;have C3 := t3.arr n23 C2;have E3 := t3.arr n34.symm E2;replace D3:Arr8 h3.get r3 139 (Te.anyT (mv.take (i + 1)) fun m => !s m.1) := by
    rw [Te.anyT_step hm,e1,Bool.true_or]; exact D3
   have e':h3.get.cell? (Addr.add ⟨r4,0,none⟩ (Int.toNat (m.2:Int) * 1)) = some (.bool (Te.anyT (mv.take i) (fun m => c m.1) m.2)) := by rw [Int.toNat_natCast,Nat.mul_one]; exact E3.cell m2
   refine gZ ?_;refine t_cond (fun e2 => ?_) (fun e2 => ?_)
   ·refine gZ ?_;refine t_storeA (j := m.2) (by rw [add_plain,add_plain]; simp) E3 m2 fun h4 t4 E4 => ?_;refine t_againE (t4.le le3 hr4) (hY _ _ (t4.le le3 hr4) ⟨rfl,t4.arr n04 A3,t4.arr n14 B3,t4.arr n24 C3,t4.arr n34 D3,?_⟩);rw [Te.anyT_step hm,e2,Bool.true_or]; exact E4
   ·have b':h3.get.cell? (Addr.add ⟨r1,0,none⟩ (Int.toNat (m.1:Int) * 1)) = some (.bool (c m.1)) := by rw [Int.toNat_natCast,Nat.mul_one]; exact B3.cell m1
    refine gZ ?_;refine t_storeA (j := m.2) (by rw [add_plain,add_plain]; simp) E3 m2 fun h4 t4 E4 => ?_;refine t_againE (t4.le le3 hr4) (hY _ _ (t4.le le3 hr4) ⟨rfl,t4.arr n04 A3,t4.arr n14 B3,t4.arr n24 C3,t4.arr n34 D3,?_⟩);rw [Te.anyT_step hm,e2,Bool.false_or]; exact E4
  ·have a':h2.get.cell? (Addr.add ⟨r,0,none⟩ (Int.toNat (m.1:Int) * 1)) = some (.bool (s m.1)) := by rw [Int.toNat_natCast,Nat.mul_one]; exact A2.cell m1
   refine gZ ?_;refine t_storeA (j := m.2) (by rw [add_plain,add_plain]; simp) D2 m2 fun h3 t3 D3 => ?_;have le3 := t3.le le2 hr3;have A3 := t3.arr n03 A2;have B3 := t3.arr n13 B2;have C3 := t3.arr n23 C2;have E3 := t3.arr n34.symm E2;replace D3:Arr8 h3.get r3 139 (Te.anyT (mv.take (i + 1)) fun m => !s m.1) := by
    rw [Te.anyT_step hm,e1,Bool.false_or]; exact D3
   have e':h3.get.cell? (Addr.add ⟨r4,0,none⟩ (Int.toNat (m.2:Int) * 1)) = some (.bool (Te.anyT (mv.take i) (fun m => c m.1) m.2)) := by rw [Int.toNat_natCast,Nat.mul_one]; exact E3.cell m2
   refine gZ ?_;refine t_cond (fun e2 => ?_) (fun e2 => ?_)
   ·refine gZ ?_;refine t_storeA (j := m.2) (by rw [add_plain,add_plain]; simp) E3 m2 fun h4 t4 E4 => ?_;refine t_againE (t4.le le3 hr4) (hY _ _ (t4.le le3 hr4) ⟨rfl,t4.arr n04 A3,t4.arr n14 B3,t4.arr n24 C3,t4.arr n34 D3,?_⟩);rw [Te.anyT_step hm,e2,Bool.true_or]; exact E4
   ·have b':h3.get.cell? (Addr.add ⟨r1,0,none⟩ (Int.toNat (m.1:Int) * 1)) = some (.bool (c m.1)) := by rw [Int.toNat_natCast,Nat.mul_one]; exact B3.cell m1
    refine gZ ?_;refine t_storeA (j := m.2) (by rw [add_plain,add_plain]; simp) E3 m2 fun h4 t4 E4 => ?_;refine t_againE (t4.le le3 hr4) (hY _ _ (t4.le le3 hr4) ⟨rfl,t4.arr n04 A3,t4.arr n14 B3,t4.arr n24 C3,t4.arr n34 D3,?_⟩);rw [Te.anyT_step hm,e2,Bool.false_or]; exact E4
end Go.Proofs.YtfkfohpnpljihaaGreatDoor
end
section
namespace Go.TM
open Go Go.Conc Go.Proofs.YtfkfohpnpljihaaGreatDoor
def gm (m:GMv):Te.GMove := ⟨m.ed,m.src.toNat,m.dst.toNat⟩
theorem mvL_steps {l:List GMv} (h0:∀ m ∈ l,0 <= m.src /\ 0 <= m.dst) (back:Bool) (e:Int):mvL back e l = (Te.stepsT (l.map gm) back e).map fun m => [.int .i64 (m.1:Int),.int .i64 (m.2:Int)] := by
 cases back
 ·unfold Te.stepsT;simp only [Bool.false_eq_true,if_false];rw [List.filter_map,List.map_map,List.map_map];unfold mvL;refine List.map_congr_left fun m hm => ?_;have := h0 m (List.mem_filter.1 hm).1;show [Value.int .i64 m.src,.int .i64 m.dst] = [.int .i64 (m.src.toNat:Int),.int .i64 (m.dst.toNat:Int)];rw [Int.toNat_of_nonneg this.1,Int.toNat_of_nonneg this.2]
 ·unfold Te.stepsT;simp only [if_true];rw [List.filter_map,List.map_map,List.map_map];unfold mvL;refine List.map_congr_left fun m hm => ?_;have := h0 m (List.mem_filter.1 hm).1;show [Value.int .i64 m.dst,.int .i64 m.src] = [.int .i64 (m.dst.toNat:Int),.int .i64 (m.src.toNat:Int)];rw [Int.toNat_of_nonneg this.1,Int.toNat_of_nonneg this.2]
theorem steps8 {l:List GMv} (h:∀ m ∈ l,(0 <= m.src /\ m.src < 8) /\ 0 <= m.dst /\ m.dst < 8) (back:Bool) (e:Int):∀ m ∈ Te.stepsT (l.map gm) back e,m.1 < 8 /\ m.2 < 8 := by
 intro m hm;cases back
 ·unfold Te.stepsT at hm;simp only [Bool.false_eq_true,if_false,List.mem_map,List.mem_filter] at hm;obtain ⟨_,⟨⟨x,hx,rfl⟩,_⟩,rfl⟩ := hm;have := h x hx;show x.src.toNat < 8 /\ x.dst.toNat < 8;omega
 ·unfold Te.stepsT at hm;simp only [if_true,List.mem_map,List.mem_filter] at hm;obtain ⟨_,⟨⟨x,hx,rfl⟩,_⟩,rfl⟩ := hm;have := h x hx;show x.dst.toNat < 8 /\ x.src.toNat < 8;omega
theorem TabOk.mv8 {t:GTab} (ok:TabOk t):∀ m ∈ t.moves,(0 <= m.src /\ m.src < 8) /\ 0 <= m.dst /\ m.dst < 8 := fun m hm => by
 obtain ⟨⟨_,_,h3,h4⟩,_,_,h5,h6⟩ := ok.move m hm;have := ok.items8 m.ed;have := ok.items8 (m.ed + 1);omega
def coverAt (t:GTab) (a b:Int) (l:List Int):Te.Items × Te.Items := Te.moveT (t.moves.map gm) (decide (b < a)) (b - a).natAbs a (setL l,setL l)
structure ListOk (t:GTab) (e:Int) (l:List Int):Prop where
 item:∀ v ∈ l,itemB t e v
 up:l.Pairwise (· < ·)
theorem ListOk.in8 {t:GTab} {e:Int} {l:List Int} (ok:TabOk t) (o:ListOk t e l):∀ v ∈ l,0 <= v /\ v < 8 := fun v hv => by
 obtain ⟨_,_,h3,h4⟩ := o.item v hv;have := ok.items8 e;omega
theorem pair_at {l:List Int} (h:l.Pairwise (· < ·)) {i j:Nat} {x y:Int} (hij:i < j) (hx:l[i]? = some x) (hy:l[j]? = some y):x < y := by
 obtain ⟨hi,rfl⟩ := List.getElem?_eq_some_iff.1 hx;obtain ⟨hj,rfl⟩ := List.getElem?_eq_some_iff.1 hy;exact List.pairwise_iff_getElem.1 h i j hi hj hij
end Go.TM
namespace Go.Proofs.YtfkfohpnpljihaaGreatDoor
open Go Go.TM Go.Proofs
attribute [local irreducible] T.wp CV FWK
set_option maxRecDepth 10000 in
theorem c3162 {h:LH} {f:TabC} {t:GTab} (hr:TabR h.get f t) (ok:TabOk t) {a b:Int} (ha:0 <= a /\ a < (t.eds.length:Int)) (hb:0 <= b /\ b < (t.eds.length:Int)) {p:Option Addr} {n c:Nat} {l:List Int} (hl:Sl IntE 1 h.get p n l) (hin:∀ v ∈ l,0 <= v /\ v < 8) :
  Gr Tryz.prog 71 #[tabV f,.int .i64 a,.int .i64 b,.slice p n c] h fun r _ => r = .tuple #[boolsV (coverAt t a b l).1,boolsV (coverAt t a b l).2] := by
 refine w3162 _ _ _ _ _ _ _ _ _ _ _ _ _ _ X0_ok ?_;unfold n3162;have hmany := ok.many;refine t_gr (c3184 hl hin) ?_;rintro _ h1 le1 rfl;refine gZ ?_;refine t_gr (c3184 (hl.le IntE.grow le1.1) hin) ?_;rintro _ h2 le2 rfl;have le02 := LH.le_trans le1 le2;refine gZ ?_;refine t_blk (fun vs h' => vs = [.func (.func (bif decide (b < a) then 114 else 113)) #[tabV f] #[],.int .i64 (bif decide (b < a) then -1 else 1)] /\ h2 = h') ?_ ?_
 ·refine t_if (fun hb => ?_) (fun hb => ?_)
  ·refine t_again ⟨?_,rfl⟩;rw [decide_eq_true hb]; rfl
  ·refine t_again ⟨?_,rfl⟩;rw [decide_eq_false hb]; rfl
 rintro vs _ ⟨rfl,rfl⟩;have hbk:∀ back:Bool,back = decide (b < a) -> (back = true -> b < a) /\ (back = false -> a <= b) := fun back e => by
  subst e;exact ⟨fun h => of_decide_eq_true h,fun h => by have := of_decide_eq_false h; omega⟩
 have hcov:coverAt t a b l = Te.moveT (t.moves.map gm) (decide (b < a)) (b - a).natAbs a (setL l,setL l) := rfl;generalize hB:decide (b < a) = back at *;have hdir := hbk back rfl;refine gZ ?_;refine t_loop (fun mm vs h' => h.le h' /\ ∃ (k:Nat) (s c:Te.Items),vs = [.int .i64 (bif back then a - k else a + k),.bool (s 0),.bool (s 1),.bool (s 2),.bool (s 3),.bool (s 4),.bool (s 5),.bool (s 6),.bool (s 7),.bool (c 0),.bool (c 1),.bool (c 2),.bool (c 3),.bool (c 4),.bool (c 5),.bool (c 6),.bool (c 7)] /\ k <= (b - a).natAbs /\ mm = (b - a).natAbs - k /\
   coverAt t a b l = Te.moveT (t.moves.map gm) back ((b - a).natAbs - k) (bif back then a - k else a + k) (s,c)) ⟨le02,0,setL l,setL l,?_,Nat.zero_le _,rfl,?_⟩ ?_
 ·cases back <;> simp
 ·rw [hcov]; cases back <;> simp
 rintro Y mm vs h3 hY ⟨le3,k,s,c,rfl,hk,rfl,hc⟩;refine gZ ?_;refine t_cond (fun e1 => ?_) (fun e1 => ?_)
 ·have hlt:k < (b - a).natAbs := by
   have:(bif back then a - k else a + k) ≠ b := by simpa using e1
   cases back
   ·have := hdir.2 rfl;simp only [cond_false] at *;omega
   ·have := hdir.1 rfl;simp only [cond_true] at *;omega
  have run:CV X0 Tryz.prog (.func (.func (bif back then 114 else 113)) #[tabV f] #[]) #[.int .i64 (bif back then a - k else a + k)] h3 fun r h' => h3.le h' /\ Hands X0 Tryz.prog r h' (mvL back (bif back then a - k else a + k) t.moves) := by
   cases back
   ·exact cv_fw X0_ok (by rfl) (c3185 (hr.le le3.1) ⟨by have := hdir.2 rfl; simp only [cond_false]; omega,by have := hdir.2 rfl; simp only [cond_false]; omega⟩)
   ·exact cv_fw X0_ok (by rfl) (c3186 (hr.le le3.1) ⟨by have := hdir.1 rfl; simp only [cond_true]; omega,by have := hdir.1 rfl; simp only [cond_true]; omega⟩)
  refine t_callv run ?_;rintro r h4 ⟨le4,hh⟩;rw [mvL_steps (fun m hm => ⟨(ok.mv8 m hm).1.1,(ok.mv8 m hm).2.1⟩)] at hh;refine gZ ?_;refine t_gr (c3187 hh (steps8 ok.mv8 _ _) s c) ?_;rintro _ h5 le5 rfl;refine gZ ?_;refine t_again (hY ((b - a).natAbs - (k + 1)) _ _ (by omega) ⟨LH.le_trans le3 (LH.le_trans le4 le5),k + 1,Te.coverSure (Te.stepsT (t.moves.map gm) back (bif back then a - (k:Int) else a + (k:Int))) s,Te.coverCan (Te.stepsT (t.moves.map gm) back (bif back then a - (k:Int) else a + (k:Int))) c,?_,by omega,rfl,?_⟩)
  ·have:wrap .i64 ((bif back then a - k else a + k) + (bif back then -1 else 1)) = (bif back then a - ((k + 1:Nat):Int) else a + ((k + 1:Nat):Int)) := by
    cases back
    ·have := hdir.2 rfl;simp only [cond_false];rw [wrap_id (by omega) (by omega)]; omega
    ·have := hdir.1 rfl;simp only [cond_true];rw [wrap_id (by omega) (by omega)]; omega
   rw [this]
  ·rw [hc,show (b - a).natAbs - k = ((b - a).natAbs - (k + 1)) + 1 by omega];have:(if back then (bif back then a - (k:Int) else a + k) - 1 else (bif back then a - (k:Int) else a + k) + 1) = (bif back then a - ((k + 1:Nat):Int) else a + ((k + 1:Nat):Int)) := by
    cases back
    ·simp only [cond_false,Bool.false_eq_true,if_false]; omega
    ·simp only [cond_true,if_true]; omega
   show Te.moveT _ _ _ (if back then _ else _) _ = _;rw [this]
 ·have hkK:k = (b - a).natAbs := by
   have:(bif back then a - k else a + k) = b := by simpa using e1
   cases back
   ·have := hdir.2 rfl;simp only [cond_false] at *;omega
   ·have := hdir.1 rfl;simp only [cond_true] at *;omega
  rw [hkK,Nat.sub_self] at hc;have hs:coverAt t a b l = (s,c) := hc;refine gZ ?_;refine t_ret ⟨le3,?_⟩;rw [hs]
theorem c3136 {h:LH} {f:TabC} {t:GTab} (hr:TabR h.get f t) {e:Int} {p:Option Addr} {n c:Nat} {l:List Int} (hl:Sl IntE 1 h.get p n l) (o:ListOk t e l):Pu Tryz.prog 148 #[tabV f,.int .i64 e,.slice p n c] h (.int .i64 0) := by
 refine w3136 _ _ _ _ _ _ _ _ _ _ _ _ _ X0_ok ?_;unfold n3136;have hn := hl.1;have hb := hl.2.1;refine t_loop (fun mm vs h' => h = h' /\ ∃ i:Nat,vs = [.int .i64 0,.int .i64 i] /\ i <= n /\ mm = n - i) ⟨rfl,0,rfl,Nat.zero_le _,rfl⟩ ?_;rintro Y mm vs _ hY ⟨rfl,i,rfl,hi,rfl⟩;have next:Y [.int .i64 0,.int .i64 (wrap .i64 ((i:Int) + 1))] h \/ n <= i := by
  by_cases e:i < n
  ·refine .inl (hY (n - (i + 1)) _ _ (by omega) ⟨rfl,i + 1,?_,by omega,rfl⟩);rw [wrap_id (by omega) (by omega)]; rfl
  ·exact .inr (by omega)
 refine gZ ?_;refine t_if (fun e1 => ?_) (fun e1 => ?_)
 ·obtain ⟨x,a,hx,ha,e2⟩ := hl.at (i := i) (by omega);unfold IntE at e2;have hin:0 <= (i:Int) /\ (i:Int) < (n:Int) := by omega
  have nxt := next.resolve_right (by omega)
  refine gZ ?_;refine t_pu (c3168 hr _ _) ?_;rw [item_is.2 (o.item x (List.mem_of_getElem? hx))];refine gZ ?_;refine t_cond (fun e => by cases e) (fun _ => ?_);refine t_if (fun e3 => ?_) (fun e3 => ?_)
  ·obtain ⟨y,a',hy,ha',e4⟩ := hl.at (i := i - 1) (by omega);obtain rfl:a = a' := Option.some.inj (ha.symm.trans ha');unfold IntE at e4;have hlt := pair_at o.up (by omega:i - 1 < i) hy hx;have ew:wrap .i64 ((i:Int) - 1) = ((i - 1:Nat):Int) := by rw [wrap_id (by omega) (by omega)]; omega
   have hin1:0 <= ((i - 1:Nat):Int) /\ ((i - 1:Nat):Int) < (n:Int) := by omega
   rw [ew];refine gZ ?_;refine t_if (fun e => by omega) (fun _ => ?_);exact t_again nxt
  ·exact t_again nxt
 ·refine gZ ?_;exact t_ret ⟨rfl,rfl⟩
end Go.Proofs.YtfkfohpnpljihaaGreatDoor
end
section
namespace Go.TM
open Go Go.Conc
def LstE (h:Cells) (a:Addr) (l:List Int):Prop := ∃ q n c,h.cell? a = some (.slice q n c) /\ Sl IntE 1 h q n l
theorem LstE.grow:Grow LstE := fun _ _ _ _ hl ⟨q,n,c,h1,h2⟩ => ⟨q,n,c,hl _ _ h1,h2.rd IntE.grow hl⟩
theorem sl_one {h:Cells} {r:Nat} {m:Bool} {el:TypeId} {p:Option Addr} {n c:Nat} {a:List Int} (hr:h r = some (m,.cells #[.slice p n c] el (0,0))) (ha:Sl IntE 1 h p n a):Sl LstE 1 h (some ⟨r,0,none⟩) 1 [a] := by
 refine ⟨rfl,by simp,fun i x hx => ⟨_,rfl,?_⟩⟩
 match i,hx with
 | 0,hx => cases hx; exact ⟨p,n,c,by rw [add_plain]; unfold Cells.cell?; rw [hr]; rfl,ha⟩
end Go.TM
namespace Go.Proofs.YtfkfohpnpljihaaGreatDoor
open Go Go.TM Go.Proofs
attribute [local irreducible] T.wp CV FWK
theorem infL:(Tryz.prog.info? 30).map (fun i => (i.size,i.bytes,i.zero)) = some (1,24,some (.slice none 0 0)) := by kernel_rfl
theorem c3133 {h:LH} {f:TabC} {t:GTab} (hr:TabR h.get f t) (ok:TabOk t) {e:Int} (he:0 <= e /\ e < (t.eds.length:Int)) {p:Option Addr} {n c:Nat} {ls:List (List Int)} (hl:Sl LstE 1 h.get p n ls) (ho:∀ l ∈ ls,ListOk t e l) :
  Gr Tryz.prog 111 #[tabV f,.int .i64 e,.slice p n c] h fun r _ => r = .tuple #[tabV f,.int .i64 0] := by
 refine w3133 _ _ _ _ _ _ _ _ _ _ _ _ _ X0_ok ?_;unfold n3133;refine t_gr (c3160 hr ok) ?_;rintro _ h1 le1 rfl;have hr1 := hr.le le1.1;have hl1 := hl.le LstE.grow le1.1;have hn := hl1.1;have hb := hl1.2.1;refine gZ ?_;refine t_cond (fun e => by cases e) (fun _ => ?_);refine t_pu (c3161 hr1 _) ?_;rw [in_iff.2 (show 0 <= e /\ e <= (t.eds.length:Int) - 1 by omega)];refine gZ ?_;refine t_cond (fun e => by cases e) (fun _ => ?_);refine t_loop (fun mm vs h' => h' = h1 /\ ∃ i:Nat,vs = [.int .i64 0,.int .i64 i,.slice none 0 0,.slice none 0 0,.slice none 0 0] /\ i <= n /\ mm = n - i) ⟨rfl,0,rfl,Nat.zero_le _,rfl⟩ ?_;rintro Y mm vs _ hY ⟨rfl,i,rfl,hi,rfl⟩;refine gZ ?_;refine t_if (fun e1 => ?_) (fun e1 => ?_)
 ·obtain ⟨l,a,hx,ha,q,k,d,e2,e3⟩ := hl1.at (i := i) (by omega);have hin:0 <= (i:Int) /\ (i:Int) < (n:Int) := by omega
  refine gZ ?_;refine t_pu (c3136 hr1 e3 (ho l (List.mem_of_getElem? hx))) ?_;refine gZ ?_;refine t_cond (fun e => by cases e) (fun _ => ?_);refine t_again (hY (n - (i + 1)) _ _ (by omega) ⟨rfl,i + 1,?_,by omega,rfl⟩);rw [wrap_id (by omega) (by omega)]; rfl
 ·refine gZ ?_;exact t_ret ⟨le1,rfl⟩
end Go.Proofs.YtfkfohpnpljihaaGreatDoor
end
section
namespace Go.Proofs.YtfkfohpnpljihaaGreatDoor
open Go Go.TM Go.Proofs
set_option linter.unusedVariables false
set_option maxRecDepth 100000
variable {X:XP} {h:LH} {A:Value -> LH -> Prop}
def n3201 (t_0p:Option Addr) (t_0n t_0c:Nat) (t_1p:Option Addr) (t_1n t_1c:Nat) (t_2p:Option Addr) (t_2n t_2c:Nat) (edition one two:Int):T := .new 3 #[edition] fun r => .new 3 #[one] fun r_1 => .new 3 #[two] fun r_2 => .li ⟨r_1,0,none⟩ fun n => .li ⟨r_2,0,none⟩ fun n_1 => bif n == n_1 then .rt (.int .i64 5) else .cI 164 #[.slice t_2p t_2n t_2c,.func (Fn.func 165) #[] #[.pointer (some ⟨r,0,none⟩),.pointer (some ⟨r_1,0,none⟩),.pointer (some ⟨r_2,0,none⟩)]] fun n => bif decide (n < 0) then .rt (.int .i64 0) else .need (0 <= n /\ n < (↑t_2n:Int)) (.someA t_2p fun a => .li ((a.add (n.toNat * 4)).add 3) fun n => .rt (.int .i64 n))
theorem w3201 (t_0p:Option Addr) (t_0n t_0c:Nat) (t_1p:Option Addr) (t_1n t_1c:Nat) (t_2p:Option Addr) (t_2n t_2c:Nat) (edition one two:Int):FX X 119 #[.agg #[.slice t_0p t_0n t_0c,.slice t_1p t_1n t_1c,.slice t_2p t_2n t_2c],.int .i64 edition,.int .i64 one,.int .i64 two] h A (n3201 t_0p t_0n t_0c t_1p t_1n t_1c t_2p t_2n t_2c edition one two) := fk [4] [] [] Tryz.f119
def n3231 (sp:Option Addr) (sn sc:Nat) (f:Value):T := .loop [.int .i64 0,.int .i64 0] (fun vs => .pi vs fun n vs => .pi vs fun n_1 vs => .unNil vs (bif decide (n_1 < (↑sn:Int)) then .need (0 <= n_1 /\ n_1 < (↑sn:Int)) (.someA sp fun a => .li ((a.add (n_1.toNat * 4)).add 0) fun n_2 => .li ((a.add (n_1.toNat * 4)).add 1) fun n_3 => .li ((a.add (n_1.toNat * 4)).add 2) fun n_4 => .li ((a.add (n_1.toNat * 4)).add 3) fun n_5 => .callv false f #[.agg #[n_2,.int .i64 n_3,.int .i64 n_4,.int .i64 n_5]] fun v => .unB v fun b => bif b then .rn [n_1,.int .i64 n_1] else .ag [n,.int .i64 (wrap .i64 (n_1 + 1))]) else .bk [n,.int .i64 n_1])) (fun vs => .pi vs fun n vs => .pi vs fun n vs => .unNil vs (.rt (.int .i64 (-1)))) (fun vs => .pi vs fun n vs => .pi vs fun n_1 vs => .unNil vs (.rt (.int .i64 n))) fun x x_1 => .fail
theorem w3231 (sp:Option Addr) (sn sc:Nat) (f:Value):FX X 164 #[.slice sp sn sc,f] h A (n3231 sp sn sc f) := fk [] [⟨0,[(4,.int .i64),(8,.int .i64)],[],[],[],[]⟩] [] Tryz.f164
def n3232 (k_0 k_1 k_2 k_3:Int) (z0 z1 z2:Addr):T := .li z0 fun n => bif k_0 == n then .li z1 fun n => .li z2 fun n_1 => bif k_1 == if n_1 < n then n_1 else n then .li z1 fun n => .li z2 fun n_2 => .rt (.bool (k_2 == if n_2 > n then n_2 else n)) else .rt (.bool false) else .rt (.bool false)
theorem w3232 (k_0 k_1 k_2 k_3:Int) (z0 z1 z2:Addr):FX X 165 #[.agg #[k_0,.int .i64 k_1,.int .i64 k_2,.int .i64 k_3],.pointer (some z0),.pointer (some z1),.pointer (some z2)] h A (n3232 k_0 k_1 k_2 k_3 z0 z1 z2) := fk [4] [] [] Tryz.f165
end Go.Proofs.YtfkfohpnpljihaaGreatDoor
end
section
namespace Go.TM
open Go
def kinIs (e one two:Int) (k:GKn):Bool := k.ed == e && (k.one == (if two < one then two else one) && k.two == (if two > one then two else one))
def levelF (t:GTab) (e one two:Int):Int := if one = two then 5 else match t.kins.find? (kinIs e one two) with
 | none => 0
 | some k => k.lev
end Go.TM
namespace Go.Proofs.YtfkfohpnpljihaaGreatDoor
open Go Go.TM Go.Proofs
attribute [local irreducible] T.wp CV FWK
theorem c3232 {h:LH} {z0 z1 z2:Addr} {e one two:Int} (h0:h.get.cell? z0 = some (.int .i64 e)) (h1:h.get.cell? z1 = some (.int .i64 one)) (h2:h.get.cell? z2 = some (.int .i64 two)) (k:GKn) :
  Pu Tryz.prog 165 #[.agg #[.int .i64 k.ed,.int .i64 k.one,.int .i64 k.two,.int .i64 k.lev],.pointer (some z0),.pointer (some z1),.pointer (some z2)] h (.bool (kinIs e one two k)) := by
 refine w3232 _ _ _ _ _ _ _ X0_ok ?_;unfold n3232 kinIs;refine gZ ?_;refine t_cond (fun b1 => ?_) (fun b1 => ?_)
 ·refine gZ ?_;refine t_cond (fun b2 => ?_) (fun b2 => ?_)
  ·refine gZ ?_;rw [b1,b2];exact t_ret ⟨rfl,rfl⟩
  ·rw [b1,b2];exact t_ret ⟨rfl,rfl⟩
 ·rw [b1];exact t_ret ⟨rfl,rfl⟩
theorem c3231 {h:LH} {p:Option Addr} {n c:Nat} {l:List GKn} {fv:Value} {g:GKn -> Bool} (hl:Sl KnE 4 h.get p n l) (hf:∀ k,CV X0 Tryz.prog fv #[.agg #[.int .i64 k.ed,.int .i64 k.one,.int .i64 k.two,.int .i64 k.lev]] h fun r h' => r = .bool (g k) /\ h' = h) :
  FW X0 Tryz.prog 164 #[.slice p n c,fv] h fun r h' => h = h' /\ ((r = .int .i64 (-1) /\ l.find? g = none) \/ ∃ (i:Nat) (x:GKn),i < n /\ r = .int .i64 i /\ l[i]? = some x /\ l.find? g = some x) := by
 refine w3231 _ _ _ _ X0_ok ?_;unfold n3231;have hn := hl.1;have hb := hl.2.1;refine t_loop (fun mm vs h' => h' = h /\ ∃ i:Nat,vs = [.int .i64 0,.int .i64 i] /\ i <= n /\ mm = n - i /\ l.find? g = (l.drop i).find? g) ⟨rfl,0,rfl,Nat.zero_le _,rfl,rfl⟩ ?_;rintro Y mm vs _ hY ⟨rfl,i,rfl,hi,rfl,hall⟩;refine gZ ?_;refine t_if (fun e1 => ?_) (fun e1 => ?_)
 ·obtain ⟨x,a,hx,ha,e2,e3,e4,e5⟩ := hl.at (i := i) (by omega);have hin:0 <= (i:Int) /\ (i:Int) < (n:Int) := by omega
  rw [drop_of hx,List.find?_cons] at hall;refine gZ ?_;refine t_callv (hf x) ?_;rintro _ _ ⟨rfl,rfl⟩;refine gZ ?_;refine t_cond (fun b1 => ?_) (fun b1 => ?_)
  ·refine gI ?_;rw [b1] at hall;refine gZ ?_;exact t_ret ⟨rfl,.inr ⟨i,x,by omega,rfl,hx,hall⟩⟩
  ·rw [b1] at hall;refine t_again (hY (n - (i + 1)) _ _ (by omega) ⟨rfl,i + 1,?_,by omega,rfl,hall⟩);rw [wrap_id (by omega) (by omega)]; rfl
 ·refine gZ ?_;rw [List.drop_eq_nil_of_le (by omega)] at hall;exact t_ret ⟨rfl,.inl ⟨rfl,hall⟩⟩
theorem c3201 {h:LH} {f:TabC} {t:GTab} (hr:TabR h.get f t) (e one two:Int):Gr Tryz.prog 119 #[tabV f,.int .i64 e,.int .i64 one,.int .i64 two] h fun r _ => r = .int .i64 (levelF t e one two) := by
 refine w3201 _ _ _ _ _ _ _ _ _ _ _ _ X0_ok ?_;unfold n3201;refine t_new fun r0 hr0 => ?_;refine t_new fun r1 hr1 => ?_;refine t_new fun r2 hr2 => ?_;have le0 := LH.upd_le (x := (true,.cells #[.int .i64 e] 3 (0,0))) hr0;have le1 := LH.upd_le (x := (true,.cells #[.int .i64 one] 3 (0,0))) hr1;have le2 := LH.upd_le (x := (true,.cells #[.int .i64 two] 3 (0,0))) hr2;have le12 := LH.le_trans le1 le2;have le02 := LH.le_trans le0 le12;have k0:Cells.cell? (Cells.upd (Cells.upd (Cells.upd h.get r0 (true,.cells #[.int .i64 e] 3 (0,0))) r1 (true,.cells #[.int .i64 one] 3 (0,0))) r2 (true,.cells #[.int .i64 two] 3 (0,0))) ⟨r0,0,none⟩ = some (.int .i64 e) := Cells.cell?_le le12.1 (cell_upd rfl);have k1:Cells.cell? (Cells.upd (Cells.upd (Cells.upd h.get r0 (true,.cells #[.int .i64 e] 3 (0,0))) r1 (true,.cells #[.int .i64 one] 3 (0,0))) r2 (true,.cells #[.int .i64 two] 3 (0,0))) ⟨r1,0,none⟩ = some (.int .i64 one) := Cells.cell?_le le2.1 (cell_upd rfl);have k2:Cells.cell? (Cells.upd (Cells.upd (Cells.upd h.get r0 (true,.cells #[.int .i64 e] 3 (0,0))) r1 (true,.cells #[.int .i64 one] 3 (0,0))) r2 (true,.cells #[.int .i64 two] 3 (0,0))) ⟨r2,0,none⟩ = some (.int .i64 two) := cell_upd rfl;have hr3 := hr.le le02.1;refine gL0 k1 ?_;refine gL0 k2 ?_;unfold levelF;refine t_cond (fun b1 => ?_) (fun b1 => ?_)
 ·rw [if_pos (by simpa using b1)];exact t_ret ⟨le02,rfl⟩
 ·rw [if_neg (by simpa using b1)];refine t_call (FW.top (c3231 hr3.kins fun k => cv_fw (first := #[]) (args := #[.agg #[.int .i64 k.ed,.int .i64 k.one,.int .i64 k.two,.int .i64 k.lev]]) (cap := #[.pointer (some ⟨r0,0,none⟩),.pointer (some ⟨r1,0,none⟩),.pointer (some ⟨r2,0,none⟩)]) X0_ok rfl (c3232 k0 k1 k2 k))) ?_;have hn := hr3.kins.1;have hb := hr3.kins.2.1;rintro _ _ ⟨rfl,⟨rfl,hfi⟩ | ⟨i,x,hi,rfl,hx,hfi⟩⟩
  ·refine gZ ?_;refine t_cond (fun _ => ?_) (fun e => by cases e);rw [hfi];exact t_ret ⟨le02,rfl⟩
  ·refine gZ ?_;refine t_if (fun e => absurd e (by omega)) (fun _ => ?_);obtain ⟨x',a,hx',ha,e2,e3,e4,e5⟩ := hr3.kins.at (i := i) (by omega);rw [hx] at hx';cases hx';have hin:0 <= (i:Int) /\ (i:Int) < (f.n2:Int) := by omega
   refine gZ ?_;rw [hfi];exact t_ret ⟨le02,rfl⟩
end Go.Proofs.YtfkfohpnpljihaaGreatDoor
end
section
namespace Go.Proofs.YtfkfohpnpljihaaGreatDoor
open Go Go.TM Go.Proofs
set_option linter.unusedVariables false
set_option maxRecDepth 100000
variable {X:XP} {h:LH} {A:Value -> LH -> Prop}
def n3178 (t_0p:Option Addr) (t_0n t_0c:Nat) (t_1p:Option Addr) (t_1n t_1c:Nat) (t_2p:Option Addr) (t_2n t_2c:Nat) (edition:Int) (ap:Option Addr) (an ac:Nat) (bp:Option Addr) (bn bc:Nat):T := .new 137 #[.slice t_0p t_0n t_0c,.slice t_1p t_1n t_1c,.slice t_2p t_2n t_2c] fun r => .new 3 #[edition] fun r_1 => .new 30 #[.slice bp bn bc] fun r_2 => .sem false (Instr.makeSlice 30 (.int .i64 (↑an:Int)) (.int .i64 (↑an:Int))) fun v => .unS v fun a n c => .new 30 #[.slice none 0 0] fun r_3 => .store (Addr.add ⟨r_3,0,none⟩ 0) (.slice a n c) (.new 210 #[.int .u64 0,.int .u32 0] fun r_4 => .loop [.int .i64 0] (fun vs => .pi vs fun n vs => .unNil vs (bif decide (n < (↑an:Int)) then .need (0 <= n /\ n < (↑an:Int)) (.someA ap fun a => .li (a.add (n.toNat * 1)) fun n_1 => .new 3 #[.int .i64 0] fun r_5 => .new 3 #[.int .i64 0] fun r_6 => .store (Addr.add ⟨r_5,0,none⟩ 0) (.int .i64 n) (.store (Addr.add ⟨r_6,0,none⟩ 0) (.int .i64 n_1) (.cl 116 #[.pointer (some ⟨r_4,0,none⟩),.int .i64 1] fun v => .unTup v fun l => .unNil l (.spawn (.func (Fn.func 117) #[] #[.pointer (some ⟨r_4,0,none⟩),.pointer (some ⟨r_2,0,none⟩),.pointer (some ⟨r_3,0,none⟩),.pointer (some ⟨r_5,0,none⟩),.pointer (some ⟨r,0,none⟩),.pointer (some ⟨r_1,0,none⟩),.pointer (some ⟨r_6,0,none⟩)]) #[] (.ag [.int .i64 (wrap .i64 (n + 1))]))))) else .bk [n])) (fun vs => .pi vs fun n vs => .unNil vs (.cl 120 #[.pointer (some ⟨r_4,0,none⟩)] fun v => .unTup v fun l => .unNil l (.loadS ⟨r_3,0,none⟩ fun p n c => bif (↑n:Int) == 0 then .rt (.int .i64 0) else .loadS ⟨r_3,0,none⟩ fun p n c => .cI 121 #[.slice p n c] fun n => .rt (.int .i64 n)))) (fun vs => .pi vs fun n vs => .unNil vs (.rt (.int .i64 0))) fun x x_1 => .fail)
theorem w3178 (t_0p:Option Addr) (t_0n t_0c:Nat) (t_1p:Option Addr) (t_1n t_1c:Nat) (t_2p:Option Addr) (t_2n t_2c:Nat) (edition:Int) (ap:Option Addr) (an ac:Nat) (bp:Option Addr) (bn bc:Nat):FX X 72 #[.agg #[.slice t_0p t_0n t_0c,.slice t_1p t_1n t_1c,.slice t_2p t_2n t_2c],.int .i64 edition,.slice ap an ac,.slice bp bn bc] h A (n3178 t_0p t_0n t_0c t_1p t_1n t_1c t_2p t_2n t_2c edition ap an ac bp bn bc) := fk [] [⟨0,[(18,.int .i64)],[],[],[],[]⟩] [] Tryz.f72
def n3177 (t_0p:Option Addr) (t_0n t_0c:Nat) (t_1p:Option Addr) (t_1n t_1c:Nat) (t_2p:Option Addr) (t_2n t_2c:Nat) (edition:Int) (listp:Option Addr) (listn listc:Nat):T := .sem false (Instr.buildSlice 248 1 #[(0,.slice listp listn listc)]) fun v => .unS v fun a n c => .cT 111 #[.agg #[.slice t_0p t_0n t_0c,.slice t_1p t_1n t_1c,.slice t_2p t_2n t_2c],.int .i64 edition,.slice a n c] fun v vs => .unAgg v fun l => .popS l fun a n c vs_1 => .popS vs_1 fun a n c vs_2 => .popS vs_2 fun a n c vs_3 => .unNil vs_3 (.unCons vs fun v vs => .ui v fun n => .unNil vs (.rt (.int .i64 n)))
theorem w3177 (t_0p:Option Addr) (t_0n t_0c:Nat) (t_1p:Option Addr) (t_1n t_1c:Nat) (t_2p:Option Addr) (t_2n t_2c:Nat) (edition:Int) (listp:Option Addr) (listn listc:Nat):FX X 70 #[.agg #[.slice t_0p t_0n t_0c,.slice t_1p t_1n t_1c,.slice t_2p t_2n t_2c],.int .i64 edition,.slice listp listn listc] h A (n3177 t_0p t_0n t_0c t_1p t_1n t_1c t_2p t_2n t_2c edition listp listn listc) := fk [3,7] [] [] Tryz.f70
def n3203 (xp:Option Addr) (xn xc:Nat):T := .blk (bif decide ((↑xn:Int) < 1) then .fail else .ag []) (fun vs => .unNil vs (.need ((0:Int) <= 0 /\ 0 < (↑xn:Int)) (.someA xp fun a => .li (a.add 0) fun n => .loop [n,.int .i64 1] (fun vs => .pi vs fun n vs => .pi vs fun n_1 vs => .unNil vs (bif decide (n_1 < (↑xn:Int)) then .need (0 <= n_1 /\ n_1 < (↑xn:Int)) (.someA xp fun a => .li (a.add (n_1.toNat * 1)) fun n_2 => .ag [.int .i64 (if n_2 > n then n_2 else n),.int .i64 (wrap .i64 (n_1 + 1))]) else .bk [n,.int .i64 n_1])) (fun vs => .pi vs fun n vs => .pi vs fun n_1 vs => .unNil vs (.rt (.int .i64 n))) (fun vs => .pi vs fun n vs => .pi vs fun n vs => .unNil vs (.rt (.int .i64 0))) fun x x_1 => .fail))) (fun vs => .unNil vs (.rt (.int .i64 0))) fun x x_1 => .fail
theorem w3203 (xp:Option Addr) (xn xc:Nat):FX X 121 #[.slice xp xn xc] h A (n3203 xp xn xc) := fk [] [⟨0,[(3,.int .i64),(4,.int .i64)],[],[],[],[]⟩] [⟨3,[],[],[],[],[]⟩] Tryz.f121
end Go.Proofs.YtfkfohpnpljihaaGreatDoor
end
namespace Go.TM
section
open Go Go.Conc
def holeK (o:Obj):Option Nat -> Prop
 | none => ∃ i,isHole o i
 | some i => isHole o i
open Classical in
def holdsP (cs:Nat -> Cells) (j:Nat) (k:Key):Option Bool := (cs j k.1).bind fun x => if holeK x.2 k.2 then none else some x.1
theorem holdsP_of {cs:Nat -> Cells} {j r:Nat} {q:Option Nat} {x:Bool × Obj} (h:cs j r = some x) (hn:¬ holeK x.2 q):holdsP cs j (r,q) = some x.1 := by
 unfold holdsP; simp only [h,Option.bind_some,if_neg hn]
theorem holdsP_inv {cs:Nat -> Cells} {j:Nat} {k:Key} {b:Bool} (h:holdsP cs j k = some b):∃ x,cs j k.1 = some x /\ ¬ holeK x.2 k.2 /\ x.1 = b := by
 unfold holdsP at h;obtain ⟨x,hx,h1⟩ := Option.bind_eq_some_iff.1 h;by_cases hn:holeK x.2 k.2
 ·rw [if_pos hn] at h1; cases h1
 ·rw [if_neg hn] at h1; exact ⟨x,hx,hn,Option.some.inj h1⟩
theorem not_holeK {o:Obj} (h:∀ i,¬ isHole o i):∀ q,¬ holeK o q
 | none => fun ⟨i,hi⟩ => h i hi
 | some i => h i
structure MemW (sy:Sy) (n0:Nat) (w0:World) (C:Nat) (cs:Nat -> Cells) (ng:Nat) (gone:Nat -> Prop) (w:World) (t:Trace):Prop where
 fits:∀ j,Fits (cs j) w
 part:∀ j b o,cs j C = some (b,o) -> b = true /\ ∃ c e,o = .pending c e
 whole:∀ j r b o,r ≠ C -> cs j r = some (b,o) -> ∀ i,¬ isHole o i
 ti:TI sy t w.heap.size ng (holdsP cs) gone
 off:∀ r,sy.sp r -> ∀ j,cs j r = none
 cl:C < w.heap.size
 out:∀ j,ng <= j -> ∀ r,cs j r = none
 pos:0 < ng
 base:∀ r,r < n0 -> w.heap[r]? = w0.heap[r]?
 low:∀ j r o,cs j r = some (true,o) -> n0 <= r
 size:n0 <= w.heap.size
 os:w.os = w0.os
 tape:w.tape = w0.tape
 output:w.output = w0.output
variable {sy:Sy} {n0:Nat} {w0:World} {C:Nat} {cs:Nat -> Cells} {ng:Nat} {gone:Nat -> Prop} {w:World} {t:Trace}
theorem MemW.at (m:MemW sy n0 w0 C cs ng gone w t) (d:Nat):MemW sy n0 w0 C cs ng gone (w.at d) t :=
 ⟨m.fits,m.part,m.whole,m.ti,m.off,m.cl,m.out,m.pos,m.base,m.low,m.size,m.os,m.tape,m.output⟩
theorem MemW.apart (m:MemW sy n0 w0 C cs ng gone w t) {i j r:Nat} {o:Obj} (hij:i ≠ j) (hr:r ≠ C) (h:cs i r = some (true,o)):cs j r = none := by
 have h1 := m.ti.excl i j (r,none) hij (holdsP_of h (not_holeK (m.whole i r _ _ hr h) _));cases hj:cs j r with
 | none => rfl
 | some x => rw [holdsP_of hj (not_holeK (m.whole j r x.1 x.2 hr hj) _)] at h1; cases h1
theorem MemW.cells (m:MemW sy n0 w0 C cs ng gone w t) {i j:Nat} (hij:i ≠ j) {b b':Bool} {c c':Array Value} {e e':TypeId} (h:cs i C = some (b,.pending c e)) (h':cs j C = some (b',.pending c' e')) (k:Nat) :
  isHole (.pending c e) k \/ isHole (.pending c' e') k := by
 by_cases h1:isHole (.pending c e) k
 ·exact .inl h1
 ·right;apply Classical.byContradiction;intro h2;have hb:b = true := (m.part i _ _ h).1;subst hb;have := m.ti.excl i j (C,some k) hij (holdsP_of (q := some k) h h1);rw [holdsP_of (q := some k) h' h2] at this; cases this
theorem MemW.step (m:MemW sy n0 w0 C cs ng gone w t) {j:Nat} (hj:j < ng) (hng:¬ gone j) {h':Cells} {w':World} {es:Array Event} (fn:FuncId) (pos:String)
  (tr:Tr (cs j) w h' w') (hes:∀ e ∈ es,EvOk (cs j) w.heap.size w'.heap.size e) :
  MemW sy n0 w0 C (fun i => if i = j then h' else cs i) ng gone w' (t ++ MemOp.ofEvents j fn pos es) /\ ∀ r,sy.sp r -> w'.heap[r]? = w.heap[r]? := by
 have hold:holdsP (fun i => if i = j then h' else cs i) = fun i => if i = j then holdsP (fun _ => h') j else holdsP cs i := by
  funext i k;by_cases e:i = j <;> simp [holdsP,e]
 have hspec:∀ r,sy.sp r -> h' r = none := by
  intro r hr;cases hx:h' r with
  | none => rfl
  | some x =>
   rcases tr.new r x hx with ⟨y,hy,_,_⟩ | ⟨hlt,_,_⟩
   ·rw [m.off r hr j] at hy; cases hy
   ·exact absurd (m.ti.spl r hr) (Nat.not_lt.2 hlt)
 have hsp:∀ r,sy.sp r -> w'.heap[r]? = w.heap[r]? := by
  intro r hr;refine tr.other r (m.ti.spl r hr) ?_;rintro ⟨o,ho⟩;rw [m.off r hr j] at ho; cases ho
 refine ⟨⟨?_,?_,?_,?_,?_,Nat.lt_of_lt_of_le m.cl tr.size,?_,m.pos,?_,?_,Nat.le_trans m.size tr.size,tr.os.trans m.os,tr.tape.trans m.tape,tr.output.trans m.output⟩,hsp⟩
 ·intro i;by_cases e:i = j
  ·simp only [e,if_true]; exact tr.fits
  ·simp only [e,if_false];intro r b o hr;obtain ⟨o₁,h1,h2⟩ := m.fits i r b o hr;by_cases hown:(cs j).own r
   ·obtain ⟨oj,ho⟩ := hown;by_cases er:r = C
    ·subst er;obtain ⟨_,cj,ej,rfl⟩ := m.part j _ _ ho;obtain ⟨_,ci,ei,rfl⟩ := m.part i _ _ hr;obtain ⟨c',rfl,hsz,hcc⟩ := h2;obtain ⟨o₂,h3,hk⟩ := tr.part r _ _ ho h1;obtain ⟨c1,c2,e1,f1,e2,rfl,hs2,hq⟩ := hk ⟨_,hole_end cj ej⟩;cases e2;refine ⟨_,h3,c2,rfl,hs2.trans hsz,fun k v hv hn => ?_⟩;rcases m.cells (fun e' => e e') hr ho k with hh | hh
     ·have := hh v hv; rw [hn] at this; cases this
     ·rw [hq k hh]; exact hcc k v hv hn
    ·rw [m.apart (fun e' => e e'.symm) er ho] at hr; cases hr
   ·exact ⟨o₁,by rw [tr.other r (Fits.lt (m.fits i) hr) hown]; exact h1,h2⟩
 ·intro i b o hr;by_cases e:i = j
  ·simp only [e,if_true] at hr;rcases tr.new C _ hr with ⟨⟨b',o'⟩,hy,e1,hh⟩ | ⟨hlt,_,_⟩
   ·obtain ⟨hb,c,el,rfl⟩ := m.part j _ _ hy;simp only at e1 hh;refine ⟨by rw [<- e1]; exact hb,?_⟩;have := (hh c.size).1 (hole_end c el);cases o with
    | pending c' e' => exact ⟨c',e',rfl⟩
    | _ => exact this.elim
   ·exact absurd m.cl (Nat.not_lt.2 hlt)
  ·simp only [e,if_false] at hr; exact m.part i b o hr
 ·intro i r b o hrC hr;by_cases e:i = j
  ·simp only [e,if_true] at hr;rcases tr.new r _ hr with ⟨⟨b',o'⟩,hy,_,hh⟩ | ⟨_,_,hh⟩
   ·exact fun k hk => m.whole j r b' o' hrC hy k ((hh k).2 hk)
   ·exact hh
  ·simp only [e,if_false] at hr; exact m.whole i r b o hrC hr
 ·rw [hold];refine m.ti.step hj hng tr.size ?_ ?_
  ·intro e he;have hev := hes e he;unfold EvOk at hev;split at hev
   ·rename_i a hl;refine ⟨fun mk hm => (by rw [hl] at hm; cases hm),fun k hk => ?_⟩;rw [hl] at hk; cases hk;rcases hev.2 with ⟨h1,h2⟩ | ⟨x,hx,hw,hh⟩
    ·exact ⟨h2,.inl h1⟩
    ·exact ⟨Nat.lt_of_lt_of_le (Fits.lt (m.fits j) hx) tr.size,.inr ⟨x.1,holdsP_of hx hh,hw⟩⟩
   ·rename_i r hl;refine ⟨fun mk hm => (by rw [hl] at hm; cases hm),fun k hk => ?_⟩;rw [hl] at hk; cases hk;rcases hev with ⟨h1,h2⟩ | ⟨x,hx,hw,hh⟩
    ·exact ⟨h2,.inl h1⟩
    ·exact ⟨Nat.lt_of_lt_of_le (Fits.lt (m.fits j) hx) tr.size,.inr ⟨x.1,holdsP_of hx (not_holeK hh _),hw⟩⟩
   ·rename_i mk hl;refine ⟨fun mk' hm => (by rw [hl] at hm; cases hm; exact hev),fun k hk => ?_⟩;rw [hl] at hk; cases hk
   ·exact hev.elim
  ·rintro ⟨r,q⟩ b hb;obtain ⟨x,hx,hn,hb'⟩ := holdsP_inv hb;rcases tr.new r x hx with ⟨y,hy,e,hh⟩ | ⟨hlt,_,_⟩
   ·left;rw [<- hb',<- e];refine holdsP_of hy fun hk => hn ?_;cases q with
    | none => obtain ⟨i,hi⟩ := hk; exact ⟨i,(hh i).1 hi⟩
    | some i => exact (hh i).1 hk
   ·exact .inr ⟨hlt,Fits.lt tr.fits hx⟩
 ·intro r hr i;by_cases e:i = j
  ·simp only [e,if_true]; exact hspec r hr
  ·simp only [e,if_false]; exact m.off r hr i
 ·intro i hi r;have:i ≠ j := fun e => by subst e; exact absurd hj (Nat.not_lt.2 hi)
  simp only [this,if_false]; exact m.out i hi r
 ·intro r hr;rw [tr.other r (Nat.lt_of_lt_of_le hr m.size) ?_]
  ·exact m.base r hr
  ·rintro ⟨o,ho⟩;exact absurd (m.low j r o ho) (Nat.not_le.2 hr)
 ·intro i r o hr;by_cases e:i = j
  ·simp only [e,if_true] at hr;rcases tr.new r _ hr with ⟨⟨b,y⟩,hy,e',_⟩ | ⟨hlt,_⟩
   ·simp only at e'; subst e'; exact m.low j r y hy
   ·exact Nat.le_trans m.size hlt
  ·simp only [e,if_false] at hr; exact m.low i r o hr
end
section
open Go Go.Conc
variable {sy:Sy} {t u:Trace} {n ng:Nat} {hold hold':Nat -> Key -> Option Bool} {gone gone':Nat -> Prop}
def Sy.open_ (sy:Sy) (r:Nat):Sy := ⟨fun r' => sy.sp r' \/ r' = r,fun g r' => sy.use g r' \/ (g = 0 /\ r' = r),sy.dp⟩
theorem TI.special (h:TI sy t n ng hold gone) {r:Nat} (hr:∀ q,hold 0 (r,q) = some true) (hh:∀ g k b,hold' g k = some b -> hold g k = some b /\ k.1 ≠ r):TI (sy.open_ r) t n ng hold' gone := by
 have hsp:¬ sy.sp r := (h.held 0 (r,none) true (hr none)).2;refine ⟨h.hears,h.who,?_,h.lt,?_,?_,fun g k hb => h.own g k (hh g k _ hb).1,fun g k b hb => h.shared g k b (hh g k _ hb).1,?_,?_,h.said,?_,h.handed,h.norel⟩
 ·rintro r' (h1 | rfl)
  ·exact h.spl r' h1
  ·exact (h.held 0 (r',none) true (hr none)).1
 ·intro g k b hb;obtain ⟨h1,h2⟩ := hh g k b hb;exact ⟨(h.held g k b h1).1,fun hs => hs.elim (h.held g k b h1).2 h2⟩
 ·intro g g' k hne hb;cases hx:hold' g' k with
  | none => rfl
  | some b => have := (hh g' k b hx).1; rw [h.excl g g' k hne (hh g k _ hb).1] at this; cases this
 ·intro i j k b b' hs;exact h.norace i j k b b' fun h' => hs (.inl h')
 ·rintro i j ⟨r',q⟩ b b' hs hij hi hj hw hp;by_cases h1:sy.sp r'
  ·exact h.spc i j (r',q) b b' h1 hij hi hj hw hp
  ·exact h.norace i j (r',q) b b' h1 hij hi hj hw
 ·rintro g r' (h1 | ⟨rfl,rfl⟩)
  ·exact ⟨.inl (h.acc g r' h1).1,(h.acc g r' h1).2⟩
  ·refine ⟨.inr rfl,?_⟩;rintro p ⟨r1,q⟩ b e ht _;cases e;exact h.own 0 _ (hr q) p b ht
structure SyncOp (sy:Sy) (g:Nat) (op:MemOp):Prop where
 who:op.g = g
 touch:∀ x,op.act.touch? = some x -> x.kind ≠ .plain /\ (x.kind = .said -> g = 0) /\ ∀ k,key? x.loc = some k -> sy.use g k.1
 norel:∀ a,op.act ≠ .mark (.release a)
def Sy.deafen (sy:Sy) (g d:Nat):Sy := ⟨sy.sp,sy.use,fun i => if i = g then d else sy.dp i⟩
theorem SyncOp.new {g:Nat} (hu:∀ op ∈ u,SyncOp sy g op) {p:Nat} {k:Key} {b:Bool} (ht:Touches (t ++ u) p k b) (hp:¬ p < t.size):(∃ op,(t ++ u)[p]? = some op /\ op.g = g) /\ sy.use g k.1 /\ ¬ Plain (t ++ u) p := by
 obtain ⟨op,x,h1,h2,h3,h4⟩ := ht;rcases getElem?_append_cases h1 with ⟨hp',_⟩ | ⟨_,hop⟩
 ·exact absurd hp' hp
 ·refine ⟨⟨op,h1,(hu op hop).who⟩,((hu op hop).touch x h2).2.2 k h3,?_⟩;rintro ⟨op',x',h1',h2',h3'⟩;rw [h1] at h1'; cases h1';rw [h2] at h2'; cases h2';exact ((hu op hop).touch x h2).1 h3'
theorem TI.sync (h:TI sy t n ng hold gone) {g:Nat} (hgn:g < ng) (hng:¬ gone g) (hu:∀ op ∈ u,SyncOp sy g op):TI (sy.deafen g (Deaf (t ++ u) g)) (t ++ u) n ng hold gone := by
 have old:∀ p k b,¬ sy.sp k.1 -> Touches (t ++ u) p k b -> Touches t p k b := by
  intro p k b hs ht;rcases Nat.lt_or_ge p t.size with hp | hp
  ·exact ht.old hp
  ·exact absurd (h.acc g k.1 (SyncOp.new hu ht (Nat.not_lt.2 hp)).2.1).1 hs
 refine ⟨?_,?_,h.spl,?_,h.held,h.excl,fun i k hb p b ht => (h.own i k hb p b (old p k b (h.held i k _ hb).2 ht)).append,fun i k b hb p ht => (h.shared i k b hb p (old p k true (h.held i k _ hb).2 ht)).append,?_,?_,?_,?_,?_,fun op hop a => (Array.mem_append.1 hop).elim (fun hop => h.norel op hop a) fun hop => (hu op hop).norel a⟩
 ·intro i hi;show _ = if i = g then _ else _
  by_cases e:i = g
  ·rw [if_pos e,e]
  ·rw [if_neg e,Deaf_other t (fun e' => e e'.symm) _ (fun op hop => (hu op hop).who)]; exact h.hears i hi
 ·intro op hop;rcases Array.mem_append.1 hop with hop | hop
  ·exact h.who op hop
  ·rw [(hu op hop).who]; exact hgn
 ·intro p k b ht;rcases Nat.lt_or_ge p t.size with hp | hp
  ·exact h.lt p k b (ht.old hp)
  ·exact h.spl _ (h.acc g k.1 (SyncOp.new hu ht (Nat.not_lt.2 hp)).2.1).1
 ·intro i j k b b' hs hij hi hj hw;exact (h.norace i j k b b' hs hij (old i k b hs hi) (old j k b' hs hj) hw).append
 ·intro i j k b b' hs hij hi hj hw hp;rcases Nat.lt_or_ge j t.size with hlt | hge
  ·have hi' := Nat.lt_trans hij hlt;exact (h.spc i j k b b' hs hij (hi.old hi') (hj.old hlt) hw (hp.imp (·.old hi') (·.old hlt))).append
  ·obtain ⟨⟨z,hz,hzg⟩,huse,hnp⟩ := SyncOp.new hu hj (Nat.not_lt.2 hge);rcases hp with hp | hp
   ·rcases Nat.lt_or_ge i t.size with hi' | hi'
    ·have hk := (h.acc g k.1 huse).2 i k b rfl (hi.old hi') (hp.old hi');rw [<- hzg] at hk;exact hk.new hz hge
    ·exact absurd hp (SyncOp.new hu hi (Nat.not_lt.2 hi')).2.2
   ·exact absurd hp hnp
 ·intro p op x hp hx hk;rcases getElem?_append_cases hp with ⟨_,hp'⟩ | ⟨_,hop⟩
  ·exact h.said p op x hp' hx hk
  ·rw [(hu op hop).who]; exact ((hu op hop).touch x hx).2.1 hk
 ·intro i r hr;obtain ⟨h1,h2⟩ := h.acc i r hr;refine ⟨h1,fun p k b hk ht hp => ?_⟩;rcases Nat.lt_or_ge p t.size with hlt | hge
  ·exact (h2 p k b hk (ht.old hlt) (hp.old hlt)).append
  ·exact absurd hp (SyncOp.new hu ht (Nat.not_lt.2 hge)).2.2
 ·intro i hi p op hp hop hc;rcases getElem?_append_cases hp with ⟨hpt,hp'⟩ | ⟨_,hm⟩
  ·exact (h.handed i hi p op hp' hop ((counts_old hpt).1 hc)).append
  ·rw [<- hop,(hu op hm).who] at hi; exact absurd hi hng
structure Done (t:Trace) (i:Nat) (a:Addr) (ks:Key -> Prop) (p:Nat):Prop where
 act:t.act? p = some (.mark (.releaseMerge a))
 g:t.g? p = some i
 heard:t.heard p
 keys:∀ k,ks k -> ∀ q b,Touches t q k b -> HB t q p
 mine:∀ q,t.g? q = some i -> t.counts q -> HB t q p
theorem act?_old' {t u:Trace} {p:Nat} {x:MemAct} (h:t.act? p = some x):p < t.size /\ (t ++ u).act? p = some x := by
 have hp := lt_of_act? h;exact ⟨hp,by simp only [Trace.act?,getElem?_append_old hp]; exact h⟩
theorem TI.join (h:TI sy t n ng hold gone) {a:Addr} {ks:Nat -> Key -> Prop} {D:Nat -> Prop} (hD:∀ i,D i -> i < ng /\ ∃ p,Done t i a (ks i) p) 
  (h0:¬ gone 0) (hd:Deaf t 0 = 0) (h0n:0 < ng) {op:MemOp} (hop:op.g = 0 /\ op.act = .mark (.acquire a))
  (hg:∀ g,gone g -> gone' g) (hg':∀ g,gone' g -> gone g \/ D g) (hold0:∀ g k b,hold' g k = some b -> hold g k = some b \/ (g = 0 /\ ∃ i,D i /\ ks i k /\ hold i k = some true))
  (hout:∀ i,D i -> ∀ k,ks i k -> ∀ g,g ≠ 0 -> hold' g k = none) :
  TI sy (t ++ #[op]) n ng hold' gone' := by
 have un:∀ o ∈ (#[op]:Trace),o.act.touch? = none := by
  intro o ho;simp only [List.mem_toArray,List.mem_cons,List.not_mem_nil,or_false] at ho;rw [ho,hop.2]; rfl
 have hz:(t ++ #[op])[t.size]? = some op := by simp
 have hno:∀ p,t.act? p ≠ some (.mark (.release a)) := by
  intro p hp;obtain ⟨z,h1,h2⟩ := Option.map_eq_some_iff.1 hp;exact h.norel z (mem_of_getElem? h1) a h2
 have hmark:∀ i,D i -> ∀ q p,Done t i a (ks i) p -> (q = p \/ HB t q p) -> Knows (t ++ #[op]) q 0 := by
  intro i hi q p d hq;have e:HB (t ++ #[op]) p t.size := by
   obtain ⟨hp,h1⟩ := act?_old' (u := #[op]) d.act;refine .single (.inr ⟨.marked (a := a) hp (.inr h1) (by simp [Trace.act?,hop.2]) ?_,(heard_old hp).2 d.heard,⟨0,by simp [Trace.g?,hop.1],by rw [deaf_old (Nat.le_refl _)]; exact hd⟩⟩);intro k _ hk2 hact;have:t.act? k = some (.mark (.release a)) := by
    simp only [Trace.act?,getElem?_append_old hk2] at hact ⊢; exact hact
   exact hno k this
  refine ⟨t.size,op,hz,hop.1,.inr ?_⟩;rcases hq with rfl | hq
  ·exact e
  ·exact .trans hq.append e
 refine ⟨?_,?_,h.spl,fun p k b ht => h.lt p k b (ht.untouched un),?_,?_,?_,?_,?_,?_,?_,?_,?_,fun o ho a' => (Array.mem_append.1 ho).elim (fun ho => h.norel o ho a') fun ho => by
  simp only [List.mem_toArray,List.mem_cons,List.not_mem_nil,or_false] at ho;rw [ho,hop.2]; exact nofun⟩
 ·intro g hgg;have e:Deaf (t ++ #[op]) g = Deaf t g := by rw [Deaf_push]; unfold deafStep; rw [hop.2]
  rw [e]; exact h.hears g fun e => hgg (hg g e)
 ·intro o ho;rcases Array.mem_append.1 ho with ho | ho
  ·exact h.who o ho
  ·simp only [List.mem_toArray,List.mem_cons,List.not_mem_nil,or_false] at ho;rw [ho,hop.1]; exact h0n
 ·intro g k b hb;rcases hold0 g k b hb with hb | ⟨_,i,_,_,hb⟩
  ·exact h.held g k b hb
  ·exact h.held i k true hb
 ·intro g g' k hne hb;cases hx:hold' g' k with
  | none => rfl
  | some b =>
   exfalso;rcases hold0 g k true hb with h1 | ⟨rfl,i,hi,hk,h1⟩
   ·rcases hold0 g' k b hx with h2 | ⟨rfl,i,hi,hk,h2⟩
    ·rw [h.excl g g' k hne h1] at h2; cases h2
    ·rw [hout i hi k hk g hne] at hb; cases hb
   ·rw [hout i hi k hk g' (Ne.symm hne)] at hx; cases hx
 ·intro g k hb p b ht;have ht' := ht.untouched un;rcases hold0 g k true hb with h1 | ⟨rfl,i,hi,hk,_⟩
  ·exact (h.own g k h1 p b ht').append
  ·obtain ⟨_,q,d⟩ := hD i hi;exact hmark i hi p q d (.inr (d.keys k hk p b ht'))
 ·intro g k b hb p ht;have ht' := ht.untouched un;rcases hold0 g k b hb with h1 | ⟨rfl,i,hi,hk,_⟩
  ·exact (h.shared g k b h1 p ht').append
  ·obtain ⟨_,q,d⟩ := hD i hi;exact hmark i hi p q d (.inr (d.keys k hk p true ht'))
 ·intro i j k b b' hs hij hi hj hw;exact (h.norace i j k b b' hs hij (hi.untouched un) (hj.untouched un) hw).append
 ·intro i j k b b' hs hij hi hj hw hpl;have hi' := hi.untouched un;have hj' := hj.untouched un;exact (h.spc i j k b b' hs hij hi' hj' hw (hpl.imp (·.old hi'.lt) (·.old hj'.lt))).append
 ·intro p o x hp hx hk;rcases getElem?_append_cases hp with ⟨_,hp'⟩ | ⟨_,ho⟩
  ·exact h.said p o x hp' hx hk
  ·rw [un o ho] at hx; cases hx
 ·intro g r hr;obtain ⟨h1,h2⟩ := h.acc g r hr;refine ⟨h1,fun p k b hk ht hp => ?_⟩;have ht' := ht.untouched un;exact (h2 p k b hk ht' (hp.old ht'.lt)).append
 ·intro g hgg p o hp ho hc;obtain ⟨hlt,hc'⟩ := counts_untouched un hc;rw [getElem?_append_old hlt] at hp;rcases hg' g hgg with h1 | h1
  ·exact (h.handed g h1 p o hp ho hc').append
  ·obtain ⟨_,q,d⟩ := hD g h1;exact hmark g h1 p q d (.inr (d.mine p (by simp [Trace.g?,hp,ho]) hc'))
end
section
open Go Go.Conc
variable {sy:Sy} {n0:Nat} {w0:World} {C:Nat} {cs:Nat -> Cells} {ng:Nat} {gone:Nat -> Prop} {w:World} {t:Trace}
theorem MemW.sync (m:MemW sy n0 w0 C cs ng gone w t) {g:Nat} (hgn:g < ng) (hng:¬ gone g) {u:Trace} (hu:∀ op ∈ u,SyncOp sy g op) {Wg:Nat} (hWg:sy.sp Wg) (hn0:n0 <= Wg) {w':World}
  (hs:w'.heap.size = w.heap.size) (hw:∀ r,r ≠ Wg -> w'.heap[r]? = w.heap[r]?) (ho:w'.os = w.os) (ht:w'.tape = w.tape) (hp:w'.output = w.output) :
  MemW (sy.deafen g (Deaf (t ++ u) g)) n0 w0 C cs ng gone w' (t ++ u) := by
 refine ⟨?_,m.part,m.whole,by rw [hs]; exact m.ti.sync hgn hng hu,m.off,by rw [hs]; exact m.cl,m.out,m.pos,?_,m.low,by rw [hs]; exact m.size,ho.trans m.os,ht.trans m.tape,hp.trans m.output⟩
 ·intro j r b o hr;have:r ≠ Wg := by rintro rfl; rw [m.off r hWg j] at hr; cases hr
  rw [hw r this]; exact m.fits j r b o hr
 ·intro r hr;have:r ≠ Wg := fun e => by subst e; exact absurd hr (Nat.not_lt.2 hn0)
  rw [hw r this]; exact m.base r hr
def partedW (c0:Cells) (C Wg:Nat) (c:Array Value) (e:TypeId):Cells := fun r => if r = C then some (true,.pending c e) else if r = Wg then none else c0 r
theorem Mem.toW {chans:List Nat} (m:Mem sy n0 w0 chans cs ng gone w t) (hch:chans = []) {Wg:Nat} (hCW:C ≠ Wg) {c:Array Value} {e:TypeId} {o:Obj} (hC:cs 0 C = some (true,.cells c e (0,0))) (hc:∀ (i:Nat) (v:Value),c[i]? = some v -> notHole v = true) (hW:cs 0 Wg = some (true,o)) :
  MemW (sy.open_ Wg) n0 w0 C (fun i => if i = 0 then partedW (cs 0) C Wg c e else cs i) ng gone w t := by
 subst hch;have hCo:∀ j,j ≠ 0 -> cs j C = none := fun j hj => m.apart (Ne.symm hj) hC;have hWo:∀ j,j ≠ 0 -> cs j Wg = none := fun j hj => m.apart (Ne.symm hj) hW;have hold:∀ g (k:Key) b,holdsP (fun i => if i = 0 then partedW (cs 0) C Wg c e else cs i) g k = some b -> holdsC [] cs g k = some b /\ k.1 ≠ Wg := by
  rintro g ⟨r,q⟩ b hb;obtain ⟨x,hx,_,hb'⟩ := holdsP_inv hb;by_cases e0:g = 0
  ·subst e0;simp only [if_true,partedW] at hx;split at hx
   ·rename_i er;cases hx;subst er;refine ⟨?_,hCW⟩;rw [holdsC_of m.free hC]; exact congrArg some hb'
   ·split at hx
    ·cases hx
    ·rename_i h1 h2;refine ⟨?_,h2⟩;rw [holdsC_of m.free hx,hb']
  ·simp only [e0,if_false] at hx;refine ⟨by rw [holdsC_of m.free hx,hb'],fun er => ?_⟩;simp only at er; subst er;rw [hWo g e0] at hx; cases hx
 refine ⟨?_,?_,?_,m.ti.special (r := Wg) (fun q => holdsC_of m.free hW) hold,?_,Fits.lt (m.fits 0) hC,?_,m.pos,m.base,?_,m.size,m.os,m.tape,m.output⟩
 ·intro j;by_cases e0:j = 0
  ·simp only [e0,if_true];intro r b o' hr;unfold partedW at hr;split at hr
   ·rename_i er; subst er; cases hr;obtain ⟨o1,h1,h2⟩ := m.fits 0 r _ _ hC;cases h2;exact ⟨_,h1,c,rfl,rfl,fun i v hv _ => hv⟩
   ·split at hr
    ·cases hr
    ·exact m.fits 0 r b o' hr
  ·simp only [e0,if_false]; exact m.fits j
 ·intro j b o' hr;by_cases e0:j = 0
  ·simp only [e0,if_true,partedW] at hr;cases hr; exact ⟨rfl,c,e,rfl⟩
  ·simp only [e0,if_false] at hr; rw [hCo j e0] at hr; cases hr
 ·intro j r b o' hrC hr;by_cases e0:j = 0
  ·simp only [e0,if_true,partedW,if_neg hrC] at hr;split at hr
   ·cases hr
   ·exact m.whole 0 r b o' hr
  ·simp only [e0,if_false] at hr; exact m.whole j r b o' hr
 ·rintro r (hr | rfl) j
  ·have hn:∀ j,cs j r = none := by
    intro j;cases hx:cs j r with
    | none => rfl
    | some x => exact absurd hr (m.ti.held j (r,none) _ (holdsC_of m.free hx)).2
   by_cases e0:j = 0
   ·simp only [e0,if_true,partedW];have:r ≠ C := by rintro rfl; rw [hn 0] at hC; cases hC
    rw [if_neg this]; split
    ·rfl
    ·exact hn 0
   ·simp only [e0,if_false]; exact hn j
  ·by_cases e0:j = 0
   ·simp only [e0,if_true,partedW,if_neg (Ne.symm hCW)]
   ·simp only [e0,if_false]; exact hWo j e0
 ·intro j hj r;have e0:j ≠ 0 := fun e => by subst e; exact absurd m.pos (Nat.not_lt.2 hj)
  simp only [e0,if_false]; exact m.out j hj r
 ·intro j r o' hr;by_cases e0:j = 0
  ·simp only [e0,if_true,partedW] at hr;split at hr
   ·rename_i er; subst er; exact m.low 0 (r,none) (holdsC_of m.free hC)
   ·split at hr
    ·cases hr
    ·exact m.low 0 (r,none) (holdsC_of m.free hr)
  ·simp only [e0,if_false] at hr; exact m.low j (r,none) (holdsC_of m.free hr)
theorem MemW.toMem (m:MemW sy n0 w0 C cs ng gone w t) (hd:∀ g,sy.dp g = 0) {c:Array Value} {e:TypeId} (hC:cs 0 C = some (true,.pending c e)) (hc:∀ (i:Nat) (v:Value),c[i]? = some v -> notHole v = true) (hCo:∀ j,j ≠ 0 -> cs j C = none) (hCl:n0 <= C)
  (hown:∀ q p b,Touches t p (C,q) b -> Knows t p 0) :
  Mem sy n0 w0 [] (fun i => if i = 0 then (cs 0).upd C (true,.cells c e (0,0)) else cs i) ng gone w t := by
 have hsp:¬ sy.sp C := fun h => by rw [m.off C h 0] at hC; cases hC
 have hfit:w.heap[C]? = some (.cells c e (0,0)) := by
  obtain ⟨o1,h1,c',rfl,hsz,hcc⟩ := m.fits 0 C _ _ hC;rw [h1];congr 2;refine Array.ext hsz fun i h2 h3 => ?_;have h4:c[i]? = some c[i] := Array.getElem?_eq_getElem h3;have := hcc i _ h4 (hc i _ h4);rw [Array.getElem?_eq_getElem h2] at this; exact Option.some.inj this
 have hold:∀ g (k:Key) b,holdsC [] (fun i => if i = 0 then (cs 0).upd C (true,.cells c e (0,0)) else cs i) g k = some b -> (k.1 ≠ C /\ holdsP cs g k = some b) \/ (k.1 = C /\ g = 0 /\ b = true) := by
  rintro g ⟨r,q⟩ b hb;unfold holdsC at hb;simp only [List.not_mem_nil,and_false,if_false] at hb;by_cases e0:g = 0
  ·subst e0;simp only [if_true] at hb;by_cases er:r = C
   ·subst er; rw [Cells.upd_self] at hb; exact .inr ⟨rfl,rfl,(Option.some.inj hb).symm⟩
   ·rw [Cells.upd_ne _ _ er] at hb;obtain ⟨x,hx,hb'⟩ := Option.map_eq_some_iff.1 hb;exact .inl ⟨er,by rw [holdsP_of hx (not_holeK (m.whole 0 r x.1 x.2 er hx) q),hb']⟩
  ·simp only [e0,if_false] at hb;obtain ⟨x,hx,hb'⟩ := Option.map_eq_some_iff.1 hb;have er:r ≠ C := by rintro rfl; rw [hCo g e0] at hx; cases hx
   exact .inl ⟨er,by rw [holdsP_of hx (not_holeK (m.whole g r x.1 x.2 er hx) q),hb']⟩
 refine ⟨?_,?_,hd,?_,(fun _ hc => nomatch hc),(fun _ hc => nomatch hc),?_,m.pos,m.base,?_,m.size,m.os,m.tape,m.output⟩
 ·intro j;by_cases e0:j = 0
  ·simp only [e0,if_true];intro r b o hr;by_cases er:r = C
   ·subst er; rw [Cells.upd_self] at hr; cases hr; exact ⟨_,hfit,rfl⟩
   ·rw [Cells.upd_ne _ _ er] at hr; exact m.fits 0 r b o hr
  ·simp only [e0,if_false]; exact m.fits j
 ·intro j r b o hr;by_cases e0:j = 0
  ·simp only [e0,if_true] at hr;by_cases er:r = C
   ·subst er; rw [Cells.upd_self] at hr; cases hr; exact fun _ => id
   ·rw [Cells.upd_ne _ _ er] at hr; exact m.whole 0 r b o er hr
  ·simp only [e0,if_false] at hr;have er:r ≠ C := by rintro rfl; rw [hCo j e0] at hr; cases hr
   exact m.whole j r b o er hr
 ·have h := m.ti;refine ⟨h.hears,h.who,h.spl,h.lt,?_,?_,?_,?_,h.norace,h.spc,h.said,h.acc,h.handed,h.norel⟩
  ·intro g k b hb;rcases hold g k b hb with ⟨_,h1⟩ | ⟨e1,_,_⟩
   ·exact h.held g k b h1
   ·rw [e1]; exact ⟨m.cl,hsp⟩
  ·intro g g' k hne hb;cases hx:holdsC [] (fun i => if i = 0 then (cs 0).upd C (true,.cells c e (0,0)) else cs i) g' k with
   | none => rfl
   | some b =>
    exfalso;rcases hold g k true hb with ⟨e1,h1⟩ | ⟨e1,rfl,_⟩
    ·rcases hold g' k b hx with ⟨_,h2⟩ | ⟨e2,_,_⟩
     ·rw [h.excl g g' k hne h1] at h2; cases h2
     ·exact e1 e2
    ·rcases hold g' k b hx with ⟨e2,_⟩ | ⟨_,rfl,_⟩
     ·exact e2 e1
     ·exact hne rfl
  ·rintro g ⟨r,q⟩ hb p b ht;rcases hold g (r,q) true hb with ⟨_,h1⟩ | ⟨e1,rfl,_⟩
   ·exact h.own g (r,q) h1 p b ht
   ·simp only at e1; subst e1; exact hown q p b ht
  ·rintro g ⟨r,q⟩ b hb p ht;rcases hold g (r,q) b hb with ⟨_,h1⟩ | ⟨e1,rfl,_⟩
   ·exact h.shared g (r,q) b h1 p ht
   ·simp only at e1; subst e1; exact hown q p true ht
 ·intro j hj r;have e0:j ≠ 0 := fun e => by subst e; exact absurd m.pos (Nat.not_lt.2 hj)
  simp only [e0,if_false]; exact m.out j hj r
 ·rintro j ⟨r,q⟩ hb;rcases hold j (r,q) true hb with ⟨_,h1⟩ | ⟨e1,_,_⟩
  ·obtain ⟨x,hx,_,hb'⟩ := holdsP_inv h1;exact m.low j r x.2 (by simp only at hx; rw [hx,<- hb'])
  ·simp only at e1; subst e1; exact hCl
end
section
open Go Go.Conc
variable {sy:Sy} {n0:Nat} {w0:World} {C:Nat} {cs:Nat -> Cells} {ng:Nat} {gone:Nat -> Prop} {w:World} {t:Trace}
def Sy.grant (sy:Sy) (g r:Nat):Sy := ⟨sy.sp,fun g' r' => sy.use g' r' \/ (g' = g /\ r' = r),sy.dp⟩
theorem TI.grant {n:Nat} {hold:Nat -> Key -> Option Bool} (h:TI sy t n ng hold gone) {g r:Nat} (hr:sy.sp r) (hk:∀ p k b,k.1 = r -> Touches t p k b -> Plain t p -> Knows t p g):TI (sy.grant g r) t n ng hold gone := by
 refine ⟨h.hears,h.who,h.spl,h.lt,h.held,h.excl,h.own,h.shared,h.norace,h.spc,h.said,?_,h.handed,h.norel⟩;rintro g' r' (h1 | ⟨rfl,rfl⟩)
 ·exact h.acc g' r' h1
 ·exact ⟨hr,hk⟩
theorem not_hole_val {c:Array Value} {e:TypeId} {i:Nat} (h:¬ isHole (.pending c e) i):∃ v,c[i]? = some v /\ notHole v = true := by
 apply Classical.byContradiction;intro hn;refine h fun v hv => ?_;cases hh:notHole v with
 | false => rfl
 | true => exact absurd ⟨v,hv,hh⟩ hn
theorem val_not_hole {c:Array Value} {e:TypeId} {i:Nat} {v:Value} (hv:c[i]? = some v) (hn:notHole v = true):¬ isHole (.pending c e) i := by
 intro h; have := h v hv; rw [hn] at this; cases this
theorem MemW.spawn (m:MemW sy n0 w0 C cs ng gone w t) (F:Nat -> Bool) {hc c0:Cells} (hhc:∀ r x,r ≠ C -> hc r = some x -> x.1 = false /\ freezeC F (cs 0) r = some x) (h0:∀ r,r ≠ C -> c0 r = freezeC F (cs 0) r)
  {c cc c1:Array Value} {e:TypeId} (hC:cs 0 C = some (true,.pending c e)) (hcC:hc C = some (true,.pending cc e)) (h0C:c0 C = some (true,.pending c1 e)) (s1:cc.size = c.size) (s2:c1.size = c.size)
  (k1:∀ (i:Nat) (v:Value),cc[i]? = some v -> notHole v = true -> c[i]? = some v /\ isHole (.pending c1 e) i) (k2:∀ (i:Nat) (v:Value),c1[i]? = some v -> notHole v = true -> c[i]? = some v)
  {x y:MemOp} (hx:x.g = 0 /\ x.act = .go ng) (hy:y.g = ng /\ y.act = .start) {gone':Nat -> Prop} (hg:∀ i,gone' i -> gone i) (hg':∀ i,gone i -> gone' i) (g0:¬ gone 0) (gn:¬ gone ng) (d0:sy.dp 0 = 0) (dn:sy.dp ng = 0) {Wg:Nat} (hu:sy.use 0 Wg) :
  MemW (sy.grant ng Wg) n0 w0 C (fun i => if i = ng then hc else if i = 0 then c0 else cs i) (ng + 1) gone' w (t ++ #[x,y]) := by
 have hp:ng ≠ 0 := Nat.ne_of_gt m.pos;have fz:∀ r z,freezeC F (cs 0) r = some z -> ∃ b,cs 0 r = some (b,z.2) /\ (z.1 = true -> b = true) := by
  intro r z hz;unfold freezeC at hz;split at hz
  ·rename_i b o he; cases hz; exact ⟨b,he,fun hb => by simp only [Bool.and_eq_true] at hb; exact hb.1⟩
  ·cases hz
 -- what is held
 have hold0:∀ (k:Key) b,holdsP (fun i => if i = ng then hc else if i = 0 then c0 else cs i) 0 k = some b -> ∃ b',holdsP cs 0 k = some b' /\ (b = true -> b' = true) := by
  rintro ⟨r,q⟩ b hb;obtain ⟨z,hz,hn,hb'⟩ := holdsP_inv hb;simp only [show ¬ (0 = ng) from fun e => hp e.symm,if_false,if_true] at hz hn;by_cases er:r = C
  ·subst er;rw [h0C] at hz; cases hz;cases q with
   | none => exact absurd ⟨_,hole_end c1 e⟩ hn
   | some i =>
    obtain ⟨v,hv,hvn⟩ := not_hole_val (e := e) hn;exact ⟨true,holdsP_of (q := some i) hC (val_not_hole (e := e) (k2 i v hv hvn) hvn),fun _ => rfl⟩
  ·rw [h0 r er] at hz;obtain ⟨b1,h1,h2⟩ := fz r z hz;exact ⟨b1,holdsP_of h1 (not_holeK (m.whole 0 r _ _ er h1) q),fun hbt => h2 (hb'.trans hbt)⟩
 have holdN:∀ (k:Key) b,holdsP (fun i => if i = ng then hc else if i = 0 then c0 else cs i) ng k = some b ->
   (b = false /\ (∃ b',holdsP cs 0 k = some b') /\ holdsP (fun i => if i = ng then hc else if i = 0 then c0 else cs i) 0 k ≠ some true) \/ (b = true /\ holdsP cs 0 k = some true /\ holdsP (fun i => if i = ng then hc else if i = 0 then c0 else cs i) 0 k = none) := by
  rintro ⟨r,q⟩ b hb;obtain ⟨z,hz,hn,hb'⟩ := holdsP_inv hb;simp only [if_true] at hz hn;by_cases er:r = C
  ·subst er;rw [hcC] at hz; cases hz;cases q with
   | none => exact absurd ⟨_,hole_end cc e⟩ hn
   | some i =>
    obtain ⟨v,hv,hvn⟩ := not_hole_val (e := e) hn;obtain ⟨h1,h2⟩ := k1 i v hv hvn;refine .inr ⟨hb'.symm,holdsP_of (q := some i) hC (val_not_hole (e := e) h1 hvn),?_⟩;cases hx0:holdsP (fun i => if i = ng then hc else if i = 0 then c0 else cs i) 0 (r,some i) with
    | none => rfl
    | some b1 =>
     obtain ⟨z1,hz1,hn1,_⟩ := holdsP_inv hx0;simp only [show ¬ (0 = ng) from fun e => hp e.symm,if_false,if_true] at hz1;rw [h0C] at hz1; cases hz1;exact absurd h2 hn1
  ·obtain ⟨h1,h2⟩ := hhc r z er hz;obtain ⟨b1,h3,_⟩ := fz r z h2;refine .inl ⟨hb'.symm.trans h1,⟨b1,holdsP_of h3 (not_holeK (m.whole 0 r _ _ er h3) q)⟩,fun h4 => ?_⟩;obtain ⟨z1,hz1,_,hb1⟩ := holdsP_inv h4;simp only [show ¬ (0 = ng) from fun e => hp e.symm,if_false,if_true] at hz1;rw [h0 r er,h2] at hz1; cases hz1;rw [h1] at hb1; cases hb1
 have holdE:∀ i,i ≠ ng -> i ≠ 0 -> holdsP (fun i => if i = ng then hc else if i = 0 then c0 else cs i) i = holdsP cs i := by
  intro i h1 h2;funext k;simp only [holdsP,h1,h2,if_false]
 have hold:∀ i,i ≠ ng -> ∀ (k:Key) b,holdsP (fun i => if i = ng then hc else if i = 0 then c0 else cs i) i k = some b -> ∃ b',holdsP cs i k = some b' /\ (b = true -> b' = true) := by
  intro i hi k b hb;by_cases e0:i = 0
  ·subst e0; exact hold0 k b hb
  ·rw [holdE i hi e0] at hb; exact ⟨b,hb,id⟩
 have kn:∀ p,Knows t p 0 -> Knows (t ++ #[x,y]) p ng := by
  intro p h;have := Knows.spawn (x := x) (y := y) (by rw [hx.1]; exact h) (by rw [hx.2,hy.1]) hy.2 (by rw [hx.1,m.ti.hears 0 g0,d0]) (by rw [hy.1,m.ti.hears ng gn,dn]);rw [hy.1] at this; exact this
 have un:∀ op ∈ (#[x,y]:Trace),op.act.touch? = none /\ (∀ mk,op.act ≠ .mark mk) /\ op.g < ng + 1 := by
  intro op hop;simp only [List.mem_toArray,List.mem_cons,List.not_mem_nil,or_false] at hop;rcases hop with rfl | rfl
  ·rw [hx.2]; exact ⟨rfl,nofun,by rw [hx.1]; exact Nat.succ_pos _⟩
  ·rw [hy.2]; exact ⟨rfl,nofun,by rw [hy.1]; exact Nat.lt_succ_self _⟩
 obtain ⟨hsp,hacc⟩ := m.ti.acc 0 Wg hu;refine ⟨?_,?_,?_,?_,?_,m.cl,?_,Nat.succ_pos _,m.base,?_,m.size,m.os,m.tape,m.output⟩
 ·intro i r b o hr;by_cases e1:i = ng
  ·simp only [e1,if_true] at hr;by_cases er:r = C
   ·subst er;rw [hcC] at hr; cases hr;obtain ⟨o1,h1,c',rfl,h2,h3⟩ := m.fits 0 r _ _ hC;exact ⟨_,h1,c',rfl,h2.trans s1.symm,fun i v hv hn => h3 i v (k1 i v hv hn).1 hn⟩
   ·obtain ⟨b1,h3,_⟩ := fz r _ (hhc r _ er hr).2;exact m.fits 0 r _ _ h3
  ·simp only [e1,if_false] at hr;by_cases e0:i = 0
   ·simp only [e0,if_true] at hr;by_cases er:r = C
    ·subst er;rw [h0C] at hr; cases hr;obtain ⟨o1,h1,c',rfl,h2,h3⟩ := m.fits 0 r _ _ hC;exact ⟨_,h1,c',rfl,h2.trans s2.symm,fun i v hv hn => h3 i v (k2 i v hv hn) hn⟩
    ·rw [h0 r er] at hr;obtain ⟨b1,h3,_⟩ := fz r _ hr;exact m.fits 0 r _ _ h3
   ·simp only [e0,if_false] at hr; exact m.fits i r b o hr
 ·intro i b o hr;by_cases e1:i = ng
  ·simp only [e1,if_true] at hr; rw [hcC] at hr; cases hr; exact ⟨rfl,_,_,rfl⟩
  ·simp only [e1,if_false] at hr;by_cases e0:i = 0
   ·simp only [e0,if_true] at hr; rw [h0C] at hr; cases hr; exact ⟨rfl,_,_,rfl⟩
   ·simp only [e0,if_false] at hr; exact m.part i b o hr
 ·intro i r b o er hr;by_cases e1:i = ng
  ·simp only [e1,if_true] at hr;obtain ⟨b1,h3,_⟩ := fz r _ (hhc r _ er hr).2;exact m.whole 0 r _ _ er h3
  ·simp only [e1,if_false] at hr;by_cases e0:i = 0
   ·simp only [e0,if_true] at hr;rw [h0 r er] at hr;obtain ⟨b1,h3,_⟩ := fz r _ hr;exact m.whole 0 r _ _ er h3
   ·simp only [e0,if_false] at hr; exact m.whole i r b o er hr
 ·refine TI.grant (m.ti.deal un (Nat.le_succ _) hg' ?_ ?_ ?_ ?_ ?_) hsp ?_
  ·intro i k b hb;by_cases e1:i = ng
   ·subst e1;rcases holdN k b hb with ⟨_,⟨b',h1⟩,_⟩ | ⟨_,h1,_⟩
    ·exact m.ti.held 0 k b' h1
    ·exact m.ti.held 0 k _ h1
   ·obtain ⟨b',h1,_⟩ := hold i e1 k b hb;exact m.ti.held i k b' h1
  ·intro i j k hij hb;cases hj:holdsP (fun i => if i = ng then hc else if i = 0 then c0 else cs i) j k with
   | none => rfl
   | some b =>
    exfalso;by_cases e1:i = ng
    ·subst e1;rcases holdN k true hb with ⟨h,_⟩ | ⟨_,h1,h2⟩
     ·cases h
     ·by_cases e0:j = 0
      ·subst e0; rw [h2] at hj; cases hj
      ·rw [holdE j (Ne.symm hij) e0] at hj;rw [m.ti.excl 0 j k (Ne.symm e0) h1] at hj; cases hj
    ·obtain ⟨b',h1,h2⟩ := hold i e1 k true hb;cases h2 rfl;by_cases e2:j = ng
     ·subst e2;rcases holdN k b hj with ⟨_,⟨b2,h3⟩,h4⟩ | ⟨_,h3,h4⟩
      ·by_cases e0:i = 0
       ·subst e0; exact h4 hb
       ·rw [m.ti.excl i 0 k e0 h1] at h3; cases h3
      ·by_cases e0:i = 0
       ·subst e0; rw [hb] at h4; cases h4
       ·rw [m.ti.excl i 0 k e0 h1] at h3; cases h3
     ·obtain ⟨b2,h3,_⟩ := hold j e2 k b hj;rw [m.ti.excl i j k hij h1] at h3; cases h3
  ·intro i k hb p b ht;by_cases e1:i = ng
   ·subst e1;rcases holdN k true hb with ⟨h,_⟩ | ⟨_,h1,_⟩
    ·cases h
    ·exact kn p (m.ti.own 0 k h1 p b ht)
   ·obtain ⟨b',h1,h2⟩ := hold i e1 k true hb;cases h2 rfl;exact (m.ti.own i k h1 p b ht).append
  ·intro i k b hb p ht;by_cases e1:i = ng
   ·subst e1;rcases holdN k b hb with ⟨_,⟨b',h1⟩,_⟩ | ⟨_,h1,_⟩
    ·exact kn p (m.ti.shared 0 k b' h1 p ht)
    ·exact kn p (m.ti.shared 0 k _ h1 p ht)
   ·obtain ⟨b',h1,_⟩ := hold i e1 k b hb;exact (m.ti.shared i k b' h1 p ht).append
  ·intro i hi p op h1 h2 h3;exact (m.ti.handed i (hg i hi) p op h1 h2 h3).append
  ·intro p k b hk ht hpl;have ht' := ht.untouched fun op hop => (un op hop).1;exact kn p (hacc p k b hk ht' (hpl.old ht'.lt))
 ·intro r hr i;have hn:∀ j,cs j r = none := m.off r hr;have er:r ≠ C := by rintro rfl; rw [hn 0] at hC; cases hC
  have hf:freezeC F (cs 0) r = none := by unfold freezeC; rw [hn 0]
  by_cases e1:i = ng
  ·simp only [e1,if_true];cases hz:hc r with
   | none => rfl
   | some z => have := (hhc r z er hz).2; rw [hf] at this; cases this
  ·simp only [e1,if_false];by_cases e0:i = 0
   ·simp only [e0,if_true]; rw [h0 r er]; exact hf
   ·simp only [e0,if_false]; exact hn i
 ·intro i hi r;have e1:i ≠ ng := fun e => by subst e; exact absurd hi (Nat.not_le.2 (Nat.lt_succ_self _))
  have e0:i ≠ 0 := fun e => by subst e; exact absurd hi (Nat.not_le.2 (Nat.succ_pos _))
  simp only [e1,e0,if_false]; exact m.out i (Nat.le_of_succ_le hi) r
 ·intro i r o hr;by_cases e1:i = ng
  ·simp only [e1,if_true] at hr;by_cases er:r = C
   ·subst er; exact m.low 0 r _ hC
   ·have := (hhc r _ er hr).1; cases this
  ·simp only [e1,if_false] at hr;by_cases e0:i = 0
   ·simp only [e0,if_true] at hr;by_cases er:r = C
    ·subst er; exact m.low 0 r _ hC
    ·rw [h0 r er] at hr;obtain ⟨b1,h3,h4⟩ := fz r _ hr;cases h4 rfl;exact m.low 0 r _ h3
   ·simp only [e0,if_false] at hr; exact m.low i r o hr
end
end Go.TM

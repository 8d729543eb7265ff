/- Contracts and laws for the proof, joined by a program. No condition. -/
import Derived.Test.YtfkfohpnpljihaaGreatDoorM4
set_option linter.all false
open Go.IntKind (wrap)
section
namespace Go.Proofs.YtfkfohpnpljihaaGreatDoor
open Go Go.TM Go.Proofs
attribute [local irreducible] T.wp CV FWK
theorem against_sub {u:UseFile} {land item day:Int}:∀ r ∈ against u land item day,r ∈ u.requests := fun r hr => (List.mem_filter.1 hr).1
theorem against_len {u:UseFile} (hck:checkF u = 0) (land item day:Int):(against u land item day).length <= 4 := Nat.le_trans (List.length_filter_le _ _) (check_requests hck).1
theorem c91 {h:LH} {d m:Nat} {f:FileC} {u:UseFile} (k:Desk h.get d m f u) (hck:checkF u = 0) (land item day:Int) :
  De 107 #[.pointer (some ⟨d,0,none⟩),.int .i64 land,.int .i64 item,.int .i64 day] h d m f u fun r _ => r = .int .i64 (left u land item day) := by
 refine w91 _ _ _ _ X0_ok ?_
 unfold n91
 refine t_gr (c101 k hck land item day) ?_
 rintro _ h₁ le1 ⟨p,n,c,rfl,hl⟩
 have k1 := k.le le1.1
 have hm1 := k1.isMap
 have hdays:∀ r ∈ against u land item day,0 <= r.day /\ r.day <= 2000 := fun r hr => (check_requests hck).2 r (against_sub r hr)
 have hl4 := against_len hck land item day
 refine gZ ?_
 have hn := hl.1
 refine t_loop (fun mm vs h' => Mv m h₁ h' /\ Desk h'.get d m f u /\ ∃ i:Nat,vs = [.bool true,.int .i64 i] /\ i <= n /\ mm = n - i /\ ∀ j r,j < i -> (against u land item day)[j]? = some r -> safe u land item r.day = 1)
  ⟨Mv.refl,k1,0,rfl,Nat.zero_le _,rfl,fun j r hj => by omega⟩ ?_
 rintro Y mm vs h₂ hY ⟨mv,k2,i,rfl,hi,rfl,hall⟩
 refine gZ ?_
 refine t_if (fun e1 => ?_) (fun e1 => ?_)
 ·obtain ⟨x,a,hx,ha,e2,e3,q,mq,cq,e4,e5⟩ := (hl.rd RequestE.grow (mv.rd hm1)).at (i := i) (by omega)
  refine gZ ?_
  have hxd := hdays x (List.mem_of_getElem? hx)
  refine t_de (c60 k2 (check_num hck) land item x.day hxd) ?_
  rintro _ h₃ mv3 k3 rfl
  refine gZ ?_
  refine t_cond (fun b => ?_) (fun b => ?_)
  ·refine gZ ?_
   refine t_cond (fun e => by cases e) (fun _ => ?_)
   have mv13 := mv.trans mv3
   refine t_de (c102 k3 hck (hl.rd RequestE.grow (mv13.rd hm1)) hl4 hdays land item) ?_
   rintro _ h₄ mv4 k4 rfl
   refine gZ ?_
   have hne:safe u land item x.day ≠ 1 := by simpa using b
   have hnot:¬ ((against u land item day).all fun r => decide (safe u land item r.day = 1)) = true := by
    intro hh
    have := List.all_eq_true.1 hh x (List.mem_of_getElem? hx)
    exact hne (by simpa using this)
   refine t_cond (fun e => ?_) (fun e => ?_)
   ·refine t_ret ⟨(Mv.of_le le1).trans (mv13.trans mv4),k4,?_⟩
    have:can u land item (against u land item day) = false := by simpa using e
    rw [left,if_neg hnot,this]; rfl
   ·refine t_ret ⟨(Mv.of_le le1).trans (mv13.trans mv4),k4,?_⟩
    have:can u land item (against u land item day) = true := by simpa using e
    rw [left,if_neg hnot,this]; rfl
  ·refine t_again (hY (n - (i + 1)) _ _ (by omega) ⟨mv.trans mv3,k3,i + 1,?_,by omega,rfl,fun j r hj hr => ?_⟩)
   ·rw [wrap_id (by omega) (by omega)]; rfl
   ·by_cases e:j = i
    ·subst e; rw [hx] at hr; cases hr; simpa using b
    ·exact hall j r (by omega) hr
 ·refine gZ ?_
  refine t_cond (fun _ => ?_) (fun e => by cases e)
  refine t_ret ⟨(Mv.of_le le1).trans mv,k2,?_⟩
  have:((against u land item day).all fun r => decide (safe u land item r.day = 1)) = true := by
   rw [List.all_eq_true]
   intro r hr
   obtain ⟨j,hj⟩ := List.mem_iff_getElem?.1 hr
   have := hall j r (by have := (List.getElem?_eq_some_iff.1 hj).1; omega) hj
   simpa using this
  rw [left,if_pos this]
def dropM (m:Nat) (h:LH):LH := { h with get := fun b => if b = m then none else h.get b }
theorem dropM_le {m:Nat} {h h':LH} (mv:Mv m h h'):(dropM m h).le h' := by
 refine ⟨fun r x hr => ?_,mv.same⟩
 have hr':(if r = m then none else h.get r) = some x := hr
 split at hr'
 ·cases hr'
 ·exact mv.keep r x (by assumption) hr'
theorem dropM_rd {m:Nat} {h:LH} (hm:∃ es c,h.get m = some (true,.map es c)):Rd h.get (dropM m h).get := by
 intro x v hc
 have hne:x.block ≠ m := by
  intro e
  obtain ⟨es,c,hm⟩ := hm
  unfold Cells.cell? at hc
  rw [e,hm] at hc; cases hc
 unfold Cells.cell? at hc ⊢
 show (match (if x.block = m then none else h.get x.block) with | some (_,.cells c _ _) => if x.spot.isSome then none else c[x.off]? | _ => none) = _
 rw [if_neg hne]; exact hc
theorem mv_of_drop {m:Nat} {h h':LH} (hl:(dropM m h).le h') (hm:∃ es c,h'.get m = some (true,.map es c)):Mv m h h' :=
 ⟨fun r x hr hx => hl.1 r x (by show (if r = m then none else h.get r) = _; rw [if_neg hr]; exact hx),fun _ _ _ => hm,hl.2⟩
theorem desk_of_drop {h h':LH} {d m:Nat} {f:FileC} {u:UseFile} (k:Desk h.get d m f u) (hl:(dropM m h).le h') (hm:∃ es c,h'.get m = some (true,.map es c) /\ ∀ e ∈ es.toList,∃ day:Int,e.key = .agg #[.int .i64 day,.int .i64 u.idle] /\ e.val = .agg #[.int .i64 (window u day).first,.int .i64 day]):Desk h'.get d m f u := by
 have hr:Rd h.get h'.get := (dropM_rd k.isMap).trans (Rd.of_le hl.1)
 exact ⟨k.file.rd hr,k.rep.rd hr,fun j hj => hr _ _ (k.counts j hj),hr _ _ k.mapp,hm⟩
theorem t_growD {α:Type} {X:XP} {Q:Leaf -> LH -> Prop} {Enc:α -> List Value -> Prop} {h h₁:LH} {d m:Nat} {f:FileC} {u:UseFile} {k:Value -> T} {ts:Array TypeId} {ty sT xT el xe:TypeId} {s by_:Nat} {z:Value} {p:Option Addr} {n c mc:Nat} {b:Addr} {l:List α} {x:α} {ws:List Value} (kd:Desk h.get d m f u) (k1:Desk h₁.get d m f u) (mv:Mv m h h₁)
  (h0:ts[0]? = some sT) (h1:ts[1]? = some xT) (hu:Tryz.prog.underlying sT = some (.slice el)) (hx:Tryz.prog.underlying xT = some (.slice xe)) (hi:(Tryz.prog.info? el).map (fun i => (i.size,i.bytes,i.zero)) = some (s,by_,some z)) (hsz:z.cells.size = s) (hb:by_ <= 1024) (hn:n + 1 <= 2 ^ 30) (g:Growing Enc el s (dropM m h).get h₁.get p n c l) (he:Enc x ws) (hl:ws.length = s) (hc:∀ (j:Nat) v,ws[j]? = some v -> h₁.get.cell? (b.add j) = some v) (one:∀ v ∈ ws,isOne v = true)
  (hk:∀ p' c' h',Mv m h h' -> Desk h'.get d m f u -> Growing Enc el s (dropM m h).get h'.get p' (n + 1) c' (l ++ [x]) -> (k (.slice p' (n + 1) c')).wp X Tryz.prog Q h'):(T.sem false (Builtin.append_ ts ty #[.slice p n c,.slice (some b) 1 mc]) k).wp X Tryz.prog Q h₁ := by
 have hpm:∀ a,p = some a -> a.block ≠ m := by
  intro a ha e
  obtain ⟨vs,⟨_,h2⟩,_⟩ := g.row
  obtain ⟨es,c',hm⟩ := k1.isMap
  rcases h2 with ⟨rfl,_⟩ | ⟨r,cs,rfl,hr,_⟩
  ·cases ha
  ·cases ha; subst e; rw [hm] at hr; cases hr
 refine t_grow h0 h1 hu hx hi hsz hb hn g (dropM_le mv) he hl hc one fun p' c' h' hle hkeep g' => ?_
 obtain ⟨es,c0,hm,hv⟩ := k1.map
 have hm' := hkeep m _ hpm hm
 exact hk p' c' h' (mv_of_drop hle ⟨es,c0,hm'⟩) (desk_of_drop kd hle ⟨es,c0,hm',hv⟩) g'
theorem leftAll_take {u:UseFile} {land day:Int} (i:Nat) (hi:i < u.items.toNat):(leftAll u land day).take (i + 1) = (leftAll u land day).take i ++ [left u land i day] := by
 have hlen:i < (leftAll u land day).length := by unfold leftAll; rw [List.length_map,List.length_range]; exact hi
 rw [List.take_succ_eq_append_getElem hlen]
 congr 2
 simp [leftAll]
theorem c63 {h:LH} {d m:Nat} {f:FileC} {u:UseFile} (k:Desk h.get d m f u) (hck:checkF u = 0) (land day:Int) :
  De 64 #[.pointer (some ⟨d,0,none⟩),.int .i64 land,.int .i64 day] h d m f u fun r h' => ∃ p n c,r = .slice p n c /\ Growing IntEnc 71 1 (dropM m h).get h'.get p n c (leftAll u land day) := by
 refine w63 _ _ _ X0_ok ?_
 unfold n63
 obtain ⟨f0,f1,f2,f3,f4,f5,f6⟩ := k.file
 have hit := (num_ok (check_num hck)).1
 refine gZ ?_
 have hlen:(leftAll u land day).length = u.items.toNat := by unfold leftAll; rw [List.length_map,List.length_range]
 refine t_loop (fun mm vs h' => Mv m h h' /\ Desk h'.get d m f u /\ ∃ (i:Nat) (p:Option Addr) (n c:Nat),vs = [.slice p n c,.int .i64 i] /\ i <= u.items.toNat /\ mm = u.items.toNat - i /\ Growing IntEnc 71 1 (dropM m h).get h'.get p n c ((leftAll u land day).take i))
  ⟨Mv.refl,k,0,none,0,0,rfl,Nat.zero_le _,rfl,Growing.nil⟩ ?_
 rintro Y mm vs h₁ hY ⟨mv,k1,i,p,n,c,rfl,hi,rfl,g⟩
 refine gZ ?_
 refine t_if (fun e1 => ?_) (fun e1 => ?_)
 ·have hm1 := k1.isMap
  refine t_de (c91 k1 hck land i day) ?_
  rintro _ h₂ mv2 k2 rfl
  refine gZ ?_
  have g2 := g.mv hm1 mv2
  refine t_build und40 inf34 (by decide) (by decide) (cells := #[.int .i64 (left u land i day)]) (by kernel_rfl) fun r hr => ?_
  have le3:h₂.le _ := LH.upd_le (x := (true,.cells #[.int .i64 (left u land i day)] 71 (0,0))) hr
  have hng := g2.count IntEnc.len (by omega)
  rw [List.length_take] at hng
  refine gZ ?_
  refine t_growD (x := left u land i day) (ws := [.int .i64 (left u land i day)]) k (k2.le le3.1) ((mv.trans mv2).trans (Mv.of_le le3)) rfl rfl und40 und40 inf34 rfl (by omega) (by omega) (g2.le le3.1) rfl rfl ?_ ?_ ?_
  ·intro j w hj
   rw [add_plain,Nat.zero_add]
   exact cell_upd (by simpa using hj)
  ·intro w hw; simp at hw; subst hw; rfl
  ·intro p' c' h₄ mv4 k4 g4
   refine gZ ?_
   refine t_again (hY (u.items.toNat - (i + 1)) _ _ (by omega) ⟨mv4,k4,i + 1,p',n + 1,c',?_,by omega,rfl,?_⟩)
   ·rw [wrap_id (by omega) (by omega)]; rfl
   ·rw [leftAll_take i (by omega)]; exact g4
 ·refine gZ ?_
  have:i = u.items.toNat := by omega
  subst this
  rw [List.take_of_length_le (by omega)] at g
  exact t_ret ⟨mv,k1,p,n,c,rfl,g⟩
def LeftR (h':Cells) (u:UseFile) (land day:Int) (r:Value):Prop :=
 (openF u [landQ u land,dayQ day] ≠ 0 /\ r = .tuple #[.slice none 0 0,.int .i64 (openF u [landQ u land,dayQ day])]) \/
 (openF u [landQ u land,dayQ day] = 0 /\ ∃ p n c,r = .tuple #[.slice p n c,.int .i64 0] /\ Sl IntE 1 h' p n (leftAll u land day))
theorem c23 {h:LH} {f:FileC} {u:UseFile} (hp:Parts h.get) (hu:FileR h.get f u) (land day:Int):Gr Tryz.prog 28 #[fileV f u,.int .i64 land,.int .i64 day] h fun r h' => LeftR h'.get u land day r := by
 refine w23 _ _ _ _ _ _ _ _ _ _ _ _ _ _ _ X0_ok ?_
 unfold n23
 refine t_gr (c58 u land) ?_
 rintro v0 h₁ le1 ⟨q0,a0⟩
 refine gZ ?_
 refine t_gr (c54 u day) ?_
 rintro v1 h₂ le2 ⟨q1,a1⟩
 refine gZ ?_
 refine asks2 q0 (a0.le le2) q1 a1 fun r h₄ le4 hs => ?_
 refine gZ ?_
 have le14 := LH.le_trans (LH.le_trans le1 le2) le4
 refine t_call (c53 (f := f) (hp.le le14.1) (hu.le le14.1) hs) ?_
 rintro v h₅ ⟨le5,⟨hne,rfl⟩ | ⟨h0,d,m,rfl,hd,hm,k⟩⟩
 ·refine gZ ?_
  refine t_cond (fun _ => ?_) (fun e => absurd (by simpa using e) hne)
  exact t_ret ⟨LH.le_trans le14 le5,.inl ⟨hne,rfl⟩⟩
 ·refine gZ ?_
  refine t_cond (fun e => by cases e) (fun _ => ?_)
  refine t_de (c63 k (open_num h0).2 land day) ?_
  rintro _ h₆ mv k6 ⟨p,n,c,rfl,g⟩
  refine gZ ?_
  refine t_ret ⟨LH.le_trans le14 (Mv.le_of le5 hm mv),.inr ⟨h0,p,n,c,rfl,?_⟩⟩
  refine g.sl IntEnc.len (by omega) IntEnc.e ?_
  have := (num_ok (open_num h0).1).1
  unfold leftAll; rw [List.length_map,List.length_range]; omega
end Go.Proofs.YtfkfohpnpljihaaGreatDoor
end
section
namespace Go.Proofs.YtfkfohpnpljihaaGreatDoor
open Go Go.TM Go.Proofs
attribute [local irreducible] T.wp CV FWK
def LackEnc (x:Lack) (ws:List Value):Prop := ws = [.int .i64 x.item,.int .i64 x.request,.int .i64 x.window.first,.int .i64 x.window.last]
theorem LackEnc.len:∀ x ws,LackEnc x ws -> ws.length = 4 := by rintro x _ rfl; rfl
theorem LackEnc.e {h':Cells}:∀ a x ws,LackEnc x ws -> (∀ (j:Nat) w,ws[j]? = some w -> h'.cell? (a.add j) = some w) -> LackE h' a x := by
 rintro a x _ rfl hc
 exact ⟨hc 0 _ rfl,hc 1 _ rfl,hc 2 _ rfl,hc 3 _ rfl⟩
theorem check_items {u:UseFile} (h:checkF u = 0):∀ r ∈ u.requests,risesF r.items u.items = 0 := by
 obtain ⟨_,h2⟩ := eachF_zero (check_parts h).2.2.2
 intro r hr
 obtain ⟨j,hj⟩ := List.mem_iff_getElem?.1 hr
 have := h2 j r hj
 have key:∀ (c1 c2 c3:Prop) [Decidable c1] [Decidable c2] [Decidable c3] (x:Int),(if c1 then (1:Int) else if c2 then 7 else if c3 then 6 else x) = 0 -> x = 0 := by
  intro c1 c2 c3 _ _ _ x hx
  by_cases a1:c1
  ·rw [if_pos a1] at hx; cases hx
  ·rw [if_neg a1] at hx
   by_cases a2:c2
   ·rw [if_pos a2] at hx; cases hx
   ·rw [if_neg a2] at hx
    by_cases a3:c3
    ·rw [if_pos a3] at hx; cases hx
    ·rw [if_neg a3] at hx; exact hx
 exact key _ _ _ _ this
theorem rises_len {l:List Int} {b:Int} (h:risesF l b = 0):(∀ i (hi:i < l.length),(i:Int) <= l[i] /\ l[i] < b /\ 0 <= l[i]) := by
 have h' := firstF_zero' h
 intro i
 induction i with
 | zero =>
  intro hi
  have := h' 0 l[0] (List.getElem?_eq_getElem hi)
  unfold riseF at this
  split at this
  ·cases this
  ·rename_i h1
   simp [isIn] at h1
   omega
 | succ i ih =>
  intro hi
  have h1 := ih (by omega)
  have := h' (i + 1) l[i + 1] (List.getElem?_eq_getElem hi)
  unfold riseF at this
  split at this
  ·cases this
  ·split at this
   ·cases this
   ·rename_i h2 h3
    simp [isIn] at h2
    have e:l.getD (0 + (i + 1) - 1) 0 = l[i] := by
     rw [show 0 + (i + 1) - 1 = i by omega]
     simp [List.getD,List.getElem?_eq_getElem (show i < l.length by omega)]
    rw [e] at h3
    have:¬ l[i + 1] <= l[i] := fun hh => h3 ⟨by omega,hh⟩
    omega
theorem rises_len' {l:List Int} {b:Int} (h:risesF l b = 0) (hb:0 <= b):(l.length:Int) <= b := by
 by_cases h0:l.length = 0
 ·omega
 ·have := rises_len h (l.length - 1) (by omega)
  omega
theorem lacksGo_len {u:UseFile} {land day:Int} (hi:∀ r ∈ u.requests,r.items.length <= 6):∀ (l:List Request) (i:Nat),(∀ r ∈ l,r ∈ u.requests) -> (lacksGo u land day l i).length <= l.length * 6 := by
 intro l
 induction l with
 | nil => intro i _; simp [lacksGo]
 | cons r l ih =>
  intro i hs
  rw [lacksGo,List.length_append]
  have h1 := ih (i + 1) fun r hr => hs r (by simp [hr])
  have h2:(lacksOf u land day i r).length <= 6 := by
   unfold lacksOf
   split
   ·simp
   ·rw [List.length_map]
    exact Nat.le_trans (List.length_filter_le _ _) (hi r (hs r (by simp)))
  simp only [List.length_cons]; omega
def LacksR (h':Cells) (u:UseFile) (land day:Int) (r:Value):Prop :=
 (openF u [landQ u land,dayQ day] ≠ 0 /\ r = .tuple #[.slice none 0 0,.int .i64 (openF u [landQ u land,dayQ day])]) \/
 (openF u [landQ u land,dayQ day] = 0 /\ ∃ p n c,r = .tuple #[.slice p n c,.int .i64 0] /\ Sl LackE 4 h' p n (lacks u land day))
theorem c28 {h:LH} {f:FileC} {u:UseFile} (hp:Parts h.get) (hu:FileR h.get f u) (land day:Int):Gr Tryz.prog 29 #[fileV f u,.int .i64 land,.int .i64 day] h fun r h' => LacksR h'.get u land day r := by
 refine w28 _ _ _ _ _ _ _ _ _ _ _ _ _ _ _ X0_ok ?_
 unfold n28
 refine t_gr (c58 u land) ?_
 rintro v0 h₁ le1 ⟨q0,a0⟩
 refine gZ ?_
 refine t_gr (c54 u day) ?_
 rintro v1 h₂ le2 ⟨q1,a1⟩
 refine gZ ?_
 refine asks2 q0 (a0.le le2) q1 a1 fun r h₄ le4 hs => ?_
 refine gZ ?_
 have le14 := LH.le_trans (LH.le_trans le1 le2) le4
 refine t_call (c53 (f := f) (hp.le le14.1) (hu.le le14.1) hs) ?_
 rintro v h₅ ⟨le5,⟨hne,rfl⟩ | ⟨h0,d,m,rfl,hd,hm,k⟩⟩
 ·refine gZ ?_
  refine t_cond (fun _ => ?_) (fun e => absurd (by simpa using e) hne)
  exact t_ret ⟨LH.le_trans le14 le5,.inl ⟨hne,rfl⟩⟩
 ·refine gZ ?_
  refine t_cond (fun e => by cases e) (fun _ => ?_)
  have hck := (open_num h0).2
  have hnum := check_num hck
  have hreq := check_requests hck
  have hitn := (num_ok hnum).1
  have hitems:∀ r ∈ u.requests,r.items.length <= 6 := fun r hr => by have := rises_len' (check_items hck r hr) (by omega); omega
  have hlen6 := lacksGo_len (land := land) (day := day) hitems u.requests 0 fun r hr => hr
  have le15 := LH.le_trans le14 le5
  have hrq := (hu.le le15.1).requests
  have hn6 := hrq.1
  have hm5 := k.isMap
  refine t_loop (fun mm vs h' => Mv m h₅ h' /\ Desk h'.get d m f u /\ ∃ (i:Nat) (p:Option Addr) (n c:Nat) (rs:List Lack),vs = [.slice p n c,.int .i64 i] /\ i <= f.n6 /\ mm = f.n6 - i /\ Growing LackEnc 91 4 (dropM m h₅).get h'.get p n c rs /\ lacks u land day = rs ++ lacksGo u land day (u.requests.drop i) i)
   ⟨Mv.refl,k,0,none,0,0,[],rfl,Nat.zero_le _,rfl,Growing.nil,rfl⟩ ?_
  rintro Y mm vs h₆ hY ⟨mv,k6,i,p,n,c,rs,rfl,hi,rfl,g,hc⟩
  refine gZ ?_
  refine t_if (fun e1 => ?_) (fun e1 => ?_)
  ·obtain ⟨x,a,hx,ha,e2,e3,q,mq,cq,e4,e5⟩ := hrq.at (i := i) (by omega)
   have e2 := mv.rd hm5 _ _ e2
   have e3 := mv.rd hm5 _ _ e3
   have e4 := mv.rd hm5 _ _ e4
   have hxm := List.mem_of_getElem? hx
   have hxd := hreq.2 x hxm
   have hx6 := hitems x hxm
   rw [drop_of hx,lacksGo] at hc
   refine gZ ?_
   have next:∀ h' p n c rs',Mv m h₅ h' -> Desk h'.get d m f u -> Growing LackEnc 91 4 (dropM m h₅).get h'.get p n c rs' -> rs' = rs ++ lacksOf u land day i x -> Y [.slice p n c,.int .i64 (wrap .i64 ((i:Int) + 1))] h' := by
    rintro h' p n c rs' mv' k' g' rfl
    refine hY (f.n6 - (i + 1)) _ _ (by omega) ⟨mv',k',i + 1,p,n,c,_,?_,by omega,rfl,g',by rw [hc,List.append_assoc]⟩
    rw [wrap_id (by omega) (by omega)]; rfl
   refine t_blk (fun vs h' => vs = [] /\ h₆ = h' /\ x.land = land /\ x.day <= day) ?_ ?_
   ·refine t_cond (fun b1 => ?_) (fun b1 => ?_)
    ·refine gR ?_
     refine t_cond (fun _ => ?_) (fun e => by cases e)
     refine gZ ?_
     refine t_again (next h₆ p n c rs mv k6 g ?_)
     have:x.land ≠ land := by simpa using b1
     rw [lacksOf,if_pos (.inl this)]; simp
    ·refine t_if (fun b2 => ?_) (fun b2 => ?_)
     ·refine gR ?_
      refine t_cond (fun _ => ?_) (fun e => by cases e)
      refine gZ ?_
      refine t_again (next h₆ p n c rs mv k6 g ?_)
      rw [lacksOf,if_pos (.inr b2)]; simp
     ·exact t_again ⟨rfl,rfl,by simpa using b1,by omega⟩
   ·rintro vs _ ⟨rfl,rfl,hland,hday⟩
    refine gZ ?_
    have hof:lacksOf u land day i x = (x.items.filter fun n => decide (safe u land n x.day ≠ 1)).map fun n => ⟨n,(i:Int),⟨(window u x.day).first,x.day⟩⟩ := by
     rw [lacksOf,if_neg (by omega)]
    have hmq := e5.1
    refine t_loop (fun mm vs h' => Mv m h₅ h' /\ Desk h'.get d m f u /\ ∃ (j:Nat) (p:Option Addr) (n c:Nat) (ss:List Lack),vs = [.slice p n c,.int .i64 j] /\ j <= mq /\ mm = mq - j /\ ss.length <= j /\ Growing LackEnc 91 4 (dropM m h₅).get h'.get p n c (rs ++ ss) /\ lacksOf u land day i x = ss ++ ((x.items.drop j).filter fun n => decide (safe u land n x.day ≠ 1)).map fun n => ⟨n,(i:Int),⟨(window u x.day).first,x.day⟩⟩)
     ⟨mv,k6,0,p,n,c,[],rfl,Nat.zero_le _,rfl,Nat.le_refl _,by simpa using g,hof⟩ ?_
    rintro Y2 mm vs h₇ hY2 ⟨mv7,k7,j,p,n,c,ss,rfl,hj,rfl,hsl,g7,hc7⟩
    refine gZ ?_
    refine t_if (fun e6 => ?_) (fun e6 => ?_)
    ·obtain ⟨y,b,hy,hb,e7⟩ := (e5.rd IntE.grow (mv7.rd hm5)).at (i := j) (by omega)
     unfold IntE at e7
     rw [drop_of hy,List.filter_cons] at hc7
     refine gZ ?_
     refine t_de (c60 k7 hnum land y x.day hxd) ?_
     rintro _ h₈ mv8 k8 rfl
     have g8 := g7.mv k7.isMap mv8
     refine gZ ?_
     refine t_cond (fun b1 => ?_) (fun b1 => ?_)
     ·have b1':decide (safe u land y x.day ≠ 1) = true := by simpa using b1
      rw [if_pos b1',List.map_cons] at hc7
      refine t_de (c55 k8 (num_ok hnum).2.2.2 x.day hxd) ?_
      rintro _ h₉ mv9 k9 rfl
      have g9 := g8.mv k8.isMap mv9
      have e7' := (mv8.trans mv9).rd k7.isMap _ _ e7
      refine gZ ?_
      refine t_build und45 inf79 (by decide) (by decide) (cells := #[.int .i64 y,.int .i64 i,.int .i64 (window u x.day).first,.int .i64 x.day]) (by kernel_rfl) fun r hr => ?_
      have le10:h₉.le _ := LH.upd_le (x := (true,.cells #[.int .i64 y,.int .i64 i,.int .i64 (window u x.day).first,.int .i64 x.day] 91 (0,0))) hr
      have hng := g9.count LackEnc.len (by omega)
      have hrs6:rs.length <= u.requests.length * 6 := by
       have := hlen6
       unfold lacks at hc
       rw [hc,List.length_append] at this; omega
      have hssl:ss.length <= 6 := by have := e5.1; omega
      rw [List.length_append] at hng
      refine gZ ?_
      refine t_growD (x := (⟨y,(i:Int),⟨(window u x.day).first,x.day⟩⟩ : Lack)) (ws := [.int .i64 y,.int .i64 i,.int .i64 (window u x.day).first,.int .i64 x.day]) k (k9.le le10.1) (((mv7.trans mv8).trans mv9).trans (Mv.of_le le10)) rfl rfl und45 und45 inf79 rfl (by omega) (by omega) (g9.le le10.1) rfl rfl ?_ ?_ ?_
      ·intro j w hj
       rw [add_plain,Nat.zero_add]
       exact cell_upd (by simpa using hj)
      ·intro w hw; simp at hw; rcases hw with rfl | rfl | rfl | rfl <;> rfl
      ·intro p' c' h₁₀ mv10 k10 g10
       refine gZ ?_
       refine t_again (hY2 (mq - (j + 1)) _ _ (by omega) ⟨mv10,k10,j + 1,p',n + 1,c',ss ++ [⟨y,(i:Int),⟨(window u x.day).first,x.day⟩⟩],?_,by omega,rfl,by simp; omega,by rw [<- List.append_assoc]; exact g10,by rw [hc7]; simp⟩)
       rw [wrap_id (by omega) (by omega)]; rfl
     ·have b1':decide (safe u land y x.day ≠ 1) = false := by simpa using b1
      rw [if_neg (by rw [b1']; simp)] at hc7
      refine t_again (hY2 (mq - (j + 1)) _ _ (by omega) ⟨mv7.trans mv8,k8,j + 1,p,n,c,ss,?_,by omega,rfl,by omega,g8,hc7⟩)
      rw [wrap_id (by omega) (by omega)]; rfl
    ·refine gZ ?_
     rw [List.drop_eq_nil_of_le (by omega)] at hc7
     refine t_again (next h₇ p n c _ mv7 k7 g7 ?_)
     rw [hc7]; simp
  ·refine gZ ?_
   rw [List.drop_eq_nil_of_le (by omega),lacksGo,List.append_nil] at hc
   refine t_ret ⟨LH.le_trans le14 (Mv.le_of le5 hm mv),.inr ⟨h0,p,n,c,rfl,?_⟩⟩
   rw [hc]
   refine g.sl LackEnc.len (by omega) LackEnc.e ?_
   have:rs.length <= u.requests.length * 6 := by
    have := hlen6
    unfold lacks at hc
    rw [hc] at this; exact this
   omega
def PaperEnc (h₀:Cells) (x:Paper) (ws:List Value):Prop := ∃ q m c,ws = [.int .i64 x.days.first,.int .i64 x.days.last,.int .i64 x.land,.slice q m c] /\ Sl IntE 1 h₀ q m x.items
theorem PaperEnc.len {h₀:Cells}:∀ x ws,PaperEnc h₀ x ws -> ws.length = 4 := by rintro x _ ⟨q,m,c,rfl,_⟩; rfl
theorem PaperEnc.e {h₀ h':Cells} (hr:Rd h₀ h'):∀ a x ws,PaperEnc h₀ x ws -> (∀ (j:Nat) w,ws[j]? = some w -> h'.cell? (a.add j) = some w) -> PaperE h' a x := by
 rintro a x _ ⟨q,m,c,rfl,hs⟩ hc
 exact ⟨hc 0 _ rfl,hc 1 _ rfl,hc 2 _ rfl,q,m,c,hc 3 _ rfl,hs.rd IntE.grow hr⟩
def enoughB (u:UseFile) (land day:Int) (papers all:List Int):Bool := decide (checkF (withP u papers) = 0) && coversB all (leftAll (withP u papers) land day)
theorem withP_take {u:UseFile} {pl:List Int} {i:Nat} {v:Int} {x:Paper} (hv:pl[i]? = some v) (hx:u.papers[v.toNat]? = some x):(pl.take (i + 1)).filterMap (fun n => u.papers[n.toNat]?) = (pl.take i).filterMap (fun n => u.papers[n.toNat]?) ++ [x] := by
 obtain ⟨hlt,rfl⟩ := List.getElem?_eq_some_iff.1 hv
 rw [List.take_succ_eq_append_getElem hlt,List.filterMap_append]
 simp [hx]
theorem c71 {h:LH} {f:FileC} {u:UseFile} (hp:Parts h.get) (hu:FileR h.get f u) (land day:Int) {pp:Option Addr} {pn pc:Nat} {pl:List Int} (hpl:Sl IntE 1 h.get pp pn pl) (hin:∀ v ∈ pl,0 <= v /\ v < (u.papers.length:Int)) (hpl8:pl.length <= 8)
  {ap:Option Addr} {an ac:Nat} {all:List Int} (hal:Sl IntE 1 h.get ap an all) (halen:all.length = u.items.toNat):Gr Tryz.prog 66 #[fileV f u,.int .i64 land,.int .i64 day,.slice pp pn pc,.slice ap an ac] h fun r _ => r = .bool (enoughB u land day pl all) := by
 refine w71 _ _ _ _ _ _ _ _ _ _ _ _ _ _ _ _ _ _ _ _ _ X0_ok ?_
 unfold n71
 have hn := hpl.1
 have hn5 := hu.papers.1
 refine t_loop (fun mm vs h' => h.le h' /\ ∃ (i:Nat) (p:Option Addr) (n c:Nat),vs = [.int .i64 i,.int .i64 u.items,.int .i64 u.lands,.int .i64 u.from_,.int .i64 u.idle,.slice f.p4 f.n4 f.c4,.slice p n c,.slice f.p6 f.n6 f.c6] /\ i <= pn /\ mm = pn - i /\
   Growing (PaperEnc h.get) 32 4 h.get h'.get p n c ((pl.take i).filterMap fun n => u.papers[n.toNat]?)) ⟨LH.le_refl _,0,none,0,0,rfl,Nat.zero_le _,rfl,Growing.nil⟩ ?_
 rintro Y mm vs h₁ hY ⟨hle,i,p,n,c,rfl,hi,rfl,g⟩
 refine gZ ?_
 refine t_if (fun e1 => ?_) (fun e1 => ?_)
 ·obtain ⟨v,a,hv,ha,e2⟩ := hpl.at (i := i) (by omega)
  unfold IntE at e2
  have e2 := Cells.cell?_le hle.1 e2
  have hvr := hin v (List.mem_of_getElem? hv)
  have hvn:((v.toNat:Nat):Int) = v := by omega
  obtain ⟨x,b,hx,hb,e3,e4,e5,q,mq,cq,e6,e7⟩ := hu.papers.at (i := v.toNat) (by omega)
  have e3 := Cells.cell?_le hle.1 e3
  have e4 := Cells.cell?_le hle.1 e4
  have e5 := Cells.cell?_le hle.1 e5
  have e6 := Cells.cell?_le hle.1 e6
  have hnv:0 <= v /\ v < (f.n5:Int) := by omega
  refine gZ ?_
  refine t_build und23 inf69 (by decide) (by decide) (cells := #[.int .i64 x.days.first,.int .i64 x.days.last,.int .i64 x.land,.slice q mq cq]) (by kernel_rfl) fun r hr => ?_
  have le2:h₁.le _ := LH.upd_le (x := (true,.cells #[.int .i64 x.days.first,.int .i64 x.days.last,.int .i64 x.land,.slice q mq cq] 32 (0,0))) hr
  have hng := g.count PaperEnc.len (by omega)
  have hlen:((pl.take i).filterMap fun n => u.papers[n.toNat]?).length <= 8 := Nat.le_trans (List.length_filterMap_le _ _) (by rw [List.length_take]; omega)
  refine gZ ?_
  refine t_grow (x := x) (ws := [.int .i64 x.days.first,.int .i64 x.days.last,.int .i64 x.land,.slice q mq cq]) rfl rfl und23 und23 inf69 rfl (by omega) (by omega) (g.le le2.1) (LH.le_trans hle le2) ⟨q,mq,cq,rfl,e7⟩ rfl ?_ ?_ ?_
  ·intro j w hj
   rw [add_plain,Nat.zero_add]
   exact cell_upd (by simpa using hj)
  ·intro w hw; simp at hw; rcases hw with rfl | rfl | rfl | rfl <;> rfl
  ·intro p' c' h₂ hle2 _ g2
   refine gZ ?_
   refine t_again (hY (pn - (i + 1)) _ _ (by omega) ⟨hle2,i + 1,p',n + 1,c',?_,by omega,rfl,by rw [withP_take hv hx]; exact g2⟩)
   rw [wrap_id (by omega) (by omega)]; rfl
 ·refine gZ ?_
  have hpi:pl.take i = pl := List.take_of_length_le (by omega)
  rw [hpi] at g
  have hlen:(pl.filterMap fun n => u.papers[n.toNat]?).length <= 8 := Nat.le_trans (List.length_filterMap_le _ _) hpl8
  have hsl := g.sl PaperEnc.len (by omega) (PaperEnc.e (Rd.of_le hle.1)) (by omega)
  have hu':FileR h₁.get { f with p5 := p,n5 := n,c5 := c } (withP u pl) := ⟨hu.excuses.le SpanE.grow hle.1,hsl,hu.requests.le RequestE.grow hle.1⟩
  refine t_call (c53 (f := { f with p5 := p,n5 := n,c5 := c }) (u := withP u pl) (l := []) (hp.le hle.1) hu' ⟨rfl,by show 0 < _; omega,fun i g hg => by simp at hg⟩) ?_
  rintro v h₂ ⟨le2,⟨hne,rfl⟩ | ⟨h0,d,m,rfl,hd,hm,k⟩⟩
  ·refine gZ ?_
   refine t_cond (fun _ => ?_) (fun e => absurd (by simpa using e) hne)
   refine t_ret ⟨LH.le_trans hle le2,?_⟩
   have:checkF (withP u pl) ≠ 0 := by
    intro hc
    apply hne
    rw [openF,if_neg (by simp [hc])]; rfl
   unfold enoughB
   rw [decide_eq_false this]; rfl
  ·refine gZ ?_
   refine t_cond (fun e => by cases e) (fun _ => ?_)
   have hck := (open_num h0).2
   refine t_de (c63 k hck land day) ?_
   rintro _ h₃ mv k3 ⟨p3,n3,c3,rfl,g3⟩
   refine gZ ?_
   have hitn := (num_ok (open_num h0).1).1
   have hitn':(withP u pl).items = u.items := rfl
   rw [hitn'] at hitn
   have hll:(leftAll (withP u pl) land day).length = u.items.toNat := by unfold leftAll; rw [List.length_map,List.length_range,hitn']
   have hs3 := g3.sl IntEnc.len (by omega) IntEnc.e (by omega)
   have hle3 := Mv.le_of (LH.le_trans hle le2) (by
    cases hx:h.get m with
    | none => rfl
    | some y => rw [hle.1 _ _ hx] at hm; cases hm) mv
   have hal3 := hal.le IntE.grow hle3.1
   have hn3 := hs3.1
   have han := hal3.1
   refine t_loop (fun mm vs h' => h₃ = h' /\ ∃ j:Nat,vs = [.bool false,.int .i64 j] /\ j <= n3 /\ mm = n3 - j /\ coversB all (leftAll (withP u pl) land day) = coversB (all.drop j) ((leftAll (withP u pl) land day).drop j)) ⟨rfl,0,rfl,Nat.zero_le _,rfl,rfl⟩ ?_
   rintro Y2 mm vs _ hY2 ⟨rfl,j,rfl,hj,rfl,hc⟩
   refine gZ ?_
   have hfin:∀ b,coversB all (leftAll (withP u pl) land day) = b -> Value.bool b = .bool (enoughB u land day pl all) := by
    intro b hb
    unfold enoughB
    rw [decide_eq_true hck,hb]; rfl
   refine t_if (fun e6 => ?_) (fun e6 => ?_)
   ·obtain ⟨y,a1,hy,ha1,e7⟩ := hs3.at (i := j) (by omega)
    obtain ⟨z,a2,hz,ha2,e8⟩ := hal3.at (i := j) (by omega)
    unfold IntE at e7 e8
    rw [drop_of hy,drop_of hz,coversB] at hc
    refine gZ ?_
    have next:(!decide (z = 1) || decide (y = 1)) = true -> Y2 [.bool false,.int .i64 (wrap .i64 ((j:Int) + 1))] h₃ := by
     intro hh
     rw [hh,Bool.true_and] at hc
     refine hY2 (n3 - (j + 1)) _ _ (by omega) ⟨rfl,j + 1,?_,by omega,rfl,hc⟩
     rw [wrap_id (by omega) (by omega)]; rfl
    refine t_cond (fun b1 => ?_) (fun b1 => ?_)
    ·have b1':z = 1 := by simpa using b1
     refine t_cond (fun b2 => ?_) (fun b2 => ?_)
     ·have b2':y ≠ 1 := by simpa using b2
      refine gZ ?_
      refine t_ret ⟨hle3,hfin false ?_⟩
      rw [hc]; simp [b1',b2']
     ·have b2':y = 1 := by simpa using b2
      exact t_again (next (by simp [b2']))
    ·have b1':z ≠ 1 := by simpa using b1
     exact t_again (next (by simp [b1']))
   ·refine gZ ?_
    refine t_ret ⟨hle3,hfin true ?_⟩
    rw [hc,List.drop_eq_nil_of_le (show (leftAll (withP u pl) land day).length <= j by omega)]
    cases all.drop j <;> rfl
theorem c69 {h:LH} {f:FileC} {u:UseFile} (hu5:f.n5 = u.papers.length) (hub:(u.papers.length:Int) < 4611686018427387904) {z:Addr} {p:Option Addr} {n c:Nat} {l:List Int} (hz:h.get.cell? z = some (.slice p n c)) (hl:Sl IntE 1 h.get p n l):Gr Tryz.prog 68 #[fileV f u,.pointer (some z)] h fun r _ => r = .int .i64 (risesF l u.papers.length) := by
 refine w69 _ _ _ _ _ _ _ _ _ _ _ _ _ _ X0_ok ?_
 unfold n69
 refine gL1 hz ?_
 rw [hu5]
 refine t_gr (c70 hl (by unfold IsI; omega)) ?_
 rintro _ h' hle rfl
 refine gZ ?_
 exact t_ret ⟨hle,rfl⟩
theorem rises_in {l:List Int} {b:Int} (h:risesF l b = 0):∀ v ∈ l,0 <= v /\ v < b := by
 intro v hv
 obtain ⟨i,hi,rfl⟩ := List.getElem_of_mem hv
 have := rises_len h i hi
 omega
def enoughQ (u:UseFile) (land day:Int) (papers:List Int):List Int := [landQ u land,dayQ day,risesF papers u.papers.length]
def enoughR (u:UseFile) (land day:Int) (papers:List Int):Value :=
 if openF u (enoughQ u land day papers) ≠ 0 then .tuple #[.bool false,.int .i64 (openF u (enoughQ u land day papers))] else .tuple #[.bool (enoughB u land day papers (leftAll u land day)),.int .i64 0]
theorem c31 {h:LH} {f:FileC} {u:UseFile} (hp:Parts h.get) (hu:FileR h.get f u) (land day:Int) {pp:Option Addr} {pn pc:Nat} {pl:List Int} (hpl:Sl IntE 1 h.get pp pn pl):Gr Tryz.prog 31 #[fileV f u,.int .i64 land,.int .i64 day,.slice pp pn pc] h fun r _ => r = enoughR u land day pl := by
 refine w31 _ _ _ _ _ _ _ _ _ _ _ _ _ _ _ _ _ _ X0_ok ?_
 unfold n31
 refine t_new fun r hr => ?_
 have le0:h.le _ := LH.upd_le (x := (true,.cells #[.slice pp pn pc] 30 (0,0))) hr
 have z0:Cells.cell? (h.get.upd r (true,.cells #[.slice pp pn pc] 30 (0,0))) ⟨r,0,none⟩ = some (.slice pp pn pc) := cell_upd rfl
 refine t_gr (c58 u land) ?_
 rintro v0 h₁ le1 ⟨q0,a0⟩
 refine gZ ?_
 refine t_gr (c54 u day) ?_
 rintro v1 h₂ le2 ⟨q1,a1⟩
 refine gZ ?_
 have le02 := LH.le_trans (LH.le_trans le0 le1) le2
 have hub := hu.papers.2.1
 have z2 := Cells.cell?_le (LH.le_trans le1 le2).1 z0
 have a2:Asks (.func (.func 68) #[] #[.pointer (some ⟨r,0,none⟩)]) h₂ u (risesF pl u.papers.length) := by
  intro _ f' h' hle hu'
  exact cv_fw X0_ok (by rfl) (c69 hu'.papers.1 (by omega) (Cells.cell?_le hle.1 z2) (hpl.le IntE.grow (LH.le_trans le02 hle).1))
 refine asks3 q0 (a0.le le2) q1 a1 ⟨_,_,_,rfl⟩ a2 fun r' h₄ le4 hs => ?_
 refine gZ ?_
 have le14 := LH.le_trans le02 le4
 refine t_call (c53 (f := f) (hp.le le14.1) (hu.le le14.1) hs) ?_
 rintro v h₅ ⟨le5,⟨hne,rfl⟩ | ⟨h0,d,m,rfl,hd,hm,k⟩⟩
 ·refine gZ ?_
  refine t_cond (fun _ => ?_) (fun e => absurd (by simpa using e) hne)
  refine t_ret ⟨LH.le_trans le14 le5,?_⟩
  show _ = enoughR u land day pl
  rw [enoughR,if_pos (show openF u (enoughQ u land day pl) ≠ 0 from hne)]; rfl
 ·refine gZ ?_
  refine t_cond (fun e => by cases e) (fun _ => ?_)
  have le25 := LH.le_trans le4 le5
  have z5 := Cells.cell?_le le25.1 z2
  refine gL1 z5 ?_
  have hck := (open_num h0).2
  refine t_de (c63 k hck land day) ?_
  rintro _ h₆ mv k6 ⟨p,n,c,rfl,g⟩
  refine gZ ?_
  have z6 := mv.rd k.isMap _ _ z5
  refine gL1 z6 ?_
  refine gZ ?_
  have hm0:h.get m = none := by
   cases hx:h.get m with
   | none => rfl
   | some x => rw [le14.1 _ _ hx] at hm; cases hm
  have le6 := Mv.le_of (LH.le_trans le14 le5) hm0 mv
  have hrise:risesF pl u.papers.length = 0 := open_zero h0 _ (by simp)
  have hpap := (check_papers hck).1
  have hpl8 := rises_len' hrise (by omega)
  have hitn := (num_ok (open_num h0).1).1
  have hll:(leftAll u land day).length = u.items.toNat := by unfold leftAll; rw [List.length_map,List.length_range]
  refine t_gr (c71 (hp.le le6.1) (hu.le le6.1) land day (hpl.le IntE.grow le6.1) (rises_in hrise) (by omega) (g.sl IntEnc.len (by omega) IntEnc.e (by omega)) hll) ?_
  rintro _ h₇ le7 rfl
  refine gZ ?_
  refine t_ret ⟨LH.le_trans le6 le7,?_⟩
  show _ = enoughR u land day pl
  rw [enoughR,if_neg (by unfold enoughQ; simpa using h0)]
def cmpI (x y:Int):Int := if x < y then -1 else if x > y then 1 else 0
def cmpL:List Int -> List Int -> Int
 | [],[] => 0
 | [],_ :: _ => -1
 | _ :: _,[] => 1
 | x :: xs,y :: ys => if cmpI x y ≠ 0 then cmpI x y else cmpL xs ys
def fewerF (a b:List Int):Int := if a.length ≠ b.length then (a.length:Int) - b.length else cmpL a b
theorem c109 {h:LH} (x:Int):Pu Tryz.prog 174 #[.int .i64 x] h (.bool false) := by
 refine w109 _ X0_ok ?_
 unfold n109
 refine t_ret ⟨?_,rfl⟩
 simp
theorem c105 {h:LH} (x y:Int):Pu Tryz.prog 129 #[.int .i64 x,.int .i64 y] h (.int .i64 (cmpI x y)) := by
 refine w105 _ _ X0_ok ?_
 unfold n105
 refine t_pu (c109 _) ?_
 refine gZ ?_
 refine t_pu (c109 _) ?_
 refine gZ ?_
 refine t_cond (fun e => by cases e) (fun _ => ?_)
 refine t_cond (fun e => by cases e) (fun _ => ?_)
 refine t_if (fun e => ?_) (fun e => ?_)
 ·refine t_ret ⟨?_,rfl⟩; rw [cmpI,if_pos e]
 ·refine t_if (fun e' => ?_) (fun e' => ?_) <;> refine t_ret ⟨?_,rfl⟩ <;> simp [cmpI,e,e']
theorem c97 {h:LH} {p q:Option Addr} {n c m d:Nat} {a b:List Int} (ha:Sl IntE 1 h.get p n a) (hb:Sl IntE 1 h.get q m b):Pu Tryz.prog 79 #[.slice p n c,.slice q m d] h (.int .i64 (cmpL a b)) := by
 refine w97 _ _ _ _ _ _ X0_ok ?_
 unfold n97
 have hn := ha.1
 have hm := hb.1
 have hbn := ha.2.1
 have hbm := hb.2.1
 refine t_loop (fun mm vs h' => h = h' /\ ∃ i:Nat,vs = [.int .i64 0,.int .i64 i] /\ i <= n /\ i <= m /\ mm = n - i /\ cmpL a b = cmpL (a.drop i) (b.drop i)) ⟨rfl,0,rfl,Nat.zero_le _,Nat.zero_le _,rfl,rfl⟩ ?_
 rintro Y mm vs _ hY ⟨rfl,i,rfl,hi,hi',rfl,hc⟩
 refine gZ ?_
 refine t_if (fun e1 => ?_) (fun e1 => ?_)
 ·obtain ⟨x,a1,hx,ha1,e2⟩ := ha.at (i := i) (by omega)
  unfold IntE at e2
  rw [drop_of hx] at hc
  refine gZ ?_
  refine t_if (fun e3 => ?_) (fun e3 => ?_)
  ·refine gZ ?_
   rw [List.drop_eq_nil_of_le (show b.length <= i by omega),cmpL] at hc
   exact t_ret ⟨by rw [hc],rfl⟩
  ·obtain ⟨y,b1,hy,hb1,e4⟩ := hb.at (i := i) (by omega)
   unfold IntE at e4
   rw [drop_of hy,cmpL] at hc
   refine gZ ?_
   refine t_pu (c105 _ _) ?_
   refine gZ ?_
   refine t_cond (fun e5 => ?_) (fun e5 => ?_)
   ·refine gZ ?_
    rw [if_pos (by simpa using e5)] at hc
    exact t_ret ⟨by rw [hc],rfl⟩
   ·rw [if_neg (by simpa using e5)] at hc
    refine t_again (hY (n - (i + 1)) _ _ (by omega) ⟨rfl,i + 1,?_,by omega,by omega,rfl,hc⟩)
    rw [wrap_id (by omega) (by omega)]; rfl
 ·refine gZ ?_
  rw [List.drop_eq_nil_of_le (show a.length <= i by omega)] at hc
  refine t_if (fun e3 => ?_) (fun e3 => ?_)
  ·obtain ⟨y,hy⟩ : ∃ y,b[i]? = some y := ⟨b[i]'(by omega),List.getElem?_eq_getElem (by omega)⟩
   rw [drop_of hy,cmpL] at hc
   exact t_ret ⟨by rw [hc],rfl⟩
  ·rw [List.drop_eq_nil_of_le (show b.length <= i by omega),cmpL] at hc
   exact t_ret ⟨by rw [hc],rfl⟩
theorem c75 {h:LH} {p q:Option Addr} {n c m d:Nat} {a b:List Int} (ha:Sl IntE 1 h.get p n a) (hb:Sl IntE 1 h.get q m b):Pu Tryz.prog 67 #[.slice p n c,.slice q m d] h (.int .i64 (fewerF a b)) := by
 refine w75 _ _ _ _ _ _ X0_ok ?_
 unfold n75
 have hn := ha.1
 have hm := hb.1
 have hbn := ha.2.1
 have hbm := hb.2.1
 refine t_cond (fun e => ?_) (fun e => ?_)
 ·have e':a.length ≠ b.length := by simp at e; omega
  rw [wrap_id (by omega) (by omega)]
  refine t_ret ⟨?_,rfl⟩
  rw [fewerF,if_pos e',hn,hm]
 ·have e':¬ a.length ≠ b.length := by simp at e; omega
  refine t_pu (c97 ha hb) ?_
  refine gZ ?_
  refine t_ret ⟨?_,rfl⟩
  rw [fewerF,if_neg e']
end Go.Proofs.YtfkfohpnpljihaaGreatDoor
end
section
namespace Go.Proofs.YtfkfohpnpljihaaGreatDoor
open Go Go.TM Go.Proofs
attribute [local irreducible] T.wp CV FWK
def Sent (u:UseFile) (land day:Int) (i:Nat) (v:Value) (hv:Cells):Prop :=
 if enoughB u land day (subsetL u.papers.length i) (leftAll u land day) then ∃ a n c,v = .slice (some a) n c /\ Sl IntE 1 hv (some a) n (subsetL u.papers.length i) /\ n <= c else v = .slice none 0 0
theorem subset_in {n i:Nat}:∀ v ∈ subsetL n i,0 <= v /\ v < (n:Int) := by
 intro v hv
 unfold subsetL at hv
 obtain ⟨j,hj,rfl⟩ := List.mem_map.1 hv
 have := List.mem_range.1 (List.mem_filter.1 hj).1
 omega
theorem subset_len {n i:Nat}:(subsetL n i).length <= n := by
 unfold subsetL
 rw [List.length_map]
 exact Nat.le_trans (List.length_filter_le _ _) (by simp)
theorem bit_test {i j:Nat} (hi:i < 2 ^ 32):(wrap .i64 (((BitVec.ofInt 64 (Int.fdiv (i:Int) (2 ^ min (j:Int).toNat 64)) &&& BitVec.ofInt 64 1).toNat:Nat):Int) == 1) = i.testBit j := by
 have hq:∃ q:Nat,Int.fdiv (i:Int) (2 ^ min (j:Int).toNat 64) = (q:Int) /\ q <= i /\ q % 2 = (i / 2 ^ j) % 2 := by
  by_cases hj:j <= 64
  ·have hm:min (j:Int).toNat 64 = j := by simp; omega
   refine ⟨i / 2 ^ j,?_,Nat.div_le_self _ _,rfl⟩
   rw [hm]
   have:(2 ^ j:Int) = ((2 ^ j:Nat):Int) := by simp
   rw [this,<- Int.ofNat_fdiv]
  ·have hm:min (j:Int).toNat 64 = 64 := by simp; omega
   refine ⟨0,?_,Nat.zero_le _,?_⟩
   ·rw [hm]
    have:(2 ^ 64:Int) = ((2 ^ 64:Nat):Int) := by simp
    rw [this,<- Int.ofNat_fdiv]
    have:i / 2 ^ 64 = 0 := Nat.div_eq_of_lt (by omega)
    rw [this]
   ·have:i / 2 ^ j = 0 := Nat.div_eq_of_lt (Nat.lt_of_lt_of_le hi (Nat.pow_le_pow_right (by omega) (by omega)))
    rw [this]
 obtain ⟨q,h1,h2,h3⟩ := hq
 rw [h1]
 have a1:(BitVec.ofInt 64 (q:Int)).toNat = q := by rw [BitVec.toNat_ofInt]; omega
 have a2:(BitVec.ofInt 64 1).toNat = 1 := rfl
 rw [BitVec.toNat_and,a1,a2,Nat.and_one_is_mod,wrap_id (by omega) (by omega),Nat.testBit_eq_decide_div_mod_eq,<- h3]
 by_cases e:q % 2 = 1
 ·rw [e]; rfl
 ·have:q % 2 = 0 := by omega
  rw [this]; rfl
theorem subset_take {n i j:Nat} (hj:j < n):((List.range n).take (j + 1)).filter (fun j => i.testBit j) = ((List.range n).take j).filter (fun j => i.testBit j) ++ (if i.testBit j then [j] else []) := by
 rw [List.take_succ_eq_append_getElem (by simpa using hj),List.filter_append]
 congr 1
 simp [List.filter_cons]
theorem c74 {hc:Cells} {c0 i:Nat} {z0 z1 z2 z3 z4 z5:Addr} {f:FileC} {u:UseFile} {land day:Int} (hp:Parts hc) (hu:FileR hc f u) (hat:FileAt hc z0 f u) (hpap:u.papers.length <= 8) (hi:i < 2 ^ 32) (h1:hc.cell? z1 = some (.int .i64 (i:Int))) (h2:hc.cell? z2 = some (.int .i64 land)) (h3:hc.cell? z3 = some (.int .i64 day))
  {ap:Option Addr} {an ac:Nat} (h4:hc.cell? z4 = some (.slice ap an ac)) (hal:Sl IntE 1 hc ap an (leftAll u land day)) (h5:hc.cell? z5 = some (.chan (some c0))) :
  FWK XW Tryz.prog .deferred 65 #[.pointer (some z0),.pointer (some z1),.pointer (some z2),.pointer (some z3),.pointer (some z4),.pointer (some z5)] ⟨hc,[],[],[(c0,Sent u land day i)]⟩ fun _ _ => False := by
 refine w74 _ _ _ _ _ _ XW_ok ?_
 unfold n74
 have hn5 := hu.papers.1
 refine t_build0 und50 inf3 fun b0 hb0 => ?_
 have le0:LH.le ⟨hc,[],[],[(c0,Sent u land day i)]⟩ _ := LH.upd_le (x := (true,.cells #[] 3 (0,0))) hb0
 refine gZ ?_
 have g5 := Cells.cell?_le le0.1 hat.f5
 refine gL1 g5 ?_
 refine t_loop (fun mm vs h' => LH.le ⟨hc,[],[],[(c0,Sent u land day i)]⟩ h' /\ ∃ (j:Nat) (a:Addr) (n c:Nat),vs = [.slice (some a) n c,.int .i64 j] /\ j <= f.n5 /\ mm = f.n5 - j /\ Growing IntEnc 3 1 hc h'.get (some a) n c (((List.range u.papers.length).take j).filter (fun j => i.testBit j) |>.map fun j:Nat => (j:Int)))
  ⟨le0,0,_,0,0,rfl,Nat.zero_le _,rfl,⟨[],⟨rfl,.inr ⟨b0,#[],rfl,Cells.upd_self _ _ _,rfl,Nat.le_refl _,fun j v hv => by simp at hv⟩⟩,.nil⟩,fun a ha => by cases ha; exact hb0⟩ ?_
 rintro Y mm vs h₁ hY ⟨hle,j,a,n,c,rfl,hj,rfl,g⟩
 refine gZ ?_
 refine t_if (fun e1 => ?_) (fun e1 => ?_)
 ·have k1 := Cells.cell?_le hle.1 h1
  refine gL0 k1 ?_
  refine gZ ?_
  rw [bit_test hi]
  have hst := subset_take (n := u.papers.length) (i := i) (j := j) (by omega)
  refine t_cond (fun b => ?_) (fun b => ?_)
  ·rw [if_pos b] at hst
   refine t_build und50 inf3 (by decide) (by decide) (cells := #[.int .i64 (j:Int)]) (by kernel_rfl) fun r hr => ?_
   have le2:h₁.le _ := LH.upd_le (x := (true,.cells #[.int .i64 (j:Int)] 3 (0,0))) hr
   have hng := g.count IntEnc.len (by omega)
   have hlen:(((List.range u.papers.length).take j).filter (fun j => i.testBit j)).length <= 8 := Nat.le_trans (List.length_filter_le _ _) (by rw [List.length_take,List.length_range]; omega)
   rw [List.length_map] at hng
   refine gZ ?_
   refine t_grow (h₀ := ⟨hc,[],[],[(c0,Sent u land day i)]⟩) (x := (j:Int)) (ws := [.int .i64 (j:Int)]) rfl rfl und50 und50 inf3 rfl (by omega) (by omega) (g.le le2.1) (LH.le_trans hle le2) rfl rfl ?_ ?_ ?_
   ·intro j w hj
    rw [add_plain,Nat.zero_add]
    exact cell_upd (by simpa using hj)
   ·intro w hw; simp at hw; subst hw; rfl
   ·intro p' c' h₂ hle2 _ g2
    refine gZ ?_
    obtain ⟨a',rfl⟩ : ∃ a',p' = some a' := by
     obtain ⟨vs,⟨_,h6⟩,_⟩ := g2.row
     rcases h6 with ⟨_,h7,_⟩ | ⟨r,cs,h7,_⟩
     ·omega
     ·exact ⟨_,h7⟩
    refine t_again (hY (f.n5 - (j + 1)) _ _ (by omega) ⟨hle2,j + 1,a',n + 1,c',?_,by omega,rfl,by rw [hst,List.map_append]; exact g2⟩)
    rw [wrap_id (by omega) (by omega)]; rfl
  ·rw [if_neg (by rw [b]; simp),List.append_nil] at hst
   refine t_again (hY (f.n5 - (j + 1)) _ _ (by omega) ⟨hle,j + 1,a,n,c,?_,by omega,rfl,by rw [hst]; exact g⟩)
   rw [wrap_id (by omega) (by omega)]; rfl
 ·refine gZ ?_
  have htake:(((List.range u.papers.length).take j).filter (fun j => i.testBit j) |>.map fun j:Nat => (j:Int)) = subsetL u.papers.length i := by
   rw [List.take_of_length_le (by simp; omega)]; rfl
  rw [htake] at g
  obtain ⟨g0,g1,g2,g3,g4,g5,g6⟩ := hat.le hle.1
  have k2 := Cells.cell?_le hle.1 h2
  have k3 := Cells.cell?_le hle.1 h3
  have k4 := Cells.cell?_le hle.1 h4
  have k5 := Cells.cell?_le hle.1 h5
  refine gZ ?_
  have hsub := subset_len (n := u.papers.length) (i := i)
  have hll:(leftAll u land day).length = u.items.toNat := by unfold leftAll; rw [List.length_map,List.length_range]
  refine t_gr (c71 (hp.le hle.1) (hu.le hle.1) land day (g.sl IntEnc.len (by omega) IntEnc.e (by omega)) subset_in (by omega) (hal.le IntE.grow hle.1) hll) ?_
  rintro _ h₂ le2 rfl
  have k5 := Cells.cell?_le le2.1 k5
  refine gZ ?_
  have hle2 := LH.le_trans hle le2
  refine t_cond (fun b => ?_) (fun b => ?_)
  ·refine t_loadC k5 ?_
   refine t_comm ?_
   refine commW_send (z := .tuple #[]) (φ := Sent u land day i) (s := []) (hv := fun _ => none) (hr := h₂.get) hle2.2.2.2 ?_ (fun r => .inl rfl) (fun r x hx => by cases hx) ?_ (fun _ => rfl) (fun h => absurd rfl h)
   ·funext r; rfl
   ·have b':enoughB u land day (subsetL u.papers.length i) (leftAll u land day) = false := by simpa using b
    unfold Sent; rw [if_neg (by rw [b']; simp)]
  ·refine t_loadC k5 ?_
   refine t_comm ?_
   have g7 := g.le le2.1
   obtain ⟨vs,⟨o1,o2⟩,rows⟩ := g7.row
   rcases o2 with ⟨o3,_⟩ | ⟨r,cs,o3,o4,o5,o6,o7⟩
   ·cases o3
   ·cases o3
    refine commW_send (z := .tuple #[]) (φ := Sent u land day i) (s := []) (hv := fun b => if b = r then h₂.get b else none) (hr := fun b => if b = r then none else h₂.get b) hle2.2.2.2 ?_ (fun b => ?_) (fun b x hx => ?_) ?_ (fun _ => rfl) (fun h => absurd rfl h)
    ·funext b
     unfold Cells.add
     by_cases e:b = r
     ·subst e; simp [o4]
     ·simp [e]
    ·by_cases e:b = r
     ·right; simp [e]
     ·left; simp [e]
    ·have hx':(if b = r then h₂.get b else none) = some x := hx
     split at hx'
     ·rename_i e; subst e; rw [o4] at hx'; cases hx'; rfl
     ·cases hx'
    ·have b':enoughB u land day (subsetL u.papers.length i) (leftAll u land day) = true := by simpa using b
     unfold Sent; rw [if_pos b']
     refine ⟨_,_,_,rfl,?_,o6⟩
     refine rows.sl IntEnc.len (by omega) IntEnc.e (el := 3) ⟨o1,.inr ⟨r,cs,rfl,?_,o5,o6,o7⟩⟩ (by omega)
     show (if r = r then h₂.get r else none) = _
     rw [if_pos rfl]; exact o4
end Go.Proofs.YtfkfohpnpljihaaGreatDoor
end
section
namespace Go.TM
open Go Go.Conc
variable {P:Program}
theorem t_newSt {X:XP} {Q:Leaf -> LH -> Prop} {h:LH} {e:TypeId} {v₀ v:Value} {k:Nat -> T} (h1:isOne v = true) (hk:∀ r,h.get r = none -> (k r).wp X P Q { h with get := h.get.upd r (true,.cells #[v] e (0,0)) }) :
  (T.new e #[v₀] fun r => T.store (Addr.add ⟨r,0,none⟩ 0) v (k r)).wp X P Q h := by
 refine t_new fun r hr => ?_
 have own1:(h.get.upd r (true,.cells #[v₀] e (0,0))) r = some (true,.cells #[v₀] e (0,0)) := Cells.upd_self _ _ _
 refine t_store h1 ⟨_,own1⟩ (v₀ := v₀) (by show Cells.cell? _ _ = _; exact cell_upd rfl) (Go.Proofs.YtfkfohpnpljihaaGreatDoor.frozen_plain (i := 0) own1) ?_
 have hset:(h.get.upd r (true,.cells #[v₀] e (0,0))).setCell (Addr.add ⟨r,0,none⟩ 0) v = h.get.upd r (true,.cells #[v] e (0,0)) := by
  show Cells.setCell _ ⟨r,0,none⟩ v = _
  rw [Go.Proofs.YtfkfohpnpljihaaGreatDoor.setCell_upd own1]
  funext b; unfold Cells.upd; by_cases e:b = r <;> simp [e]
 simp only [hset]
 exact hk r hr
theorem cell_freeze (F:Nat -> Bool) (h:Cells) (a:Addr):(freezeC F h).cell? a = h.cell? a := by
 unfold Cells.cell? freezeC
 cases h a.block with
 | none => rfl
 | some x => obtain ⟨m,o⟩ := x; cases o <;> rfl
theorem rd_freeze (F:Nat -> Bool) (h:Cells):Rd h (freezeC F h) := fun a v hc => by rw [cell_freeze]; exact hc
theorem rd_drop {h:Cells} {c s:Nat} (hs:h c = some (true,.chan 0 #[] false s s false)):Rd h (dropC h c) := by
 intro a v hc
 unfold Cells.cell? dropC at *
 by_cases e:a.block = c
 ·rw [e,hs] at hc; cases hc
 ·rw [if_neg e]; exact hc
def Hand (c0:Nat) (h:LH):Prop := (h.chans = [] /\ ∃ s,h.get c0 = some (true,.chan 0 #[] false s s false)) \/ h.chans = [c0]
theorem spawnW_all {f:FuncId} {cap:Array Value} {h:LH} {Q:LH -> Prop} (c0:Nat) {φ:Value -> Cells -> Prop} (hst:Hand c0 h) (c:∀ hc,Rd h.get hc -> FWK XW P .deferred f cap ⟨hc,[],[],[(c0,φ)]⟩ fun _ _ => False)
  (hQ:∀ h',Rd h.get h'.get -> h'.chans = [c0] -> h'.todo = h.todo -> h'.pend = h.pend ++ [[(c0,φ)]] -> Q h'):SpawnW XT P (.func (.func f) #[] cap) #[] h Q := by
 have key:∀ h1:LH,Rd h.get h1.get -> h1.chans = [c0] -> h1.todo = h.todo -> h1.pend = h.pend -> SpawnW XT P (.func (.func f) #[] cap) #[] h1 Q := by
  intro h1 r1 c1 t1 p1
  refine spawnW (fun _ => true) (freezeC (fun _ => true) h1.get) [(c0,φ)] (by simp) (hargs := cap) (by simp) ?_ ?_ (c _ (r1.trans (rd_freeze _ _))) ?_
  ·intro r x hx
   refine ⟨?_,hx⟩
   unfold freezeC at hx
   cases hy:h1.get r with
   | none => rw [hy] at hx; cases hx
   | some y => rw [hy] at hx; simp at hx; rw [<- hx]
  ·intro y hy
   simp at hy; subst hy; rw [c1]; simp
  ·exact hQ _ (r1.trans (rd_freeze _ _)) c1 t1 (by show h1.pend ++ _ = _; rw [p1])
 rcases hst with ⟨h1,s,h2⟩ | h1
 ·refine SpawnW.opened c0 s h2 (key _ (rd_drop h2) ?_ rfl rfl)
  show c0 :: h.chans = _
  rw [h1]
 ·exact key h (Rd.refl _) h1 rfl rfl
theorem commW_gather {last:Bool} {shape:CommShape} {c0:Nat} {z:Value} {φ:Nat -> Value -> Cells -> Prop} {rem:List Nat} {h:LH} {Q:Value -> LH -> Prop} (hp:h.pend = rem.map fun i => [(c0,φ i)]) (hc:h.chans = [c0]) (hne:rem ≠ [])
  (hQ:∀ i rest v h₂,i ∈ rem -> (∀ j,j ∈ rem -> j = i \/ j ∈ rest) -> (∀ j,j ∈ rest -> j ∈ rem) -> rest.length + 1 = rem.length -> h₂.todo = h.todo -> h₂.pend = rest.map (fun i => [(c0,φ i)]) -> ((rest ≠ [] /\ h₂.chans = [c0]) \/ (rest = [] /\ h₂.chans = [] /\ ∃ s,h₂.get c0 = some (true,.chan 0 #[] false s s false))) ->
   (∃ hv,φ i v hv /\ hv.le h₂.get) -> h.get.le h₂.get -> Q (commResult #[rcase c0 z] shape 0 v true) h₂):CommW XT P last #[rcase c0 z] shape h Q := by
 refine CommW.closed (commW_recv ?_ (by rw [hp]; simpa using hne) ?_ ?_)
 ·intro k cc hk
  cases k with
  | zero => simp at hk; subst hk; exact ⟨c0,z,rfl,by rw [hc]; simp⟩
  | succ k => simp at hk
 ·intro s hs
  rw [hp] at hs
  obtain ⟨i,hi,rfl⟩ := List.mem_map.1 hs
  exact ⟨c0,φ i,[],0,z,rfl,rfl⟩
 ·intro pre ψ s post k c v hv z' hpe hcase hd hown hφ
  rw [hp] at hpe
  obtain ⟨l1,l2,rfl,hl1,hl2⟩ := List.map_eq_append_iff.1 hpe
  obtain ⟨i,l3,rfl,hi,hl3⟩ := List.map_eq_cons_iff.1 hl2
  cases hi
  have hk0:k = 0 := by
   cases k with
   | zero => rfl
   | succ k => simp at hcase
  subst hk0
  have le1:h.get.le (h.get.add hv) := Cells.le_add _ _
  have le2:hv.le (h.get.add hv) := fun r x hr => Cells.add_right' hd hr
  have hpend:pre ++ cons' [] post = (l1 ++ l3).map fun i => [(c0,φ i)] := by
   show pre ++ post = _
   rw [<- hl1,<- hl3,List.map_append]
  by_cases hn:l1 ++ l3 = []
  ·right
   refine ⟨c0,by show c0 ∈ h.chans; rw [hc]; simp,by show pre ++ cons' [] post = []; rw [hpend,hn]; rfl,fun s hs => ?_⟩
   refine hQ i (l1 ++ l3) v _ (by simp) (fun j hj => ?_) (fun j hj => ?_) (by simp; omega) rfl hpend (.inr ⟨hn,?_,s,Cells.upd_self _ _ _⟩) ⟨hv,hφ,?_⟩ ?_
   ·simp at hj ⊢; grind
   ·simp at hj ⊢; grind
   ·show h.chans.filter _ = []
    rw [hc]; simp
   ·exact Cells.le_trans le2 (Cells.le_upd _ hs)
   ·exact Cells.le_trans le1 (Cells.le_upd _ hs)
  ·left
   refine hQ i (l1 ++ l3) v _ (by simp) (fun j hj => ?_) (fun j hj => ?_) (by simp; omega) rfl hpend (.inl ⟨hn,hc⟩) ⟨hv,hφ,le2⟩ le1
   ·simp at hj ⊢; grind
   ·simp at hj ⊢; grind
end Go.TM
namespace Go.Proofs.YtfkfohpnpljihaaGreatDoor
open Go Go.TM Go.Proofs
attribute [local irreducible] T.wp CV FWK
theorem Parts.rd {h h':Cells} (hl:Rd h h') (p:Parts h):Parts h' := fun j hj => hl _ _ (p j hj)
/-! ### fewerF is an order -/
theorem cmpI_neg (x y:Int):cmpI y x = - cmpI x y := by unfold cmpI; repeat' split <;> omega
theorem cmpL_neg:∀ a b:List Int,cmpL b a = - cmpL a b := by
 intro a
 induction a with
 | nil => intro b; cases b <;> rfl
 | cons x a ih =>
  intro b
  cases b with
  | nil => rfl
  | cons y b =>
   simp only [cmpL]
   rw [cmpI_neg x y,ih b]
   by_cases e:cmpI x y = 0
   ·simp [e]
   ·rw [if_pos (by omega),if_pos e]
theorem cmpL_trans:∀ a b c:List Int,cmpL a b <= 0 -> cmpL b c <= 0 -> cmpL a c <= 0 := by
 intro a
 induction a with
 | nil => intro b c _ _; cases c <;> simp [cmpL]
 | cons x a ih =>
  intro b c h1 h2
  cases b with
  | nil => simp [cmpL] at h1
  | cons y b =>
   cases c with
   | nil => simp [cmpL] at h2
   | cons z c =>
    simp only [cmpL] at h1 h2 ⊢
    have := ih b c
    unfold cmpI at h1 h2 ⊢
    by_cases a1:x < y
    ·by_cases a2:y < z
     ·rw [if_pos (by rw [if_pos (show x < z by omega)]; omega),if_pos (show x < z by omega)]; omega
     ·by_cases a3:y = z
      ·subst a3; simp [a1]
      ·have:y > z := by omega
       simp [a2,this] at h2
    ·by_cases a4:x = y
     ·subst a4
      simp at h1
      by_cases a2:x < z
      ·simp [a2]
      ·by_cases a3:x = z
       ·subst a3; simp at h2 ⊢; exact this h1 h2
       ·have:x > z := by omega
        simp [a2,this] at h2
     ·have:x > y := by omega
      simp [a1,this] at h1
theorem fewer_neg (a b:List Int):fewerF b a = - fewerF a b := by
 unfold fewerF
 by_cases e:a.length = b.length
 ·rw [if_neg (by omega),if_neg (by omega),cmpL_neg a b]
 ·rw [if_pos (by omega),if_pos (by omega)]; omega
theorem fewer_trans {a b c:List Int} (h1:fewerF a b <= 0) (h2:fewerF b c <= 0):fewerF a c <= 0 := by
 unfold fewerF at *
 by_cases e1:a.length = b.length
 ·rw [if_neg (by omega)] at h1
  by_cases e2:b.length = c.length
  ·rw [if_neg (by omega)] at h2
   rw [if_neg (by omega)]
   exact cmpL_trans a b c h1 h2
  ·rw [if_pos (by omega)] at h2
   rw [if_pos (by omega)]; omega
 ·rw [if_pos (by omega)] at h1
  by_cases e2:b.length = c.length
  ·rw [if_pos (by omega)]; omega
  ·rw [if_pos (by omega)] at h2
   rw [if_pos (by omega)]; omega
theorem fewer_self (a:List Int):fewerF a a <= 0 := by
 have := fewer_neg a a
 omega
def okF (u:UseFile) (land day:Int) (i:Nat):Bool := enoughB u land day (subsetL u.papers.length i) (leftAll u land day)
def BestR (h:Cells) (u:UseFile) (land day:Int) (rem:List Nat) (p:Option Addr) (n:Nat):Prop :=
 (p = none /\ n = 0 /\ ∀ j,j < 2 ^ u.papers.length -> j ∉ rem -> okF u land day j = false) \/
 (∃ i a,p = some a /\ i < 2 ^ u.papers.length /\ okF u land day i = true /\ Sl IntE 1 h (some a) n (subsetL u.papers.length i) /\ ∀ j,j < 2 ^ u.papers.length -> j ∉ rem -> okF u land day j = true -> fewerF (subsetL u.papers.length i) (subsetL u.papers.length j) <= 0)
def KeepR (h':Cells) (u:UseFile) (land day:Int) (r:Value):Prop :=
 (openF u [landQ u land,dayQ day] ≠ 0 /\ r = .tuple #[.slice none 0 0,.int .i64 (openF u [landQ u land,dayQ day])]) \/
 (openF u [landQ u land,dayQ day] = 0 /\ ∃ p n c,r = .tuple #[.slice p n c,.int .i64 0] /\ BestR h' u land day [] p n /\ n <= c)
theorem BestR.skip {h h':Cells} {u:UseFile} {land day:Int} {rem rest:List Nat} {p:Option Addr} {n i:Nat} (b:BestR h u land day rem p n) (hr:∀ j,j ∈ rem -> j = i \/ j ∈ rest) (hi:okF u land day i = false) (hrd:Rd h h'):BestR h' u land day rest p n := by
 rcases b with ⟨h1,h2,h3⟩ | ⟨k,a,h1,h2,h3,h4,h5⟩
 ·refine .inl ⟨h1,h2,fun j hj hn => ?_⟩
  by_cases e:j = i
  ·rw [e]; exact hi
  ·exact h3 j hj fun hm => (hr j hm).elim e hn
 ·refine .inr ⟨k,a,h1,h2,h3,h4.rd IntE.grow hrd,fun j hj hn ho => ?_⟩
  by_cases e:j = i
  ·rw [e] at ho; exact absurd ho (by rw [hi]; simp)
  ·exact h5 j hj (fun hm => (hr j hm).elim e hn) ho
theorem BestR.take {h h':Cells} {u:UseFile} {land day:Int} {rem rest:List Nat} {p:Option Addr} {n i n':Nat} {a:Addr} (b:BestR h u land day rem p n) (hr:∀ j,j ∈ rem -> j = i \/ j ∈ rest) (hi:okF u land day i = true) (hlt:i < 2 ^ u.papers.length) (hs:Sl IntE 1 h' (some a) n' (subsetL u.papers.length i))
  (hb:p = none \/ ∀ k,okF u land day k = true -> Sl IntE 1 h p n (subsetL u.papers.length k) -> fewerF (subsetL u.papers.length i) (subsetL u.papers.length k) <= 0):BestR h' u land day rest (some a) n' := by
 rcases b with ⟨h1,h2,h3⟩ | ⟨k,a',h1,h2,h3,h4,h5⟩
 ·refine .inr ⟨i,a,rfl,hlt,hi,hs,fun j hj hn ho => ?_⟩
  by_cases e:j = i
  ·rw [e]; exact fewer_self _
  ·have := h3 j hj fun hm => (hr j hm).elim e hn
   rw [this] at ho; cases ho
 ·have hle := hb.resolve_left (by rw [h1]; simp) k h3 (by rw [h1]; exact h4)
  refine .inr ⟨i,a,rfl,hlt,hi,hs,fun j hj hn ho => ?_⟩
  by_cases e:j = i
  ·rw [e]; exact fewer_self _
  ·exact fewer_trans hle (h5 j hj (fun hm => (hr j hm).elim e hn) ho)
theorem BestR.stay {h h':Cells} {u:UseFile} {land day:Int} {rem rest:List Nat} {p:Option Addr} {n i:Nat} (b:BestR h u land day rem p n) (hr:∀ j,j ∈ rem -> j = i \/ j ∈ rest) (hp:p ≠ none) (hrd:Rd h h')
  (hb:∀ k,Sl IntE 1 h p n (subsetL u.papers.length k) -> fewerF (subsetL u.papers.length k) (subsetL u.papers.length i) <= 0):BestR h' u land day rest p n := by
 rcases b with ⟨h1,h2,h3⟩ | ⟨k,a',h1,h2,h3,h4,h5⟩
 ·exact absurd h1 hp
 ·refine .inr ⟨k,a',h1,h2,h3,h4.rd IntE.grow hrd,fun j hj hn ho => ?_⟩
  by_cases e:j = i
  ·rw [e]; exact hb k (by rw [h1]; exact h4)
  ·exact h5 j hj (fun hm => (hr j hm).elim e hn) ho
theorem Sl.same {h:Cells} {p:Option Addr} {n:Nat} {a b:List Int} (ha:Sl IntE 1 h p n a) (hb:Sl IntE 1 h p n b):a = b := by
 refine List.ext_getElem (by rw [<- ha.1,<- hb.1]) fun i h1 h2 => ?_
 obtain ⟨x,c,e1,e2,e3⟩ := ha.at (i := i) (by rw [ha.1]; exact h1)
 obtain ⟨y,d,e4,e5,e6⟩ := hb.at (i := i) (by rw [hb.1]; exact h2)
 rw [e2] at e5; cases e5
 unfold IntE at e3 e6
 rw [e3] at e6; cases e6
 rw [List.getElem?_eq_getElem h1] at e1
 rw [List.getElem?_eq_getElem h2] at e4
 exact (Option.some.inj e1).trans (Option.some.inj e4).symm
theorem sets_wrap {n:Nat} (hn:n <= 8):wrap .i64 (1 * 2 ^ min (Int.toNat (n:Int)) 64) = ((2 ^ n:Nat):Int) := by
 have e:min (Int.toNat (n:Int)) 64 = n := by simp; omega
 have h2:(2:Nat) ^ n <= 2 ^ 8 := Nat.pow_le_pow_right (by omega) hn
 have e2:(1:Int) * 2 ^ n = ((2 ^ n:Nat):Int) := by simp
 rw [e,e2]
 generalize 2 ^ n = m at h2
 rw [wrap_id (by omega) (by omega)]
set_option maxRecDepth 100000 in
theorem c33 {h:LH} (hch:h.chans = []) (hpe:h.pend = []) {f:FileC} {u:UseFile} (hp:Parts h.get) (hu:FileR h.get f u) (land day:Int) :
  FW XT Tryz.prog 30 #[fileV f u,.int .i64 land,.int .i64 day] h fun r h' => Rd h.get h'.get /\ h'.chans = [] /\ h'.pend = [] /\ h'.todo = h.todo /\ KeepR h'.get u land day r := by
 refine w33 _ _ _ _ _ _ _ _ _ _ _ _ _ _ _ XT_ok ?_
 unfold n33
 refine t_new fun r hr => ?_
 have le0:h.le _ := LH.upd_le (x := (true,.cells #[.int .i64 u.items,.int .i64 u.lands,.int .i64 u.from_,.int .i64 u.idle,.slice f.p4 f.n4 f.c4,.slice f.p5 f.n5 f.c5,.slice f.p6 f.n6 f.c6] 26 (0,0))) hr
 have hat:FileAt (h.get.upd r (true,.cells #[.int .i64 u.items,.int .i64 u.lands,.int .i64 u.from_,.int .i64 u.idle,.slice f.p4 f.n4 f.c4,.slice f.p5 f.n5 f.c5,.slice f.p6 f.n6 f.c6] 26 (0,0))) ⟨r,0,none⟩ f u :=
  ⟨cell_upd rfl,cell_upd rfl,cell_upd rfl,cell_upd rfl,cell_upd rfl,cell_upd rfl,cell_upd rfl⟩
 generalize hh0:({ h with get := h.get.upd r (true,.cells #[.int .i64 u.items,.int .i64 u.lands,.int .i64 u.from_,.int .i64 u.idle,.slice f.p4 f.n4 f.c4,.slice f.p5 f.n5 f.c5,.slice f.p6 f.n6 f.c6] 26 (0,0)) }:LH) = h0 at le0 ⊢
 have hat:FileAt h0.get ⟨r,0,none⟩ f u := by rw [<- hh0]; exact hat
 refine t_new fun r1 hr1 => ?_
 have le1:h0.le _ := LH.upd_le (x := (true,.cells #[.int .i64 land] 3 (0,0))) hr1
 have z1:Cells.cell? (h0.get.upd r1 (true,.cells #[.int .i64 land] 3 (0,0))) ⟨r1,0,none⟩ = some (.int .i64 land) := cell_upd rfl
 refine t_new fun r2 hr2 => ?_
 have le2 := LH.upd_le (h := { h0 with get := h0.get.upd r1 (true,.cells #[.int .i64 land] 3 (0,0)) }) (x := (true,.cells #[.int .i64 day] 3 (0,0))) hr2
 have z2:Cells.cell? ((h0.get.upd r1 (true,.cells #[.int .i64 land] 3 (0,0))).upd r2 (true,.cells #[.int .i64 day] 3 (0,0))) ⟨r2,0,none⟩ = some (.int .i64 day) := cell_upd rfl
 have z1 := Cells.cell?_le le2.1 z1
 have hat := hat.le (LH.le_trans le1 le2).1
 obtain ⟨g0,g1,g2,g3,g4,g5,g6⟩ := id hat
 have le02 := LH.le_trans le0 (LH.le_trans le1 le2)
 refine gZ ?_
 refine t_gr (c58 u land) ?_
 rintro v0 h₁ le3 ⟨q0,a0⟩
 have z1 := Cells.cell?_le le3.1 z1
 have z2 := Cells.cell?_le le3.1 z2
 have hat := hat.le le3.1
 obtain ⟨g0,g1,g2,g3,g4,g5,g6⟩ := id hat
 refine gZ ?_
 refine t_gr (c54 u day) ?_
 rintro v1 h₂ le4 ⟨q1,a1⟩
 have z1 := Cells.cell?_le le4.1 z1
 have z2 := Cells.cell?_le le4.1 z2
 have hat := hat.le le4.1
 obtain ⟨g0,g1,g2,g3,g4,g5,g6⟩ := id hat
 refine gZ ?_
 refine asks2 q0 (a0.le le4) q1 a1 fun r' h₃ le5 hs => ?_
 have z1 := Cells.cell?_le le5.1 z1
 have z2 := Cells.cell?_le le5.1 z2
 have hat := hat.le le5.1
 obtain ⟨g0,g1,g2,g3,g4,g5,g6⟩ := id hat
 refine gZ ?_
 have le03 := LH.le_trans le02 (LH.le_trans (LH.le_trans le3 le4) le5)
 refine t_call (FW.top (c53 (f := f) (hp.le le03.1) (hu.le le03.1) hs)) ?_
 rintro v h₄ ⟨le6,⟨hne,rfl⟩ | ⟨ho,d,m,rfl,hd,hm,k⟩⟩
 ·refine gZ ?_
  have le04 := LH.le_trans le03 le6
  refine t_cond (fun _ => ?_) (fun e => absurd (by simpa using e) hne)
  exact t_ret ⟨Rd.of_le le04.1,by rw [le04.2.1,hch],by rw [le04.2.2.1,hpe],le04.2.2.2,.inl ⟨hne,rfl⟩⟩
 refine gZ ?_
 refine t_cond (fun e => by cases e) (fun _ => ?_)
 have hck := (open_num ho).2
 have z1' := Cells.cell?_le le6.1 z1
 have z2' := Cells.cell?_le le6.1 z2
 refine gZ ?_
 refine t_de (c63 k hck land day) ?_
 rintro _ h₅ mv k5 ⟨p0,n0,c0,rfl,gl⟩
 have le35 := Mv.le_of le6 hm mv
 have le05 := LH.le_trans le03 le35
 have hitn := (num_ok (open_num ho).1).1
 have hll:(leftAll u land day).length = u.items.toNat := by unfold leftAll; rw [List.length_map,List.length_range]
 have hsl:Sl IntE 1 h₅.get p0 n0 (leftAll u land day) := gl.sl IntEnc.len (by omega) IntEnc.e (by omega)
 have hpap := (check_papers hck).1
 have hu5 := hu.le le05.1
 have hn5 := hu5.papers.1
 refine gZ ?_
 refine t_newSt rfl fun r3 hr3 => ?_
 have le7 := LH.upd_le (x := (true,.cells #[.slice p0 n0 c0] 76 (0,0))) hr3
 have z3:Cells.cell? (h₅.get.upd r3 (true,.cells #[.slice p0 n0 c0] 76 (0,0))) ⟨r3,0,none⟩ = some (.slice p0 n0 c0) := cell_upd rfl
 refine t_makeChan und104 inf50 fun q hq => ?_
 have le8 := LH.upd_le (x := (true,.chan 0 #[] false 0 0 false)) hq
 refine t_unC ?_
 refine t_newSt rfl fun r4 hr4 => ?_
 have le9 := LH.upd_le (x := (true,.cells #[.chan (some q)] 129 (0,0))) hr4
 have le38 := LH.le_trans le35 (LH.le_trans (LH.le_trans le7 le8) le9)
 have z1 := Cells.cell?_le le38.1 z1
 have z2 := Cells.cell?_le le38.1 z2
 have z3 := Cells.cell?_le (LH.le_trans le8 le9).1 z3
 have hat := hat.le le38.1
 obtain ⟨g0,g1,g2,g3,g4,g5,g6⟩ := id hat
 have hsl := hsl.le IntE.grow (LH.le_trans (LH.le_trans le7 le8) le9).1
 have le08 := LH.le_trans le03 le38
 have z4:Cells.cell? (((h₅.get.upd r3 (true,.cells #[.slice p0 n0 c0] 76 (0,0))).upd q (true,.chan 0 #[] false 0 0 false)).upd r4 (true,.cells #[.chan (some q)] 129 (0,0))) ⟨r4,0,none⟩ = some (.chan (some q)) := cell_upd rfl
 have hq' := le9.1 q _ (Cells.upd_self _ _ _)
 refine gL1 g5 ?_
 have h256:2 ^ f.n5 <= 2 ^ 8 := Nat.pow_le_pow_right (by omega) (by omega)
 have hNe:(2:Nat) ^ f.n5 = 2 ^ u.papers.length := by rw [hn5]
 rw [sets_wrap (by omega)]
 generalize hN:(2:Nat) ^ f.n5 = N at h256 hNe ⊢
 refine gZ ?_
 refine t_loop (fun mm vs h' => ∃ j:Nat,vs = [.int .i64 j] /\ j <= N /\ mm = N - j /\ Rd (((h₅.get.upd r3 (true,.cells #[.slice p0 n0 c0] 76 (0,0))).upd q (true,.chan 0 #[] false 0 0 false)).upd r4 (true,.cells #[.chan (some q)] 129 (0,0))) h'.get /\ h'.todo = h.todo /\ h'.pend = (List.range j).map (fun i => [(q,Sent u land day i)]) /\ Hand q h' /\ (0 < j -> h'.chans = [q]))
  ⟨0,rfl,Nat.zero_le _,rfl,Rd.refl _,le08.2.2.2,by rw [le08.2.2.1,hpe]; rfl,.inl ⟨by rw [le08.2.1,hch],0,hq'⟩,fun hh => absurd hh (by omega)⟩ ?_
 rintro Y mm vs h₇ hY ⟨j,rfl,hj,rfl,rd7,td7,pd7,hand7,ch7⟩
 refine gZ ?_
 refine t_if (fun e1 => ?_) (fun e1 => ?_)
 ·refine t_newSt rfl fun r5 hr5 => ?_
  have le10 := LH.upd_le (x := (true,.cells #[.int .i64 (j:Int)] 3 (0,0))) hr5
  have z5:Cells.cell? (h₇.get.upd r5 (true,.cells #[.int .i64 (j:Int)] 3 (0,0))) ⟨r5,0,none⟩ = some (.int .i64 (j:Int)) := cell_upd rfl
  have hand8:Hand q { h₇ with get := h₇.get.upd r5 (true,.cells #[.int .i64 (j:Int)] 3 (0,0)) } := by
   rcases hand7 with ⟨a1,s,a2⟩ | a1
   ·exact .inl ⟨a1,s,le10.1 _ _ a2⟩
   ·exact .inr a1
  have rd8 := rd7.trans (Rd.of_le le10.1)
  refine t_spawn (spawnW_all q (φ := Sent u land day j) hand8 (fun hc hrd => ?_) (fun h₈ r8 c8 t8 p8 => ?_))
  ·have rdc := rd8.trans hrd
   exact c74 ((hp.le le08.1).rd rdc) ((hu.le le08.1).rd rdc) (hat.rd rdc) hpap (by omega) (hrd _ _ z5) (rdc _ _ z1) (rdc _ _ z2) (rdc _ _ z3) (hsl.rd IntE.grow rdc) (rdc _ _ z4)
  ·refine t_again (hY (N - (j + 1)) _ _ (by omega) ⟨j + 1,?_,by omega,rfl,rd8.trans r8,t8.trans td7,?_,.inr c8,fun _ => c8⟩)
   ·rw [wrap_id (by omega) (by omega)]; rfl
   ·rw [p8,pd7,List.range_succ,List.map_append]; rfl
 ·refine gZ ?_
  have hjN:j = N := by omega
  subst hjN
  have hpos:0 < j := by rw [hNe]; exact Nat.pow_pos (by omega)
  refine t_loop (fun mm vs h' => ∃ (k:Nat) (rem:List Nat) (p:Option Addr) (n c:Nat),vs = [.slice p n c,.int .i64 k] /\ rem.length + k = j /\ mm = j - k /\ (∀ i ∈ rem,i < j) /\ Rd (((h₅.get.upd r3 (true,.cells #[.slice p0 n0 c0] 76 (0,0))).upd q (true,.chan 0 #[] false 0 0 false)).upd r4 (true,.cells #[.chan (some q)] 129 (0,0))) h'.get /\ h'.todo = h.todo /\ h'.pend = rem.map (fun i => [(q,Sent u land day i)]) /\
    ((rem ≠ [] /\ h'.chans = [q]) \/ (rem = [] /\ h'.chans = [] /\ ∃ s,h'.get q = some (true,.chan 0 #[] false s s false))) /\ BestR h'.get u land day rem p n /\ n <= c)
   ⟨0,List.range j,none,0,0,rfl,by simp,rfl,fun i hi => List.mem_range.1 hi,rd7,td7,pd7,.inl ⟨by simp; omega,ch7 hpos⟩,.inl ⟨rfl,rfl,fun i hi hn => absurd (List.mem_range.2 (by omega)) hn⟩,Nat.le_refl _⟩ ?_
  rintro Y2 mm vs h₈ hY2 ⟨k,rem,p,n,c,rfl,hk,rfl,hrem,rd8,td8,pd8,hst8,best,hcap⟩
  refine gZ ?_
  refine t_if (fun e2 => ?_) (fun e2 => ?_)
  ·have hne:rem ≠ [] := by rintro rfl; simp at hk; omega
   have hc8:h₈.chans = [q] := by
    rcases hst8 with ⟨_,a⟩ | ⟨a,_⟩
    ·exact a
    ·exact absurd a hne
   refine t_loadC (rd8 _ _ z4) ?_
   refine t_comm (commW_gather (φ := Sent u land day) pd8 hc8 hne ?_)
   intro i rest v h₉ hi h1 h2 hlen ht hpd hst ⟨hv,hsent,hle⟩ hle9
   have hcr:commResult #[Conc.rcase q (.slice none 0 0)] (CommShape.recv false) 0 v true = v := rfl
   rw [hcr]
   have rd9 := Rd.of_le hle9
   have next:∀ p' n' c',BestR h₉.get u land day rest p' n' -> n' <= c' -> Y2 [.slice p' n' c',.int .i64 (wrap .i64 ((k:Int) + 1))] h₉ := by
    intro p' n' c' hb hcap'
    refine hY2 (j - (k + 1)) _ _ (by omega) ⟨k + 1,rest,p',n',c',?_,by omega,rfl,fun i hi => hrem i (h2 i hi),rd8.trans rd9,ht.trans td8,hpd,hst,hb,hcap'⟩
    rw [wrap_id (by omega) (by omega)]; rfl
   change (if okF u land day i = true then _ else _) at hsent
   by_cases ok:okF u land day i = true
   ·rw [if_pos ok] at hsent
    obtain ⟨a,n',c',rfl,hs9,hcap9⟩ := hsent
    have hs9 := hs9.rd IntE.grow (Rd.of_le hle)
    refine gZ ?_
    refine t_neNil und50 ?_
    refine gZ ?_
    refine t_cond (fun _ => ?_) (fun e => by cases e)
    refine t_eqNil und50 ?_
    refine gZ ?_
    refine t_cond (fun b => ?_) (fun b => ?_)
    ·exact t_again (next _ _ _ (best.take h1 ok (by have := hrem i hi; omega) hs9 (.inl (by simpa using b))) hcap9)
    ·have hpn:p ≠ none := by rintro rfl; cases b
     obtain ⟨k',a',hk',hs'⟩ : ∃ k' a',p = some a' /\ Sl IntE 1 h₈.get (some a') n (subsetL u.papers.length k') := by
      rcases best with ⟨b1,_⟩ | ⟨k',a',b1,_,_,b4,_⟩
      ·exact absurd b1 hpn
      ·exact ⟨k',a',b1,b4⟩
     subst hk'
     have hs'9 := hs'.rd IntE.grow rd9
     refine t_pu (c75 hs9 hs'9) ?_
     have same:∀ k2,Sl IntE 1 h₈.get (some a') n (subsetL u.papers.length k2) -> subsetL u.papers.length k2 = subsetL u.papers.length k' := by
      intro k2 h3
      exact Sl.same h3 hs'
     refine gZ ?_
     refine t_if (fun e3 => ?_) (fun e3 => ?_)
     ·refine t_again (next _ _ _ (best.take h1 ok (by have := hrem i hi; omega) hs9 (.inr fun k2 _ h3 => ?_)) hcap9)
      rw [same k2 h3]; omega
     ·refine t_again (next _ _ _ (best.stay h1 hpn rd9 fun k2 h3 => ?_) hcap)
      rw [same k2 h3,fewer_neg]; omega
   ·rw [if_neg ok] at hsent
    subst hsent
    refine gZ ?_
    refine t_neNil und50 ?_
    refine gZ ?_
    refine t_cond (fun e => by cases e) (fun _ => ?_)
    exact t_again (next _ _ _ (best.skip h1 (by simpa using ok) rd9) hcap)
  ·refine gZ ?_
   have hrem0:rem = [] := List.length_eq_zero_iff.1 (by omega)
   subst hrem0
   obtain ⟨hc8,s,hq8⟩ : h₈.chans = [] /\ ∃ s,h₈.get q = some (true,.chan 0 #[] false s s false) := by
    rcases hst8 with ⟨a,_⟩ | ⟨_,a,b⟩
    ·exact absurd rfl a
    ·exact ⟨a,b⟩
   refine t_loadC (rd8 _ _ z4) ?_
   refine t_close hq8 ?_
   have rd9:Rd h₈.get (h₈.get.upd q (true,.chan 0 #[] true s s false)) := by
    intro a v hc
    have hne:a.block ≠ q := by
     intro e
     unfold Cells.cell? at hc
     rw [e,hq8] at hc; cases hc
    unfold Cells.cell? at hc ⊢
    rw [Cells.upd_ne _ _ hne]; exact hc
   have b9:BestR (h₈.get.upd q (true,.chan 0 #[] true s s false)) u land day [] p n := by
    rcases best with b1 | ⟨k2,a,b1,b2,b3,b4,b5⟩
    ·exact .inl b1
    ·exact .inr ⟨k2,a,b1,b2,b3,b4.rd IntE.grow rd9,b5⟩
   exact t_ret ⟨((Rd.of_le le08.1).trans rd8).trans rd9,hc8,pd8,td8,.inr ⟨ho,p,n,c,rfl,b9,hcap⟩⟩
end Go.Proofs.YtfkfohpnpljihaaGreatDoor
end
section
namespace Go.Proofs.YtfkfohpnpljihaaGreatDoor
open Go Go.TM Go.Proofs
set_option linter.unusedVariables false
set_option maxRecDepth 100000
variable {X:XP} {h:LH} {A:Value -> LH -> Prop}
noncomputable def n16  : T := .call false 24 #[] fun v => .unAgg v fun l => .popI .i64 l fun n vs => .popI .i64 vs fun n_1 vs => .popI .i64 vs fun n_2 vs => .popI .i64 vs fun n_3 vs => .popS vs fun a n_4 c vs => .popS vs fun a_1 n_5 c_1 vs => .popS vs fun a_2 n_6 c_2 vs => .unNil vs (.call false 25 #[.agg #[.int .i64 n,.int .i64 n_1,.int .i64 n_2,.int .i64 n_3,.slice a n_4 c,.slice a_1 n_5 c_1,.slice a_2 n_6 c_2],.int .i64 20] fun v => .unTup v fun l => .unCons l fun v vs => .unAgg v fun l => .popI .i64 l fun n_7 vs_1 => .popI .i64 vs_1 fun n_8 vs_2 => .unNil vs_2 (.unCons vs fun v vs => .unI .i64 v fun n_9 => .unNil vs (.call false 25 #[.agg #[.int .i64 n,.int .i64 n_1,.int .i64 n_2,.int .i64 n_3,.slice a n_4 c,.slice a_1 n_5 c_1,.slice a_2 n_6 c_2],.int .i64 25] fun v => .unTup v fun l => .unCons l fun v vs => .unAgg v fun l => .popI .i64 l fun n_10 vs_3 => .popI .i64 vs_3 fun n_11 vs_4 => .unNil vs_4 (.unCons vs fun v vs => .unI .i64 v fun n_12 => .unNil vs (.call false 26 #[.agg #[.int .i64 n,.int .i64 n_1,.int .i64 n_2,.int .i64 n_3,.slice a n_4 c,.slice a_1 n_5 c_1,.slice a_2 n_6 c_2],.int .i64 0,.int .i64 1,.int .i64 16] fun v => .unTup v fun l => .unCons l fun v vs => .unI .i64 v fun n_13 => .unCons vs fun v vs => .unI .i64 v fun n_14 => .unNil vs (.call false 26 #[.agg #[.int .i64 n,.int .i64 n_1,.int .i64 n_2,.int .i64 n_3,.slice a n_4 c,.slice a_1 n_5 c_1,.slice a_2 n_6 c_2],.int .i64 0,.int .i64 1,.int .i64 18] fun v => .unTup v fun l => .unCons l fun v vs => .unI .i64 v fun n_15 => .unCons vs fun v vs => .unI .i64 v fun n_16 => .unNil vs (.call false 26 #[.agg #[.int .i64 n,.int .i64 n_1,.int .i64 n_2,.int .i64 n_3,.slice a n_4 c,.slice a_1 n_5 c_1,.slice a_2 n_6 c_2],.int .i64 0,.int .i64 1,.int .i64 19] fun v => .unTup v fun l => .unCons l fun v vs => .unI .i64 v fun n_17 => .unCons vs fun v vs => .unI .i64 v fun n_18 => .unNil vs (.call false 27 #[.agg #[.int .i64 n,.int .i64 n_1,.int .i64 n_2,.int .i64 n_3,.slice a n_4 c,.slice a_1 n_5 c_1,.slice a_2 n_6 c_2],.int .i64 0,.int .i64 1] fun v => .unTup v fun l => .unCons l fun v vs => .unI .i64 v fun n_19 => .unCons vs fun v vs => .unI .i64 v fun n_20 => .unNil vs (.call false 27 #[.agg #[.int .i64 n,.int .i64 n_1,.int .i64 n_2,.int .i64 n_3,.slice a n_4 c,.slice a_1 n_5 c_1,.slice a_2 n_6 c_2],.int .i64 1,.int .i64 2] fun v => .unTup v fun l => .unCons l fun v vs => .unI .i64 v fun n_21 => .unCons vs fun v vs => .unI .i64 v fun n_22 => .unNil vs (.call false 28 #[.agg #[.int .i64 n,.int .i64 n_1,.int .i64 n_2,.int .i64 n_3,.slice a n_4 c,.slice a_1 n_5 c_1,.slice a_2 n_6 c_2],.int .i64 0,.int .i64 25] fun v => .unTup v fun l => .unCons l fun v vs => .unS v fun a_3 n_23 c_3 => .unCons vs fun v vs => .unI .i64 v fun n_24 => .unNil vs (.call false 29 #[.agg #[.int .i64 n,.int .i64 n_1,.int .i64 n_2,.int .i64 n_3,.slice a n_4 c,.slice a_1 n_5 c_1,.slice a_2 n_6 c_2],.int .i64 0,.int .i64 20] fun v => .unTup v fun l => .unCons l fun v vs => .unS v fun a_4 n_25 c_4 => .unCons vs fun v vs => .unI .i64 v fun n_26 => .unNil vs (.call false 30 #[.agg #[.int .i64 n,.int .i64 n_1,.int .i64 n_2,.int .i64 n_3,.slice a n_4 c,.slice a_1 n_5 c_1,.slice a_2 n_6 c_2],.int .i64 0,.int .i64 25] fun v => .unTup v fun l => .unCons l fun v vs => .unS v fun a_5 n_27 c_5 => .unCons vs fun v vs => .unI .i64 v fun n_28 => .unNil vs (.sem false (Instr.buildSlice 30 2 #[(0,.int .i64 0),(1,.int .i64 2)]) fun v => .unS v fun a_6 n_29 c_6 => .call false 31 #[.agg #[.int .i64 n,.int .i64 n_1,.int .i64 n_2,.int .i64 n_3,.slice a n_4 c,.slice a_1 n_5 c_1,.slice a_2 n_6 c_2],.int .i64 0,.int .i64 25,.slice a_6 n_29 c_6] fun v => .unTup v fun l => .unCons l fun v vs => .unB v fun b => .unCons vs fun v vs => .unI .i64 v fun n => .unNil vs (.blk (bif n_9 != 0 then .leaf (.retn [.bool false]) else bif n_12 != 0 then .leaf (.retn [.bool false]) else bif n_14 != 0 then .leaf (.retn [.bool false]) else bif n_16 != 0 then .leaf (.retn [.bool false]) else bif n_18 != 0 then .leaf (.retn [.bool false]) else bif n_20 != 0 then .leaf (.retn [.bool false]) else bif n_22 != 0 then .leaf (.retn [.bool false]) else bif n_24 != 0 then .leaf (.retn [.bool false]) else bif n_26 != 0 then .leaf (.retn [.bool false]) else bif n_28 != 0 then .leaf (.retn [.bool false]) else bif n != 0 then .leaf (.retn [.bool false]) else .leaf (.again [.bool false])) (fun vs => .popB vs fun b_1 vs => .unNil vs (.blk (.call false 32 #[.int .i64 16,.int .i64 20] fun v => .unAgg v fun l => .popI .i64 l fun n vs => .popI .i64 vs fun n_30 vs => .unNil vs (.nd (.agg #[.int .i64 n_7,.int .i64 n_8]) (.sem false (Sem.bind (eqGuard BinOp.neq 29 (Operand.tmp 123) (Operand.tmp 124) (.agg #[.int .i64 n_7,.int .i64 n_8]) (.agg #[.int .i64 n,.int .i64 n_30])) fun __r => binOp BinOp.neq 29 (.agg #[.int .i64 n_7,.int .i64 n_8]) (.agg #[.int .i64 n,.int .i64 n_30])) fun v => .unB v fun b_2 => bif b_2 then .nd (.tuple #[]) (.nd (.bool true) (.nd (.bool true) (.nd (.bool true) (.nd (.bool true) (.nd (.bool true) (.nd (.bool true) (.nd (.bool true) (.nd (.bool true) (.nd (.bool true) (.nd (.bool true) (.nd (.bool true) (.nd (.bool true) (.nd (.bool true) (.nd (.bool true) (.nd (.bool true) (.nd (.tuple #[]) (.nd (.bool true) (.nd (.tuple #[]) (.nd (.bool true) (.nd (.bool true) (.nd (.bool true) (.nd (.bool true) (.nd (.bool true) (.nd (.bool true) (.nd (.bool true) (.nd (.bool true) (.nd (.tuple #[]) (.nd (.bool true) (.nd (.bool true) (.nd (.bool true) (.nd (.bool true) (.nd (.bool true) (.nd (.bool true) (.nd (.bool true) (.nd (.bool true) (.nd (.tuple #[]) (.nd (.bool true) (.nd (.bool true) (.nd (.bool true) (.nd (.bool true) (.nd (.bool true) (.nd (.bool true) (.nd (.bool true) (.leaf (.retn [.bool false]))))))))))))))))))))))))))))))))))))))))))))) else .call false 32 #[.int .i64 18,.int .i64 25] fun v => .unAgg v fun l => .popI .i64 l fun n vs => .popI .i64 vs fun n_31 vs => .unNil vs (.nd (.agg #[.int .i64 n_10,.int .i64 n_11]) (.sem false (Sem.bind (eqGuard BinOp.neq 29 (Operand.tmp 127) (Operand.tmp 128) (.agg #[.int .i64 n_10,.int .i64 n_11]) (.agg #[.int .i64 n,.int .i64 n_31])) fun __r => binOp BinOp.neq 29 (.agg #[.int .i64 n_10,.int .i64 n_11]) (.agg #[.int .i64 n,.int .i64 n_31])) fun v => .unB v fun b_3 => bif b_3 then .nd (.bool b_3) (.nd (.bool true) (.nd (.bool b_3) (.nd (.bool true) (.nd (.bool true) (.nd (.bool b_3) (.nd (.bool true) (.nd (.bool true) (.nd (.bool true) (.nd (.bool b_3) (.nd (.bool true) (.nd (.bool true) (.nd (.bool true) (.nd (.bool true) (.nd (.bool b_3) (.nd (.tuple #[]) (.nd (.bool true) (.nd (.tuple #[]) (.nd (.bool true) (.nd (.bool true) (.nd (.bool true) (.nd (.bool true) (.nd (.bool true) (.nd (.bool true) (.nd (.bool b_3) (.nd (.bool true) (.nd (.tuple #[]) (.nd (.bool true) (.nd (.bool true) (.nd (.bool true) (.nd (.bool true) (.nd (.bool true) (.nd (.bool true) (.nd (.bool b_3) (.nd (.bool true) (.nd (.tuple #[]) (.nd (.bool true) (.nd (.bool true) (.nd (.bool true) (.nd (.bool true) (.nd (.bool true) (.nd (.bool true) (.nd (.bool b_3) (.leaf (.retn [.bool false])))))))))))))))))))))))))))))))))))))))))))) else bif n_13 != 1 then .nd (.bool (n_13 != 1)) (.nd (.bool (n_13 != 1)) (.nd (.int .i64 n_13) (.ne (.bool b_3) (.bool false) (.nd (.bool b_3) (.nd (.bool true) (.nd (.bool (n_13 != 1)) (.nd (.bool (n_13 != 1)) (.nd (.int .i64 n_13) (.ne (.bool b_3) (.bool false) (.nd (.bool b_3) (.nd (.bool true) (.nd (.bool true) (.nd (.bool (n_13 != 1)) (.nd (.bool (n_13 != 1)) (.nd (.int .i64 n_13) (.ne (.bool b_3) (.bool false) (.nd (.bool b_3) (.nd (.bool true) (.nd (.bool true) (.nd (.bool true) (.nd (.bool (n_13 != 1)) (.nd (.bool (n_13 != 1)) (.nd (.int .i64 n_13) (.ne (.bool b_3) (.bool false) (.nd (.bool b_3) (.nd (.tuple #[]) (.nd (.bool true) (.nd (.tuple #[]) (.nd (.bool true) (.nd (.bool true) (.nd (.bool true) (.nd (.bool true) (.nd (.bool true) (.nd (.bool (n_13 != 1)) (.nd (.bool (n_13 != 1)) (.nd (.int .i64 n_13) (.ne (.bool b_3) (.bool false) (.nd (.bool b_3) (.nd (.bool true) (.nd (.tuple #[]) (.nd (.bool true) (.nd (.bool true) (.nd (.bool true) (.nd (.bool true) (.nd (.bool true) (.nd (.bool (n_13 != 1)) (.nd (.bool (n_13 != 1)) (.nd (.int .i64 n_13) (.ne (.bool b_3) (.bool false) (.nd (.bool b_3) (.nd (.bool true) (.nd (.tuple #[]) (.nd (.bool true) (.nd (.bool true) (.nd (.bool true) (.nd (.bool true) (.nd (.bool true) (.nd (.bool (n_13 != 1)) (.nd (.bool (n_13 != 1)) (.nd (.int .i64 n_13) (.ne (.bool b_3) (.bool false) (.nd (.bool b_3) (.leaf (.retn [.bool false])))))))))))))))))))))))))))))))))))))))))))))))))))))))))))))))) else bif n_15 != 0 then .nd (.bool (n_15 != 0)) (.nd (.bool (n_15 != 0)) (.nd (.int .i64 n_15) (.ne (.bool (n_13 != 1)) (.bool false) (.nd (.bool (n_13 != 1)) (.nd (.bool (n_13 != 1)) (.nd (.int .i64 n_13) (.ne (.bool b_3) (.bool false) (.nd (.bool b_3) (.nd (.bool true) (.nd (.bool (n_15 != 0)) (.nd (.bool (n_15 != 0)) (.nd (.int .i64 n_15) (.ne (.bool (n_13 != 1)) (.bool false) (.nd (.bool (n_13 != 1)) (.nd (.bool (n_13 != 1)) (.nd (.int .i64 n_13) (.ne (.bool b_3) (.bool false) (.nd (.bool b_3) (.nd (.bool true) (.nd (.bool true) (.nd (.bool (n_15 != 0)) (.nd (.bool (n_15 != 0)) (.nd (.int .i64 n_15) (.ne (.bool (n_13 != 1)) (.bool false) (.nd (.bool (n_13 != 1)) (.nd (.bool (n_13 != 1)) (.nd (.int .i64 n_13) (.ne (.bool b_3) (.bool false) (.nd (.bool b_3) (.nd (.tuple #[]) (.nd (.bool true) (.nd (.tuple #[]) (.nd (.bool true) (.nd (.bool true) (.nd (.bool true) (.nd (.bool true) (.nd (.bool (n_15 != 0)) (.nd (.bool (n_15 != 0)) (.nd (.int .i64 n_15) (.ne (.bool (n_13 != 1)) (.bool false) (.nd (.bool (n_13 != 1)) (.nd (.bool (n_13 != 1)) (.nd (.int .i64 n_13) (.ne (.bool b_3) (.bool false) (.nd (.bool b_3) (.nd (.bool true) (.nd (.tuple #[]) (.nd (.bool true) (.nd (.bool true) (.nd (.bool true) (.nd (.bool true) (.nd (.bool (n_15 != 0)) (.nd (.bool (n_15 != 0)) (.nd (.int .i64 n_15) (.ne (.bool (n_13 != 1)) (.bool false) (.nd (.bool (n_13 != 1)) (.nd (.bool (n_13 != 1)) (.nd (.int .i64 n_13) (.ne (.bool b_3) (.bool false) (.nd (.bool b_3) (.nd (.bool true) (.nd (.tuple #[]) (.nd (.bool true) (.nd (.bool true) (.nd (.bool true) (.nd (.bool true) (.nd (.bool (n_15 != 0)) (.nd (.bool (n_15 != 0)) (.nd (.int .i64 n_15) (.ne (.bool (n_13 != 1)) (.bool false) (.nd (.bool (n_13 != 1)) (.nd (.bool (n_13 != 1)) (.nd (.int .i64 n_13) (.ne (.bool b_3) (.bool false) (.nd (.bool b_3) (.leaf (.retn [.bool false]))))))))))))))))))))))))))))))))))))))))))))))))))))))))))))))))))))))))))))) else bif n_17 != 2 then .nd (.bool (n_17 != 2)) (.nd (.bool (n_17 != 2)) (.nd (.int .i64 n_17) (.ne (.bool (n_15 != 0)) (.bool false) (.nd (.bool (n_15 != 0)) (.nd (.bool (n_15 != 0)) (.nd (.int .i64 n_15) (.ne (.bool (n_13 != 1)) (.bool false) (.nd (.bool (n_13 != 1)) (.nd (.bool (n_13 != 1)) (.nd (.int .i64 n_13) (.ne (.bool b_3) (.bool false) (.nd (.bool b_3) (.nd (.bool true) (.nd (.bool (n_17 != 2)) (.nd (.bool (n_17 != 2)) (.nd (.int .i64 n_17) (.ne (.bool (n_15 != 0)) (.bool false) (.nd (.bool (n_15 != 0)) (.nd (.bool (n_15 != 0)) (.nd (.int .i64 n_15) (.ne (.bool (n_13 != 1)) (.bool false) (.nd (.bool (n_13 != 1)) (.nd (.bool (n_13 != 1)) (.nd (.int .i64 n_13) (.ne (.bool b_3) (.bool false) (.nd (.bool b_3) (.nd (.tuple #[]) (.nd (.bool true) (.nd (.tuple #[]) (.nd (.bool true) (.nd (.bool true) (.nd (.bool true) (.nd (.bool (n_17 != 2)) (.nd (.bool (n_17 != 2)) (.nd (.int .i64 n_17) (.ne (.bool (n_15 != 0)) (.bool false) (.nd (.bool (n_15 != 0)) (.nd (.bool (n_15 != 0)) (.nd (.int .i64 n_15) (.ne (.bool (n_13 != 1)) (.bool false) (.nd (.bool (n_13 != 1)) (.nd (.bool (n_13 != 1)) (.nd (.int .i64 n_13) (.ne (.bool b_3) (.bool false) (.nd (.bool b_3) (.nd (.bool true) (.nd (.tuple #[]) (.nd (.bool true) (.nd (.bool true) (.nd (.bool true) (.nd (.bool (n_17 != 2)) (.nd (.bool (n_17 != 2)) (.nd (.int .i64 n_17) (.ne (.bool (n_15 != 0)) (.bool false) (.nd (.bool (n_15 != 0)) (.nd (.bool (n_15 != 0)) (.nd (.int .i64 n_15) (.ne (.bool (n_13 != 1)) (.bool false) (.nd (.bool (n_13 != 1)) (.nd (.bool (n_13 != 1)) (.nd (.int .i64 n_13) (.ne (.bool b_3) (.bool false) (.nd (.bool b_3) (.nd (.bool true) (.nd (.tuple #[]) (.nd (.bool true) (.nd (.bool true) (.nd (.bool true) (.nd (.bool (n_17 != 2)) (.nd (.bool (n_17 != 2)) (.nd (.int .i64 n_17) (.ne (.bool (n_15 != 0)) (.bool false) (.nd (.bool (n_15 != 0)) (.nd (.bool (n_15 != 0)) (.nd (.int .i64 n_15) (.ne (.bool (n_13 != 1)) (.bool false) (.nd (.bool (n_13 != 1)) (.nd (.bool (n_13 != 1)) (.nd (.int .i64 n_13) (.ne (.bool b_3) (.bool false) (.nd (.bool b_3) (.leaf (.retn [.bool false]))))))))))))))))))))))))))))))))))))))))))))))))))))))))))))))))))))))))))))))))))) else bif n_19 != 17 then .nd (.bool (n_19 != 17)) (.nd (.bool (n_19 != 17)) (.nd (.int .i64 n_19) (.ne (.bool (n_17 != 2)) (.bool false) (.nd (.bool (n_17 != 2)) (.nd (.bool (n_17 != 2)) (.nd (.int .i64 n_17) (.ne (.bool (n_15 != 0)) (.bool false) (.nd (.bool (n_15 != 0)) (.nd (.bool (n_15 != 0)) (.nd (.int .i64 n_15) (.ne (.bool (n_13 != 1)) (.bool false) (.nd (.bool (n_13 != 1)) (.nd (.bool (n_13 != 1)) (.nd (.int .i64 n_13) (.ne (.bool b_3) (.bool false) (.nd (.bool b_3) (.nd (.tuple #[]) (.nd (.bool true) (.nd (.tuple #[]) (.nd (.bool true) (.nd (.bool true) (.nd (.bool (n_19 != 17)) (.nd (.bool (n_19 != 17)) (.nd (.int .i64 n_19) (.ne (.bool (n_17 != 2)) (.bool false) (.nd (.bool (n_17 != 2)) (.nd (.bool (n_17 != 2)) (.nd (.int .i64 n_17) (.ne (.bool (n_15 != 0)) (.bool false) (.nd (.bool (n_15 != 0)) (.nd (.bool (n_15 != 0)) (.nd (.int .i64 n_15) (.ne (.bool (n_13 != 1)) (.bool false) (.nd (.bool (n_13 != 1)) (.nd (.bool (n_13 != 1)) (.nd (.int .i64 n_13) (.ne (.bool b_3) (.bool false) (.nd (.bool b_3) (.nd (.bool true) (.nd (.tuple #[]) (.nd (.bool true) (.nd (.bool true) (.nd (.bool (n_19 != 17)) (.nd (.bool (n_19 != 17)) (.nd (.int .i64 n_19) (.ne (.bool (n_17 != 2)) (.bool false) (.nd (.bool (n_17 != 2)) (.nd (.bool (n_17 != 2)) (.nd (.int .i64 n_17) (.ne (.bool (n_15 != 0)) (.bool false) (.nd (.bool (n_15 != 0)) (.nd (.bool (n_15 != 0)) (.nd (.int .i64 n_15) (.ne (.bool (n_13 != 1)) (.bool false) (.nd (.bool (n_13 != 1)) (.nd (.bool (n_13 != 1)) (.nd (.int .i64 n_13) (.ne (.bool b_3) (.bool false) (.nd (.bool b_3) (.nd (.bool true) (.nd (.tuple #[]) (.nd (.bool true) (.nd (.bool true) (.nd (.bool (n_19 != 17)) (.nd (.bool (n_19 != 17)) (.nd (.int .i64 n_19) (.ne (.bool (n_17 != 2)) (.bool false) (.nd (.bool (n_17 != 2)) (.nd (.bool (n_17 != 2)) (.nd (.int .i64 n_17) (.ne (.bool (n_15 != 0)) (.bool false) (.nd (.bool (n_15 != 0)) (.nd (.bool (n_15 != 0)) (.nd (.int .i64 n_15) (.ne (.bool (n_13 != 1)) (.bool false) (.nd (.bool (n_13 != 1)) (.nd (.bool (n_13 != 1)) (.nd (.int .i64 n_13) (.ne (.bool b_3) (.bool false) (.nd (.bool b_3) (.leaf (.retn [.bool false])))))))))))))))))))))))))))))))))))))))))))))))))))))))))))))))))))))))))))))))))) else bif n_21 != 15 then .nd (.tuple #[]) (.nd (.bool true) (.nd (.tuple #[]) (.ne (.bool (n_21 != 15)) (.bool true) (.nd (.bool (n_21 != 15)) (.nd (.bool (n_21 != 15)) (.nd (.int .i64 n_21) (.ne (.bool (n_19 != 17)) (.bool false) (.nd (.bool (n_19 != 17)) (.nd (.bool (n_19 != 17)) (.nd (.int .i64 n_19) (.ne (.bool (n_17 != 2)) (.bool false) (.nd (.bool (n_17 != 2)) (.nd (.bool (n_17 != 2)) (.nd (.int .i64 n_17) (.ne (.bool (n_15 != 0)) (.bool false) (.nd (.bool (n_15 != 0)) (.nd (.bool (n_15 != 0)) (.nd (.int .i64 n_15) (.ne (.bool (n_13 != 1)) (.bool false) (.nd (.bool (n_13 != 1)) (.nd (.bool (n_13 != 1)) (.nd (.int .i64 n_13) (.ne (.bool b_3) (.bool false) (.nd (.bool b_3) (.nd (.bool true) (.nd (.tuple #[]) (.ne (.bool (n_21 != 15)) (.bool true) (.nd (.bool (n_21 != 15)) (.nd (.bool (n_21 != 15)) (.nd (.int .i64 n_21) (.ne (.bool (n_19 != 17)) (.bool false) (.nd (.bool (n_19 != 17)) (.nd (.bool (n_19 != 17)) (.nd (.int .i64 n_19) (.ne (.bool (n_17 != 2)) (.bool false) (.nd (.bool (n_17 != 2)) (.nd (.bool (n_17 != 2)) (.nd (.int .i64 n_17) (.ne (.bool (n_15 != 0)) (.bool false) (.nd (.bool (n_15 != 0)) (.nd (.bool (n_15 != 0)) (.nd (.int .i64 n_15) (.ne (.bool (n_13 != 1)) (.bool false) (.nd (.bool (n_13 != 1)) (.nd (.bool (n_13 != 1)) (.nd (.int .i64 n_13) (.ne (.bool b_3) (.bool false) (.nd (.bool b_3) (.nd (.bool true) (.nd (.tuple #[]) (.ne (.bool (n_21 != 15)) (.bool true) (.nd (.bool (n_21 != 15)) (.nd (.bool (n_21 != 15)) (.nd (.int .i64 n_21) (.ne (.bool (n_19 != 17)) (.bool false) (.nd (.bool (n_19 != 17)) (.nd (.bool (n_19 != 17)) (.nd (.int .i64 n_19) (.ne (.bool (n_17 != 2)) (.bool false) (.nd (.bool (n_17 != 2)) (.nd (.bool (n_17 != 2)) (.nd (.int .i64 n_17) (.ne (.bool (n_15 != 0)) (.bool false) (.nd (.bool (n_15 != 0)) (.nd (.bool (n_15 != 0)) (.nd (.int .i64 n_15) (.ne (.bool (n_13 != 1)) (.bool false) (.nd (.bool (n_13 != 1)) (.nd (.bool (n_13 != 1)) (.nd (.int .i64 n_13) (.ne (.bool b_3) (.bool false) (.nd (.bool b_3) (.leaf (.retn [.bool false])))))))))))))))))))))))))))))))))))))))))))))))))))))))))))))))))))))))))) else bif b then .nd (.tuple #[]) (.nd (.bool b) (.nd (.bool b) (.ne (.bool (n_21 != 15)) (.bool false) (.nd (.bool (n_21 != 15)) (.nd (.bool (n_21 != 15)) (.nd (.int .i64 n_21) (.ne (.bool (n_19 != 17)) (.bool false) (.nd (.bool (n_19 != 17)) (.nd (.bool (n_19 != 17)) (.nd (.int .i64 n_19) (.ne (.bool (n_17 != 2)) (.bool false) (.nd (.bool (n_17 != 2)) (.nd (.bool (n_17 != 2)) (.nd (.int .i64 n_17) (.ne (.bool (n_15 != 0)) (.bool false) (.nd (.bool (n_15 != 0)) (.nd (.bool (n_15 != 0)) (.nd (.int .i64 n_15) (.ne (.bool (n_13 != 1)) (.bool false) (.nd (.bool (n_13 != 1)) (.nd (.bool (n_13 != 1)) (.nd (.int .i64 n_13) (.ne (.bool b_3) (.bool false) (.nd (.bool b_3) (.nd (.bool b) (.nd (.bool b) (.ne (.bool (n_21 != 15)) (.bool false) (.nd (.bool (n_21 != 15)) (.nd (.bool (n_21 != 15)) (.nd (.int .i64 n_21) (.ne (.bool (n_19 != 17)) (.bool false) (.nd (.bool (n_19 != 17)) (.nd (.bool (n_19 != 17)) (.nd (.int .i64 n_19) (.ne (.bool (n_17 != 2)) (.bool false) (.nd (.bool (n_17 != 2)) (.nd (.bool (n_17 != 2)) (.nd (.int .i64 n_17) (.ne (.bool (n_15 != 0)) (.bool false) (.nd (.bool (n_15 != 0)) (.nd (.bool (n_15 != 0)) (.nd (.int .i64 n_15) (.ne (.bool (n_13 != 1)) (.bool false) (.nd (.bool (n_13 != 1)) (.nd (.bool (n_13 != 1)) (.nd (.int .i64 n_13) (.ne (.bool b_3) (.bool false) (.nd (.bool b_3) (.nd (.bool b) (.nd (.bool b) (.ne (.bool (n_21 != 15)) (.bool false) (.nd (.bool (n_21 != 15)) (.nd (.bool (n_21 != 15)) (.nd (.int .i64 n_21) (.ne (.bool (n_19 != 17)) (.bool false) (.nd (.bool (n_19 != 17)) (.nd (.bool (n_19 != 17)) (.nd (.int .i64 n_19) (.ne (.bool (n_17 != 2)) (.bool false) (.nd (.bool (n_17 != 2)) (.nd (.bool (n_17 != 2)) (.nd (.int .i64 n_17) (.ne (.bool (n_15 != 0)) (.bool false) (.nd (.bool (n_15 != 0)) (.nd (.bool (n_15 != 0)) (.nd (.int .i64 n_15) (.ne (.bool (n_13 != 1)) (.bool false) (.nd (.bool (n_13 != 1)) (.nd (.bool (n_13 != 1)) (.nd (.int .i64 n_13) (.ne (.bool b_3) (.bool false) (.nd (.bool b_3) (.leaf (.retn [.bool false])))))))))))))))))))))))))))))))))))))))))))))))))))))))))))))))))))))))))) else .sem false (Instr.buildSlice 30 1 #[(0,.int .i64 1)]) fun v => .unS v fun a n c => .nd (.slice a_5 n_27 c_5) (.nd (.bool b) (.nd (.bool b) (.ne (.bool (n_21 != 15)) (.bool false) (.nd (.bool (n_21 != 15)) (.nd (.bool (n_21 != 15)) (.nd (.int .i64 n_21) (.ne (.bool (n_19 != 17)) (.bool false) (.nd (.bool (n_19 != 17)) (.nd (.bool (n_19 != 17)) (.nd (.int .i64 n_19) (.ne (.bool (n_17 != 2)) (.bool false) (.nd (.bool (n_17 != 2)) (.nd (.bool (n_17 != 2)) (.nd (.int .i64 n_17) (.ne (.bool (n_15 != 0)) (.bool false) (.nd (.bool (n_15 != 0)) (.nd (.bool (n_15 != 0)) (.nd (.int .i64 n_15) (.ne (.bool (n_13 != 1)) (.bool false) (.nd (.bool (n_13 != 1)) (.nd (.bool (n_13 != 1)) (.nd (.int .i64 n_13) (.ne (.bool b_3) (.bool false) (.nd (.bool b_3) (.call false 33 #[.slice a_5 n_27 c_5,.slice a n c] fun v => .unB v fun b_4 => .nd (.bool b) (.nd (.bool b) (.ne (.bool (n_21 != 15)) (.bool false) (.nd (.bool (n_21 != 15)) (.nd (.bool (n_21 != 15)) (.nd (.int .i64 n_21) (.ne (.bool (n_19 != 17)) (.bool false) (.nd (.bool (n_19 != 17)) (.nd (.bool (n_19 != 17)) (.nd (.int .i64 n_19) (.ne (.bool (n_17 != 2)) (.bool false) (.nd (.bool (n_17 != 2)) (.nd (.bool (n_17 != 2)) (.nd (.int .i64 n_17) (.ne (.bool (n_15 != 0)) (.bool false) (.nd (.bool (n_15 != 0)) (.nd (.bool (n_15 != 0)) (.nd (.int .i64 n_15) (.ne (.bool (n_13 != 1)) (.bool false) (.nd (.bool (n_13 != 1)) (.nd (.bool (n_13 != 1)) (.nd (.int .i64 n_13) (.ne (.bool b_3) (.bool false) (.nd (.bool b_3) (bif !b_4 then .leaf (.retn [.bool false]) else .leaf (.again [.bool b_1]))))))))))))))))))))))))))))))))))))))))))))))))))))))) (fun vs => .popB vs fun b vs => .unNil vs (.sem false (Instr.buildSlice 76 3 #[(0,.int .i64 1),(1,.int .i64 2),(2,.int .i64 0)]) fun v => .unS v fun a n c => .call false 34 #[.slice a_3 n_23 c_3,.slice a n c] fun v => .unB v fun b => bif b then .call false 32 #[.int .i64 16,.int .i64 20] fun v => .unAgg v fun l => .popI .i64 l fun n vs => .popI .i64 vs fun n_30 vs => .unNil vs (.call false 32 #[.int .i64 16,.int .i64 20] fun v => .unAgg v fun l => .popI .i64 l fun n_31 vs => .popI .i64 vs fun n_32 vs => .unNil vs (.sem false (Instr.buildSlice 79 2 #[(0,.agg #[.int .i64 1,.int .i64 0,.int .i64 n,.int .i64 n_30]),(1,.agg #[.int .i64 2,.int .i64 0,.int .i64 n_31,.int .i64 n_32])]) fun v => .unS v fun a n c => .call false 35 #[.slice a_4 n_25 c_4,.slice a n c] fun v => .unB v fun b => .leaf (.ret (.bool b)))) else .leaf (.ret (.bool false)))) (fun vs => .popB vs fun b vs => .unNil vs (.leaf (.ret (.bool b)))) fun x x_1 => .fail)) (fun vs => .popB vs fun b vs => .unNil vs (.leaf (.ret (.bool b)))) fun x x_1 => .fail))))))))))))))
theorem w16  : FX X 8 #[] h A (n16) := fk [1,2,4] [] [⟨17,[(0,.bool)],[1,2,4],[],[],[]⟩,⟨15,[(0,.bool)],[1,2,4],[],[],[]⟩] Tryz.f8
end Go.Proofs.YtfkfohpnpljihaaGreatDoor
end
section
namespace Go.Proofs.YtfkfohpnpljihaaGreatDoor
open Go Go.TM Go.Proofs
attribute [local irreducible] T.wp CV FWK
def exU:UseFile := ⟨3,2,10,5,[⟨21,23⟩],[⟨⟨12,14⟩,0,[0,1]⟩,⟨⟨19,19⟩,0,[0]⟩,⟨⟨17,26⟩,0,[2]⟩,⟨⟨18,18⟩,1,[0,1]⟩],[⟨20,0,[0,1,2]⟩,⟨25,0,[0,2]⟩]⟩
theorem c42 {h:LH} (a b:Int):Pu Tryz.prog 32 #[.int .i64 a,.int .i64 b] h (.agg #[.int .i64 a,.int .i64 b]) := by
 refine w42 _ _ X0_ok ?_
 unfold n42
 exact t_ret ⟨rfl,rfl⟩
theorem c35 {h:LH} {p q:Option Addr} {n c m d:Nat} {a b:List Int} (ha:Sl IntE 1 h.get p n a) (hb:Sl IntE 1 h.get q m b):Pu Tryz.prog 33 #[.slice p n c,.slice q m d] h (.bool (decide (a = b))) := by
 refine w35 _ _ _ _ _ _ X0_ok ?_
 unfold n35
 have hn := ha.1
 have hm := hb.1
 have hbn := ha.2.1
 have hbm := hb.2.1
 refine t_cond (fun e => ?_) (fun e => ?_)
 ·have:a ≠ b := by rintro rfl; simp at e; omega
  exact t_ret ⟨by simp [this],rfl⟩
 have hnm:n = m := by simp at e; omega
 refine t_loop (fun mm vs h' => h = h' /\ ∃ i:Nat,vs = [.bool false,.int .i64 i] /\ i <= n /\ mm = n - i /\ a.take i = b.take i) ⟨rfl,0,rfl,Nat.zero_le _,rfl,rfl⟩ ?_
 rintro Y mm vs _ hY ⟨rfl,i,rfl,hi,rfl,hc⟩
 refine gZ ?_
 refine t_if (fun e => ?_) (fun e => ?_)
 ·obtain ⟨x,a1,hx,ha1,e1⟩ := ha.at (i := i) (by omega)
  obtain ⟨y,a2,hy,ha2,e2⟩ := hb.at (i := i) (by omega)
  unfold IntE at e1 e2
  refine gZ ?_
  refine t_cond (fun b1 => ?_) (fun b1 => ?_)
  ·refine gZ ?_
   have:a ≠ b := by rintro rfl; rw [hx] at hy; cases hy; simp at b1
   exact t_ret ⟨by simp [this],rfl⟩
  ·have b2:x = y := by simpa using b1
   refine t_again (hY (n - (i + 1)) _ _ (by omega) ⟨rfl,i + 1,?_,by omega,rfl,?_⟩)
   ·rw [wrap_id (by omega) (by omega)]; rfl
   ·rw [List.take_add_one,List.take_add_one,hc,hx,hy,b2]
 ·refine gZ ?_
  rw [List.take_of_length_le (by omega),List.take_of_length_le (by omega)] at hc
  exact t_ret ⟨by simp [hc],rfl⟩
theorem c25 {h:LH} {p q:Option Addr} {n c m d:Nat} {a b:List Int} (ha:Sl IntE 1 h.get p n a) (hb:Sl IntE 1 h.get q m b):Pu Tryz.prog 34 #[.slice p n c,.slice q m d] h (.bool (decide (a = b))) := by
 refine w25 _ _ _ _ _ _ X0_ok ?_
 unfold n25
 have hn := ha.1
 have hm := hb.1
 have hbn := ha.2.1
 have hbm := hb.2.1
 refine t_cond (fun e => ?_) (fun e => ?_)
 ·have:a ≠ b := by rintro rfl; simp at e; omega
  exact t_ret ⟨by simp [this],rfl⟩
 have hnm:n = m := by simp at e; omega
 refine t_loop (fun mm vs h' => h = h' /\ ∃ i:Nat,vs = [.bool false,.int .i64 i] /\ i <= n /\ mm = n - i /\ a.take i = b.take i) ⟨rfl,0,rfl,Nat.zero_le _,rfl,rfl⟩ ?_
 rintro Y mm vs _ hY ⟨rfl,i,rfl,hi,rfl,hc⟩
 refine gZ ?_
 refine t_if (fun e => ?_) (fun e => ?_)
 ·obtain ⟨x,a1,hx,ha1,e1⟩ := ha.at (i := i) (by omega)
  obtain ⟨y,a2,hy,ha2,e2⟩ := hb.at (i := i) (by omega)
  unfold IntE at e1 e2
  refine gZ ?_
  refine t_cond (fun b1 => ?_) (fun b1 => ?_)
  ·refine gZ ?_
   have:a ≠ b := by rintro rfl; rw [hx] at hy; cases hy; simp at b1
   exact t_ret ⟨by simp [this],rfl⟩
  ·have b2:x = y := by simpa using b1
   refine t_again (hY (n - (i + 1)) _ _ (by omega) ⟨rfl,i + 1,?_,by omega,rfl,?_⟩)
   ·rw [wrap_id (by omega) (by omega)]; rfl
   ·rw [List.take_add_one,List.take_add_one,hc,hx,hy,b2]
 ·refine gZ ?_
  rw [List.take_of_length_le (by omega),List.take_of_length_le (by omega)] at hc
  exact t_ret ⟨by simp [hc],rfl⟩
end Go.Proofs.YtfkfohpnpljihaaGreatDoor
end
section
namespace Go.Proofs.YtfkfohpnpljihaaGreatDoor
open Go Go.TM Go.Proofs
attribute [local irreducible] T.wp CV FWK
theorem t_buildG {X:XP} {Q:Leaf -> LH -> Prop} {h:LH} {k:Value -> T} {t el:TypeId} {n s b:Nat} {parts:Array (Nat × Value)} {z:Value} {cells:Array Value} (hu:Tryz.prog.underlying t = some (.slice el)) (hi:(Tryz.prog.info? el).map (fun i => (i.size,i.bytes,i.zero)) = some (s,b,some z)) (hn:n * s <= 2 ^ 24) (hpos:n * s ≠ 0)
  (hf:Instr.fill (fun i => some (i * s,s)) ((Array.range (n * s)).map (z.cells[· % z.cells.size]!)) parts.toList = some cells)
  (hk:∀ r h',h.le h' -> h.get r = none -> h'.get r = some (true,.cells cells el (0,0)) -> (k (.slice (some ⟨r,0,none⟩) n n)).wp X Tryz.prog Q h'):(T.sem false (Instr.buildSlice t n parts) k).wp X Tryz.prog Q h :=
 t_build hu hi hn hpos hf fun r hr => hk r _ (LH.upd_le hr) hr (Cells.upd_self _ _ _)
theorem sl_ints {h:Cells} {r:Nat} {m:Bool} {el:TypeId} {l:List Int} {cs:Array Value} (hcs:cs = (l.map (Value.int .i64)).toArray) (hr:h r = some (m,.cells cs el (0,0))) (hb:l.length < 4611686018427387904):Sl IntE 1 h (some ⟨r,0,none⟩) l.length l := by
 refine ⟨rfl,hb,fun i x hx => ⟨_,rfl,?_⟩⟩
 unfold IntE
 rw [add_plain,add_plain]
 subst hcs
 simp [Cells.cell?,hr,hx]
theorem cell_row {h:Cells} {r i:Nat} {m:Bool} {cs:Array Value} {el:TypeId} {v:Value} (hr:h r = some (m,.cells cs el (0,0))) (hv:cs[i]? = some v):h.cell? ⟨r,i,none⟩ = some v := by
 simp [Cells.cell?,hr,hv]
theorem exRep {h:Cells} {r1 r2 r3 r4 r5 r6 r7 r8 r9:Nat} (e1:h r1 = some (true,.cells #[.int .i64 21,.int .i64 23] 29 (0,0))) (e2:h r2 = some (true,.cells #[.int .i64 0,.int .i64 1] 3 (0,0))) (e3:h r3 = some (true,.cells #[.int .i64 0] 3 (0,0))) (e4:h r4 = some (true,.cells #[.int .i64 2] 3 (0,0))) (e5:h r5 = some (true,.cells #[.int .i64 0,.int .i64 1] 3 (0,0)))
  (e6:h r6 = some (true,.cells #[.int .i64 12,.int .i64 14,.int .i64 0,.slice (some ⟨r2,0,none⟩) 2 2,.int .i64 19,.int .i64 19,.int .i64 0,.slice (some ⟨r3,0,none⟩) 1 1,.int .i64 17,.int .i64 26,.int .i64 0,.slice (some ⟨r4,0,none⟩) 1 1,.int .i64 18,.int .i64 18,.int .i64 1,.slice (some ⟨r5,0,none⟩) 2 2] 32 (0,0)))
  (e7:h r7 = some (true,.cells #[.int .i64 0,.int .i64 1,.int .i64 2] 3 (0,0))) (e8:h r8 = some (true,.cells #[.int .i64 0,.int .i64 2] 3 (0,0))) (e9:h r9 = some (true,.cells #[.int .i64 20,.int .i64 0,.slice (some ⟨r7,0,none⟩) 3 3,.int .i64 25,.int .i64 0,.slice (some ⟨r8,0,none⟩) 2 2] 34 (0,0))) :
  FileR h ⟨some ⟨r1,0,none⟩,1,1,some ⟨r6,0,none⟩,4,4,some ⟨r9,0,none⟩,2,2⟩ exU := by
 have cr:∀ {r i j:Nat} {m:Bool} {cs:Array Value} {el:TypeId} {v:Value},h r = some (m,.cells cs el (0,0)) -> cs[i + j]? = some v -> h.cell? (Addr.add (Addr.add ⟨r,0,none⟩ i) j) = some v := by
  intro r i j m cs el v hr hv
  rw [add_plain,add_plain,Nat.zero_add]; exact cell_row hr hv
 refine ⟨⟨rfl,by show (1:Nat) < _; omega,?_⟩,⟨rfl,by show (4:Nat) < _; omega,?_⟩,⟨rfl,by show (2:Nat) < _; omega,?_⟩⟩
 ·intro i x hx
  match i,hx with
  | 0,hx => cases hx; exact ⟨_,rfl,cr e1 rfl,cr e1 rfl⟩
  | i + 1,hx => simp [exU] at hx
 ·intro i x hx
  match i,hx with
  | 0,hx => cases hx; exact ⟨_,rfl,cr e6 rfl,cr e6 rfl,cr e6 rfl,_,_,_,cr e6 rfl,sl_ints (l := [0,1]) rfl e2 (by show (2:Nat) < _; omega)⟩
  | 1,hx => cases hx; exact ⟨_,rfl,cr e6 rfl,cr e6 rfl,cr e6 rfl,_,_,_,cr e6 rfl,sl_ints (l := [0]) rfl e3 (by show (1:Nat) < _; omega)⟩
  | 2,hx => cases hx; exact ⟨_,rfl,cr e6 rfl,cr e6 rfl,cr e6 rfl,_,_,_,cr e6 rfl,sl_ints (l := [2]) rfl e4 (by show (1:Nat) < _; omega)⟩
  | 3,hx => cases hx; exact ⟨_,rfl,cr e6 rfl,cr e6 rfl,cr e6 rfl,_,_,_,cr e6 rfl,sl_ints (l := [0,1]) rfl e5 (by show (2:Nat) < _; omega)⟩
  | i + 4,hx => simp [exU] at hx
 ·intro i x hx
  match i,hx with
  | 0,hx => cases hx; exact ⟨_,rfl,cr e9 rfl,cr e9 rfl,_,_,_,cr e9 rfl,sl_ints (l := [0,1,2]) rfl e7 (by show (3:Nat) < _; omega)⟩
  | 1,hx => cases hx; exact ⟨_,rfl,cr e9 rfl,cr e9 rfl,_,_,_,cr e9 rfl,sl_ints (l := [0,2]) rfl e8 (by show (2:Nat) < _; omega)⟩
  | i + 2,hx => simp [exU] at hx
set_option maxRecDepth 100000 in
theorem c52 {h:LH}:Gr Tryz.prog 24 #[] h fun r h' => ∃ f,r = fileV f exU /\ FileR h'.get f exU := by
 refine w52 X0_ok ?_
 unfold n52
 refine t_pu (c42 _ _) ?_
 refine gZ ?_
 refine t_buildG und22 inf30 (by decide) (by decide) (cells := #[.int .i64 21,.int .i64 23]) (by kernel_rfl) fun r1 h1 le1 _ e1 => ?_
 refine gZ ?_
 refine t_pu (c42 _ _) ?_
 refine gZ ?_
 refine t_buildG und50 inf3 (by decide) (by decide) (cells := #[.int .i64 0,.int .i64 1]) (by kernel_rfl) fun r2 h2 le2 _ e2 => ?_
 refine gZ ?_
 refine t_pu (c42 _ _) ?_
 refine gZ ?_
 refine t_buildG und50 inf3 (by decide) (by decide) (cells := #[.int .i64 0]) (by kernel_rfl) fun r3 h3 le3 _ e3 => ?_
 refine gZ ?_
 refine t_pu (c42 _ _) ?_
 refine gZ ?_
 refine t_buildG und50 inf3 (by decide) (by decide) (cells := #[.int .i64 2]) (by kernel_rfl) fun r4 h4 le4 _ e4 => ?_
 refine gZ ?_
 refine t_pu (c42 _ _) ?_
 refine gZ ?_
 refine t_buildG und50 inf3 (by decide) (by decide) (cells := #[.int .i64 0,.int .i64 1]) (by kernel_rfl) fun r5 h5 le5 _ e5 => ?_
 refine gZ ?_
 refine t_buildG und23 inf69 (by decide) (by decide) (cells := #[.int .i64 12,.int .i64 14,.int .i64 0,.slice (some ⟨r2,0,none⟩) 2 2,.int .i64 19,.int .i64 19,.int .i64 0,.slice (some ⟨r3,0,none⟩) 1 1,.int .i64 17,.int .i64 26,.int .i64 0,.slice (some ⟨r4,0,none⟩) 1 1,.int .i64 18,.int .i64 18,.int .i64 1,.slice (some ⟨r5,0,none⟩) 2 2]) (by kernel_rfl) fun r6 h6 le6 _ e6 => ?_
 refine gZ ?_
 refine t_buildG und50 inf3 (by decide) (by decide) (cells := #[.int .i64 0,.int .i64 1,.int .i64 2]) (by kernel_rfl) fun r7 h7 le7 _ e7 => ?_
 refine gZ ?_
 refine t_buildG und50 inf3 (by decide) (by decide) (cells := #[.int .i64 0,.int .i64 2]) (by kernel_rfl) fun r8 h8 le8 _ e8 => ?_
 refine gZ ?_
 refine t_buildG und24 inf64 (by decide) (by decide) (cells := #[.int .i64 20,.int .i64 0,.slice (some ⟨r7,0,none⟩) 3 3,.int .i64 25,.int .i64 0,.slice (some ⟨r8,0,none⟩) 2 2]) (by kernel_rfl) fun r9 h9 le9 _ e9 => ?_
 refine gZ ?_
 have l89 := le9
 have l79 := LH.le_trans le8 l89
 have l69 := LH.le_trans le7 l79
 have l59 := LH.le_trans le6 l69
 have l49 := LH.le_trans le5 l59
 have l39 := LH.le_trans le4 l49
 have l29 := LH.le_trans le3 l39
 have l19 := LH.le_trans le2 l29
 have e1 := l19.1 _ _ e1
 have e2 := l29.1 _ _ e2
 have e3 := l39.1 _ _ e3
 have e4 := l49.1 _ _ e4
 have e5 := l59.1 _ _ e5
 have e6 := l69.1 _ _ e6
 have e7 := l79.1 _ _ e7
 have e8 := l89.1 _ _ e8
 refine t_ret ⟨LH.le_trans le1 l19,⟨some ⟨r1,0,none⟩,1,1,some ⟨r6,0,none⟩,4,4,some ⟨r9,0,none⟩,2,2⟩,rfl,?_⟩
 exact exRep e1 e2 e3 e4 e5 e6 e7 e8 e9
end Go.Proofs.YtfkfohpnpljihaaGreatDoor
end
section
namespace Go.Proofs.YtfkfohpnpljihaaGreatDoor
open Go Go.TM Go.Proofs
attribute [local irreducible] T.wp CV FWK
theorem le_updNew {h h':LH} {m:Nat} {x:Bool × Obj} (hl:h.le h') (hm:h.get m = none):h.le { h' with get := h'.get.upd m x } := ⟨fun b y hb => by
 have:b ≠ m := by rintro rfl; rw [hm] at hb; cases hb
 show h'.get.upd m x b = _
 rw [Cells.upd_ne _ _ this]; exact hl.1 b y hb,hl.2⟩
theorem mapAt_le {h h':Cells} {m:Nat} {es:Array MapEntry} (hl:h.le h') (hm:MapAt h m es):MapAt h' m es := by
 obtain ⟨c,hc⟩ := hm
 exact ⟨c,hl _ _ hc⟩
theorem und1248:Tryz.prog.underlying 295 = some (.map 297 4) := by kernel_rfl
theorem und1251:Tryz.prog.underlying 298 = some (.map 176 4) := by kernel_rfl
theorem und1252:Tryz.prog.underlying 299 = some (.map 178 4) := by kernel_rfl
theorem und1215:Tryz.prog.underlying 278 = some (.slice 277) := by kernel_rfl
theorem inf157:(Tryz.prog.info? 277).map (fun i => (i.size,i.bytes,i.zero)) = some (1,8,some .nilFunc) := by kernel_rfl
theorem keyPl (e:Int) (s:ByteArray):FKey Tryz.prog 297 (.agg #[.int .i64 e,.string s]) := .inr ⟨[.int .i64 e,.string s],rfl,flat_of (ks := [.i,.s]) (by kernel_rfl) rfl (fun i k v hk hv => by
 match i,hk,hv with
 | 0,hk,hv => cases hk; cases hv; exact ⟨_,rfl⟩
 | 1,hk,hv => cases hk; cases hv; exact ⟨_,rfl⟩)⟩
theorem keyMv (a b c:Int):FKey Tryz.prog 176 (.agg #[.int .i64 a,.int .i64 b,.int .i64 c]) := .inr ⟨_,rfl,flatMv a b c⟩
theorem keyKn (a b c d:Int):FKey Tryz.prog 178 (.agg #[.int .i64 a,.int .i64 b,.int .i64 c,.int .i64 d]) := .inr ⟨[.int .i64 a,.int .i64 b,.int .i64 c,.int .i64 d],rfl,flat_ints (vs := [a,b,c,d]) (by kernel_rfl)⟩
def SeenI (t:GTab) (i j:Nat) (e:MapEntry):Prop := ∃ (a b:Nat) (l:List GItem) (x:GItem),(a < i \/ (a = i /\ b < j)) /\ t.eds[a]? = some l /\ l[b]? = some x /\ e.key = .agg #[.int .i64 a,.string x.name]
set_option maxRecDepth 10000 in
theorem c3180 {h:LH} {f:TabC} {t:GTab} (hr:TabR h.get f t) (ok:TabOk t):Gr Tryz.prog 184 #[tabV f] h fun r _ => r = .int .i64 0 := by
 refine w3180 _ _ _ _ _ _ _ _ _ X0_ok ?_
 unfold n3180
 have hn0 := hr.eds.1
 have hb0 := hr.eds.2.1
 have hmany := ok.many
 refine t_pu (c3183 _ _ _) ?_
 rw [in_iff.2 (show (1:Int) <= (f.n0:Int) /\ (f.n0:Int) <= 3 by omega)]
 refine gZ ?_
 refine t_cond (fun e => by cases e) (fun _ => ?_)
 refine t_makeMap fun m hm => ?_
 refine gZ ?_
 refine t_loop (fun mm vs h' => h.le h' /\ ∃ (i:Nat) (es:Array MapEntry),vs = [.int .i64 0,.int .i64 i] /\ i <= f.n0 /\ mm = f.n0 - i /\ MapAt h'.get m es /\ ∀ e ∈ es.toList,SeenI t i 0 e)
  ⟨LH.upd_le hm,0,#[],rfl,Nat.zero_le _,rfl,⟨0,Cells.upd_self _ _ _⟩,fun e he => by simp at he⟩ ?_
 rintro Y mm vs h1 hY ⟨le1,i,es,rfl,hi,rfl,hme,hseen⟩
 refine gZ ?_
 refine t_if (fun e1 => ?_) (fun e1 => ?_)
 ·obtain ⟨l,a,hl,ha,q,n,c,e2,e3⟩ := hr.eds.at (i := i) (by omega)
  have hin:0 <= (i:Int) /\ (i:Int) < (f.n0:Int) := by omega
  have e2' := Cells.cell?_le le1.1 e2
  have hn := e3.1
  have ol := ok.eds l (List.mem_of_getElem? hl)
  have h8 := ol.many
  refine gZ ?_
  refine t_if (fun e => by omega) (fun _ => ?_)
  refine t_loop (fun mm vs h' => h.le h' /\ ∃ (j:Nat) (es:Array MapEntry),vs = [.int .i64 0,.int .i64 j] /\ j <= n /\ mm = n - j /\ MapAt h'.get m es /\ ∀ e ∈ es.toList,SeenI t i j e)
   ⟨le1,0,es,rfl,Nat.zero_le _,rfl,hme,hseen⟩ ?_
  rintro Y2 mm vs h2 hY2 ⟨le2,j,es2,rfl,hj,rfl,hme2,hseen2⟩
  refine gZ ?_
  refine t_if (fun e4 => ?_) (fun e4 => ?_)
  ·obtain ⟨x,b,hx,hb',g1,g2⟩ := e3.at (i := j) (by omega)
   have hjn:0 <= (j:Int) /\ (j:Int) < (n:Int) := by omega
   have g1' := Cells.cell?_le le2.1 g1
   have g2' := Cells.cell?_le le2.1 g2
   have hxm := List.mem_of_getElem? hx
   have hcls := ol.cls x hxm
   refine gZ ?_
   repeat ((first | refine t_loadStr (by assumption) ?_ | refine t_loadV (by assumption) ?_ | refine gL0 (by assumption) ?_); refine gZ ?_)
   refine t_gr (c3208 (ol.name x hxm)) ?_
   rintro _ h3 le3 rfl
   have le03 := LH.le_trans le2 le3
   have hme3 := mapAt_le le3.1 hme2
   have hkeys:∀ e ∈ es2.toList,FKey Tryz.prog 297 e.key := fun e he => by
    obtain ⟨a',b',l',x',_,_,_,hk⟩ := hseen2 e he
    rw [hk]; exact keyPl _ _
   refine gZ ?_
   refine t_cond (fun e => by cases e) (fun _ => ?_)
   refine t_lookupK und1248 inf4 hme3 (keyPl _ _) hkeys (fun e he hk => ?_) fun _ => ?_
   ·exfalso
    obtain ⟨a',b',l',x',hlt,hl',hx',hk'⟩ := hseen2 e he
    rw [hk'] at hk
    have heq:[Value.int .i64 (a':Int),.string x'.name] = [.int .i64 (i:Int),.string x.name] := agg_inj.1 hk
    simp only [List.cons.injEq,Value.int.injEq,Value.string.injEq,true_and,and_true] at heq
    have hai:a' = i := by omega
    subst hai
    rw [hl] at hl'; cases hl'
    exact ol.once b' j x' x (by omega) hx' hx heq.2
   simp only [Bool.false_eq_true,if_false]
   refine gZ ?_
   refine t_cond (fun e => by cases e) (fun _ => ?_)
   refine t_pu (c3183 _ _ _) ?_
   rw [in_iff.2 hcls]
   refine gZ ?_
   refine t_cond (fun e => by cases e) (fun _ => ?_)
   refine t_mapUpdateK und1248 hme3 (keyPl _ _) hkeys fun es3 c3 hes3 => ?_
   refine t_again (hY2 (n - (j + 1)) _ _ (by omega) ⟨le_updNew le03 hm,j + 1,es3,?_,by omega,rfl,⟨c3,Cells.upd_self _ _ _⟩,fun e he => ?_⟩)
   ·rw [wrap_id (by omega) (by omega)]; rfl
   ·rcases hes3 e he with ⟨hk,_⟩ | he'
    ·exact ⟨i,j,l,x,.inr ⟨rfl,by omega⟩,hl,hx,hk⟩
    ·obtain ⟨a',b',l',x',hlt,hl',hx',hk'⟩ := hseen2 e he'
     exact ⟨a',b',l',x',by omega,hl',hx',hk'⟩
  ·refine gZ ?_
   refine t_again (hY (f.n0 - (i + 1)) _ _ (by omega) ⟨le2,i + 1,es2,?_,by omega,rfl,hme2,fun e he => ?_⟩)
   ·rw [wrap_id (by omega) (by omega)]; rfl
   ·obtain ⟨a',b',l',x',hlt,hl',hx',hk'⟩ := hseen2 e he
    exact ⟨a',b',l',x',.inl (by omega),hl',hx',hk'⟩
 ·refine gZ ?_
  exact t_ret ⟨le1,rfl⟩
theorem edition_in {t:GTab} {e n:Int} (h:itemB t e n):isIn e 0 ((t.eds.length:Int) - 1) = true := in_iff.2 ⟨h.1,by have := h.2.1; omega⟩
def SeenM (t:GTab) (i:Nat) (e:MapEntry):Prop := ∃ (a:Nat) (x:GMv),a < i /\ t.moves[a]? = some x /\ e.key = .agg #[.int .i64 x.ed,.int .i64 x.src,.int .i64 x.dst]
set_option maxRecDepth 10000 in
theorem c3181 {h:LH} {f:TabC} {t:GTab} (hr:TabR h.get f t) (ok:TabOk t):Gr Tryz.prog 185 #[tabV f] h fun r _ => r = .int .i64 0 := by
 refine w3181 _ _ _ _ _ _ _ _ _ X0_ok ?_
 unfold n3181
 have hn1 := hr.moves.1
 have hb1 := hr.moves.2.1
 have hmv := ok.moves
 have hmany := ok.many
 refine t_if (fun e => by omega) (fun _ => ?_)
 refine t_makeMap fun m hm => ?_
 refine gZ ?_
 refine t_loop (fun mm vs h' => h.le h' /\ ∃ (i:Nat) (es:Array MapEntry),vs = [.int .i64 0,.int .i64 i] /\ i <= f.n1 /\ mm = f.n1 - i /\ MapAt h'.get m es /\ ∀ e ∈ es.toList,SeenM t i e)
  ⟨LH.upd_le hm,0,#[],rfl,Nat.zero_le _,rfl,⟨0,Cells.upd_self _ _ _⟩,fun e he => by simp at he⟩ ?_
 rintro Y mm vs h1 hY ⟨le1,i,es,rfl,hi,rfl,hme,hseen⟩
 refine gZ ?_
 refine t_if (fun e1 => ?_) (fun e1 => ?_)
 ·obtain ⟨x,a,hx,ha,g1,g2,g3⟩ := hr.moves.at (i := i) (by omega)
  have hin:0 <= (i:Int) /\ (i:Int) < (f.n1:Int) := by omega
  have g1 := Cells.cell?_le le1.1 g1
  have g2 := Cells.cell?_le le1.1 g2
  have g3 := Cells.cell?_le le1.1 g3
  obtain ⟨o1,o2⟩ := ok.move x (List.mem_of_getElem? hx)
  have hr1 := hr.le le1.1
  have h01 := o1.1
  have h02 := o1.2.1
  have ew:wrap .i64 (x.ed + 1) = x.ed + 1 := wrap_id (by omega) (by omega)
  have hkeys:∀ e ∈ es.toList,FKey Tryz.prog 176 e.key := fun e he => by
   obtain ⟨a',x',_,_,hk⟩ := hseen e he
   rw [hk]; exact keyMv _ _ _
  refine gZ ?_
  rw [ew]
  refine t_pu (c3161 hr1 _) ?_
  rw [edition_in o1]
  refine gZ ?_
  refine t_cond (fun e => by cases e) (fun _ => ?_)
  refine t_pu (c3161 hr1 _) ?_
  rw [edition_in o2]
  refine gZ ?_
  refine t_cond (fun e => by cases e) (fun _ => ?_)
  refine t_pu (c3168 hr1 _ _) ?_
  rw [item_is.2 o1]
  refine gZ ?_
  refine t_cond (fun e => by cases e) (fun _ => ?_)
  refine t_pu (c3168 hr1 _ _) ?_
  rw [item_is.2 o2]
  refine gZ ?_
  refine t_cond (fun e => by cases e) (fun _ => ?_)
  refine t_lookupK und1251 inf4 hme (keyMv _ _ _) hkeys (fun e he hk => ?_) fun _ => ?_
  ·exfalso
   obtain ⟨a',x',hlt,hx',hk'⟩ := hseen e he
   rw [hk'] at hk
   have heq:[Value.int .i64 x'.ed,.int .i64 x'.src,.int .i64 x'.dst] = [.int .i64 x.ed,.int .i64 x.src,.int .i64 x.dst] := agg_inj.1 hk
   simp only [List.cons.injEq,Value.int.injEq,true_and,and_true] at heq
   exact ok.moveOnce a' i x' x hlt hx' hx heq
  simp only [Bool.false_eq_true,if_false]
  refine gZ ?_
  refine t_cond (fun e => by cases e) (fun _ => ?_)
  refine t_mapUpdateK und1251 hme (keyMv _ _ _) hkeys fun es3 c3 hes3 => ?_
  refine t_again (hY (f.n1 - (i + 1)) _ _ (by omega) ⟨le_updNew le1 hm,i + 1,es3,?_,by omega,rfl,⟨c3,Cells.upd_self _ _ _⟩,fun e he => ?_⟩)
  ·rw [wrap_id (by omega) (by omega)]; rfl
  ·rcases hes3 e he with ⟨hk,_⟩ | he'
   ·exact ⟨i,x,by omega,hx,hk⟩
   ·obtain ⟨a',x',hlt,hx',hk'⟩ := hseen e he'
    exact ⟨a',x',by omega,hx',hk'⟩
 ·refine gZ ?_
  exact t_ret ⟨le1,rfl⟩
def SeenK (t:GTab) (i:Nat) (e:MapEntry):Prop := ∃ (a:Nat) (x:GKn),a < i /\ t.kins[a]? = some x /\ e.key = .agg #[.int .i64 x.ed,.int .i64 x.one,.int .i64 x.two,.int .i64 0]
set_option maxRecDepth 10000 in
theorem c3182 {h:LH} {f:TabC} {t:GTab} (hr:TabR h.get f t) (ok:TabOk t):Gr Tryz.prog 186 #[tabV f] h fun r _ => r = .int .i64 0 := by
 refine w3182 _ _ _ _ _ _ _ _ _ X0_ok ?_
 unfold n3182
 have hn1 := hr.kins.1
 have hb1 := hr.kins.2.1
 have hmv := ok.kins
 refine t_if (fun e => by omega) (fun _ => ?_)
 refine t_makeMap fun m hm => ?_
 refine gZ ?_
 refine t_loop (fun mm vs h' => h.le h' /\ ∃ (i:Nat) (es:Array MapEntry),vs = [.int .i64 0,.int .i64 i] /\ i <= f.n2 /\ mm = f.n2 - i /\ MapAt h'.get m es /\ ∀ e ∈ es.toList,SeenK t i e)
  ⟨LH.upd_le hm,0,#[],rfl,Nat.zero_le _,rfl,⟨0,Cells.upd_self _ _ _⟩,fun e he => by simp at he⟩ ?_
 rintro Y mm vs h1 hY ⟨le1,i,es,rfl,hi,rfl,hme,hseen⟩
 refine gZ ?_
 refine t_if (fun e1 => ?_) (fun e1 => ?_)
 ·obtain ⟨x,a,hx,ha,g1,g2,g3,g4⟩ := hr.kins.at (i := i) (by omega)
  have hin:0 <= (i:Int) /\ (i:Int) < (f.n2:Int) := by omega
  have g1 := Cells.cell?_le le1.1 g1
  have g2 := Cells.cell?_le le1.1 g2
  have g3 := Cells.cell?_le le1.1 g3
  have g4 := Cells.cell?_le le1.1 g4
  obtain ⟨o1,o2,o3,o4,o5⟩ := ok.kin x (List.mem_of_getElem? hx)
  have hr1 := hr.le le1.1
  have hkeys:∀ e ∈ es.toList,FKey Tryz.prog 178 e.key := fun e he => by
   obtain ⟨a',x',_,_,hk⟩ := hseen e he
   rw [hk]; exact keyKn _ _ _ _
  refine gZ ?_
  refine t_blk (fun vs h' => vs = [.bool false] /\ h1 = h') ?_ ?_
  ·refine t_pu (c3161 hr1 _) ?_
   rw [edition_in o1]
   refine gZ ?_
   refine t_cond (fun e => by cases e) (fun _ => ?_)
   refine t_pu (c3168 hr1 _ _) ?_
   rw [item_is.2 o1]
   refine gZ ?_
   refine t_cond (fun e => by cases e) (fun _ => ?_)
   refine t_pu (c3168 hr1 _ _) ?_
   rw [item_is.2 o2]
   refine gZ ?_
   exact t_again ⟨rfl,rfl⟩
  rintro vs _ ⟨rfl,rfl⟩
  refine gZ ?_
  refine t_cond (fun e => by cases e) (fun _ => ?_)
  refine t_if (fun e => by omega) (fun _ => ?_)
  refine t_pu (c3183 _ _ _) ?_
  rw [in_iff.2 ⟨o4,o5⟩]
  refine gZ ?_
  refine t_cond (fun e => by cases e) (fun _ => ?_)
  refine t_lookupK und1252 inf4 hme (keyKn _ _ _ _) hkeys (fun e he hk => ?_) fun _ => ?_
  ·exfalso
   obtain ⟨a',x',hlt,hx',hk'⟩ := hseen e he
   rw [hk'] at hk
   have heq:[Value.int .i64 x'.ed,.int .i64 x'.one,.int .i64 x'.two,.int .i64 0] = [.int .i64 x.ed,.int .i64 x.one,.int .i64 x.two,.int .i64 0] := agg_inj.1 hk
   simp only [List.cons.injEq,Value.int.injEq,true_and,and_true] at heq
   exact ok.kinOnce a' i x' x hlt hx' hx heq
  simp only [Bool.false_eq_true,if_false]
  refine gZ ?_
  refine t_cond (fun e => by cases e) (fun _ => ?_)
  refine t_mapUpdateK und1252 hme (keyKn _ _ _ _) hkeys fun es3 c3 hes3 => ?_
  refine t_again (hY (f.n2 - (i + 1)) _ _ (by omega) ⟨le_updNew le1 hm,i + 1,es3,?_,by omega,rfl,⟨c3,Cells.upd_self _ _ _⟩,fun e he => ?_⟩)
  ·rw [wrap_id (by omega) (by omega)]; rfl
  ·rcases hes3 e he with ⟨hk,_⟩ | he'
   ·exact ⟨i,x,by omega,hx,hk⟩
   ·obtain ⟨a',x',hlt,hx',hk'⟩ := hseen e he'
    exact ⟨a',x',by omega,hx',hk'⟩
 ·refine gZ ?_
  exact t_ret ⟨le1,rfl⟩
set_option maxRecDepth 10000 in
theorem c3160 {h:LH} {f:TabC} {t:GTab} (hr:TabR h.get f t) (ok:TabOk t):Gr Tryz.prog 146 #[tabV f] h fun r _ => r = .int .i64 0 := by
 refine w3160 _ _ _ _ _ _ _ _ _ X0_ok ?_
 unfold n3160
 refine t_buildG und1215 inf157 (by decide) (by decide) (cells := #[.func (.func 184) #[tabV f] #[],.func (.func 185) #[tabV f] #[],.func (.func 186) #[tabV f] #[]]) (by kernel_rfl) fun r h1 le1 hr0 e1 => ?_
 refine gZ ?_
 refine t_loop (fun mm vs h' => h1.le h' /\ ∃ i:Nat,vs = [.int .i64 0,.int .i64 i] /\ i <= 3 /\ mm = 3 - i) ⟨LH.le_refl _,0,rfl,by omega,rfl⟩ ?_
 rintro Y mm vs h2 hY ⟨le2,i,rfl,hi,rfl⟩
 have le02 := LH.le_trans le1 le2
 have hr2 := hr.le le02.1
 refine gZ ?_
 refine t_if (fun e2 => ?_) (fun e2 => ?_)
 ·have hin:0 <= (i:Int) /\ (i:Int) < ((3:Nat):Int) := by omega
  have next:∀ h3:LH,h2.le h3 -> Y [.int .i64 0,.int .i64 (wrap .i64 ((i:Int) + 1))] h3 := fun h3 le3 => by
   refine hY (3 - (i + 1)) _ _ (by omega) ⟨LH.le_trans le2 le3,i + 1,?_,by omega,rfl⟩
   rw [wrap_id (by omega) (by omega)]; rfl
  have hcell:∀ v,(#[Value.func (.func 184) #[tabV f] #[],.func (.func 185) #[tabV f] #[],.func (.func 186) #[tabV f] #[]])[i]? = some v -> h2.get.cell? (Addr.add ⟨r,0,none⟩ (i * 1)) = some v := fun v hv => by
   refine Cells.cell?_le le2.1 ?_
   rw [add_plain,Nat.zero_add,Nat.mul_one]
   unfold Cells.cell?
   rw [e1]
   exact hv
  have run:∀ (fid:FuncId),Gr Tryz.prog fid #[tabV f] h2 (fun r _ => r = .int .i64 0) -> CV X0 Tryz.prog (.func (.func fid) #[tabV f] #[]) #[] h2 fun r h' => h2.le h' /\ r = .int .i64 0 := fun fid hg => cv_fw X0_ok (by rfl) hg
  match i,e2,hcell,run,next with
  | 0,_,hcell,run,next =>
   have hc := hcell _ rfl
   refine gZ ?_
   repeat ((first | refine t_loadStr (by assumption) ?_ | refine t_loadV (by assumption) ?_ | refine gL0 (by assumption) ?_); refine gZ ?_)
   refine t_callv (run _ (c3180 hr2 ok)) ?_
   rintro _ h3 ⟨le3,rfl⟩
   refine gZ ?_
   refine t_cond (fun e => by cases e) (fun _ => ?_)
   exact t_again (next h3 le3)
  | 1,_,hcell,run,next =>
   have hc := hcell _ rfl
   refine gZ ?_
   repeat ((first | refine t_loadStr (by assumption) ?_ | refine t_loadV (by assumption) ?_ | refine gL0 (by assumption) ?_); refine gZ ?_)
   refine t_callv (run _ (c3181 hr2 ok)) ?_
   rintro _ h3 ⟨le3,rfl⟩
   refine gZ ?_
   refine t_cond (fun e => by cases e) (fun _ => ?_)
   exact t_again (next h3 le3)
  | 2,_,hcell,run,next =>
   have hc := hcell _ rfl
   refine gZ ?_
   repeat ((first | refine t_loadStr (by assumption) ?_ | refine t_loadV (by assumption) ?_ | refine gL0 (by assumption) ?_); refine gZ ?_)
   refine t_callv (run _ (c3182 hr2 ok)) ?_
   rintro _ h3 ⟨le3,rfl⟩
   refine gZ ?_
   refine t_cond (fun e => by cases e) (fun _ => ?_)
   exact t_again (next h3 le3)
  | i + 3,e2,_,_,_ => omega
 ·refine gZ ?_
  exact t_ret ⟨le02,rfl⟩
end Go.Proofs.YtfkfohpnpljihaaGreatDoor
end
section
namespace Go.Proofs.YtfkfohpnpljihaaGreatDoor
open Go Go.TM Go.Proofs
attribute [local irreducible] T.wp CV FWK
theorem t_pushI {X:XP} {Q:Leaf -> LH -> Prop} {h h₀:LH} {k:Value -> T} {p:Option Addr} {n c:Nat} {l:List Int} {x:Int} (g:Growing IntEnc 3 1 h₀.get h.get p n c l) (hle:h₀.le h) (hn:n + 1 <= 2 ^ 30)
  (hk:∀ p' c' h',h₀.le h' -> Growing IntEnc 3 1 h₀.get h'.get p' (n + 1) c' (l ++ [x]) -> (k (.slice p' (n + 1) c')).wp X Tryz.prog Q h') :
  (T.sem false (Instr.buildSlice 30 1 #[(0,.int .i64 x)]) fun v => T.unS v fun a m c2 => T.sem false (Builtin.append_ #[30,30] 30 #[.slice p n c,.slice a m c2]) k).wp X Tryz.prog Q h := by
 refine t_build und50 inf3 (by decide) (by decide) (cells := #[.int .i64 x]) (by kernel_rfl) fun r hr => ?_
 have le2:h.le _ := LH.upd_le (x := (true,.cells #[.int .i64 x] 3 (0,0))) hr
 refine gG ?_
 refine t_grow (h₀ := h₀) (x := x) (ws := [.int .i64 x]) rfl rfl und50 und50 inf3 rfl (by omega) hn (g.le le2.1) (LH.le_trans hle le2) rfl rfl ?_ ?_ ?_
 ·intro j w hj
  rw [add_plain,Nat.zero_add]
  exact cell_upd (by simpa using hj)
 ·intro w hw; simp at hw; subst hw; rfl
 ·intro p' c' h₂ hle2 _ g2
  exact hk p' c' h₂ hle2 g2
end Go.Proofs.YtfkfohpnpljihaaGreatDoor
end
section
namespace Go.Proofs.YtfkfohpnpljihaaGreatDoor
open Go Go.TM Go.Proofs
set_option linter.unusedVariables false
set_option maxRecDepth 100000
variable {X:XP} {h:LH} {A:Value -> LH -> Prop}
noncomputable def n3133 (t_0p:Option Addr) (t_0n t_0c:Nat) (t_1p:Option Addr) (t_1n t_1c:Nat) (t_2p:Option Addr) (t_2n t_2c:Nat) (edition:Int) (listsp:Option Addr) (listsn listsc:Nat):T := .call false 146 #[.agg #[.slice t_0p t_0n t_0c,.slice t_1p t_1n t_1c,.slice t_2p t_2n t_2c]] fun v => .unI .i64 v fun n => bif n != 0 then .leaf (.ret (.tuple #[.agg #[.slice t_0p t_0n t_0c,.slice t_1p t_1n t_1c,.slice t_2p t_2n t_2c],.int .i64 n])) else .call false 147 #[.agg #[.slice t_0p t_0n t_0c,.slice t_1p t_1n t_1c,.slice t_2p t_2n t_2c],.int .i64 edition] fun v => .unB v fun b => bif !b then .leaf (.ret (.tuple #[.agg #[.slice t_0p t_0n t_0c,.slice t_1p t_1n t_1c,.slice t_2p t_2n t_2c],.int .i64 6])) else .loop [.int .i64 0,.int .i64 0,.slice none 0 0,.slice none 0 0,.slice none 0 0] (fun vs => .popI .i64 vs fun n vs => .popI .i64 vs fun n_1 vs => .popS vs fun a n_2 c vs => .popS vs fun a_1 n_3 c_1 vs => .popS vs fun a_2 n_4 c_2 vs => .unNil vs (bif decide (n_1 < (↑listsn:Int)) then .need (0 <= n_1 /\ n_1 < (↑listsn:Int)) (.someA listsp fun a_3 => .loadS (a_3.add (n_1.toNat * 1)) fun p n_5 c_3 => .call false 148 #[.agg #[.slice t_0p t_0n t_0c,.slice t_1p t_1n t_1c,.slice t_2p t_2n t_2c],.int .i64 edition,.slice p n_5 c_3] fun v => .unI .i64 v fun n_6 => bif n_6 != 0 then .leaf (.retn [.int .i64 n_6,.int .i64 n_1,.slice t_0p t_0n t_0c,.slice t_1p t_1n t_1c,.slice t_2p t_2n t_2c]) else .leaf (.again [.int .i64 n,.int .i64 (wrap .i64 (n_1 + 1)),.slice a n_2 c,.slice a_1 n_3 c_1,.slice a_2 n_4 c_2])) else .leaf (.brk [.int .i64 n,.int .i64 n_1,.slice a n_2 c,.slice a_1 n_3 c_1,.slice a_2 n_4 c_2]))) (fun vs => .popI .i64 vs fun n vs => .popI .i64 vs fun n vs => .popS vs fun a n c vs => .popS vs fun a n c vs => .popS vs fun a n c vs => .unNil vs (.leaf (.ret (.tuple #[.agg #[.slice t_0p t_0n t_0c,.slice t_1p t_1n t_1c,.slice t_2p t_2n t_2c],.int .i64 0])))) (fun vs => .popI .i64 vs fun n vs => .popI .i64 vs fun n_1 vs => .popS vs fun a n_2 c vs => .popS vs fun a_1 n_3 c_1 vs => .popS vs fun a_2 n_4 c_2 vs => .unNil vs (.leaf (.ret (.tuple #[.agg #[.slice a n_2 c,.slice a_1 n_3 c_1,.slice a_2 n_4 c_2],.int .i64 n])))) fun x x_1 => .fail
theorem w3133 (t_0p:Option Addr) (t_0n t_0c:Nat) (t_1p:Option Addr) (t_1n t_1c:Nat) (t_2p:Option Addr) (t_2n t_2c:Nat) (edition:Int) (listsp:Option Addr) (listsn listsc:Nat):FX X 111 #[.agg #[.slice t_0p t_0n t_0c,.slice t_1p t_1n t_1c,.slice t_2p t_2n t_2c],.int .i64 edition,.slice listsp listsn listsc] h A (n3133 t_0p t_0n t_0c t_1p t_1n t_1c t_2p t_2n t_2c edition listsp listsn listsc) := fk [3,6,8] [⟨0,[(7,.int .i64),(28,.int .i64),(28672,.slice),(28673,.slice),(28674,.slice)],[3,8],[],[],[]⟩] [] Tryz.f111
end Go.Proofs.YtfkfohpnpljihaaGreatDoor
end
section
namespace Go.TM
open Go Go.Conc
variable {P:Program} {X:XP} {Q:Leaf -> LH -> Prop}
structure Turn1 (r:Nat) (h h':LH):Prop where
 keep:∀ b,b ≠ r -> h'.get b = h.get b
 rest:h'.chans = h.chans /\ h'.pend = h.pend /\ h'.todo = h.todo
theorem Turn1.le {r:Nat} {h₀ h h':LH} (t:Turn1 r h h') (hl:h₀.le h) (hr:h₀.get r = none):h₀.le h' :=
 ⟨fun b y hb => by
  have:b ≠ r := by rintro rfl; rw [hr] at hb; cases hb
  rw [t.keep b this]; exact hl.1 b y hb,by rw [t.rest.1]; exact hl.2.1,by rw [t.rest.2.1]; exact hl.2.2.1,by rw [t.rest.2.2]; exact hl.2.2.2⟩
end Go.TM
namespace Go.Proofs.YtfkfohpnpljihaaGreatDoor
open Go Go.TM Go.Proofs
attribute [local irreducible] T.wp CV FWK
end Go.Proofs.YtfkfohpnpljihaaGreatDoor
end
section
namespace Go.TM
open Go Go.Conc Go.Proofs.YtfkfohpnpljihaaGreatDoor
structure ListOk (t:GTab) (e:Int) (l:List Int):Prop where
 item:∀ v ∈ l,itemB t e v
 up:l.Pairwise (· < ·)
theorem ListOk.in8 {t:GTab} {e:Int} {l:List Int} (ok:TabOk t) (o:ListOk t e l):∀ v ∈ l,0 <= v /\ v < 8 := fun v hv => by
 obtain ⟨_,_,h3,h4⟩ := o.item v hv
 have := ok.items8 e
 omega
theorem pair_at {l:List Int} (h:l.Pairwise (· < ·)) {i j:Nat} {x y:Int} (hij:i < j) (hx:l[i]? = some x) (hy:l[j]? = some y):x < y := by
 obtain ⟨hi,rfl⟩ := List.getElem?_eq_some_iff.1 hx
 obtain ⟨hj,rfl⟩ := List.getElem?_eq_some_iff.1 hy
 exact List.pairwise_iff_getElem.1 h i j hi hj hij
end Go.TM
namespace Go.Proofs.YtfkfohpnpljihaaGreatDoor
open Go Go.TM Go.Proofs
attribute [local irreducible] T.wp CV FWK
theorem c3136 {h:LH} {f:TabC} {t:GTab} (hr:TabR h.get f t) {e:Int} {p:Option Addr} {n c:Nat} {l:List Int} (hl:Sl IntE 1 h.get p n l) (o:ListOk t e l):Pu Tryz.prog 148 #[tabV f,.int .i64 e,.slice p n c] h (.int .i64 0) := by
 refine w3136 _ _ _ _ _ _ _ _ _ _ _ _ _ X0_ok ?_
 unfold n3136
 have hn := hl.1
 have hb := hl.2.1
 refine t_loop (fun mm vs h' => h = h' /\ ∃ i:Nat,vs = [.int .i64 0,.int .i64 i] /\ i <= n /\ mm = n - i) ⟨rfl,0,rfl,Nat.zero_le _,rfl⟩ ?_
 rintro Y mm vs _ hY ⟨rfl,i,rfl,hi,rfl⟩
 have next:Y [.int .i64 0,.int .i64 (wrap .i64 ((i:Int) + 1))] h \/ n <= i := by
  by_cases e:i < n
  ·refine .inl (hY (n - (i + 1)) _ _ (by omega) ⟨rfl,i + 1,?_,by omega,rfl⟩)
   rw [wrap_id (by omega) (by omega)]; rfl
  ·exact .inr (by omega)
 refine gZ ?_
 refine t_if (fun e1 => ?_) (fun e1 => ?_)
 ·obtain ⟨x,a,hx,ha,e2⟩ := hl.at (i := i) (by omega)
  unfold IntE at e2
  have hin:0 <= (i:Int) /\ (i:Int) < (n:Int) := by omega
  have nxt := next.resolve_right (by omega)
  refine gZ ?_
  refine t_pu (c3168 hr _ _) ?_
  rw [item_is.2 (o.item x (List.mem_of_getElem? hx))]
  refine gZ ?_
  refine t_cond (fun e => by cases e) (fun _ => ?_)
  refine t_if (fun e3 => ?_) (fun e3 => ?_)
  ·obtain ⟨y,a',hy,ha',e4⟩ := hl.at (i := i - 1) (by omega)
   obtain rfl:a = a' := Option.some.inj (ha.symm.trans ha')
   unfold IntE at e4
   have hlt := pair_at o.up (by omega:i - 1 < i) hy hx
   have ew:wrap .i64 ((i:Int) - 1) = ((i - 1:Nat):Int) := by rw [wrap_id (by omega) (by omega)]; omega
   have hin1:0 <= ((i - 1:Nat):Int) /\ ((i - 1:Nat):Int) < (n:Int) := by omega
   rw [ew]
   refine gZ ?_
   refine t_if (fun e => by omega) (fun _ => ?_)
   exact t_again nxt
  ·exact t_again nxt
 ·refine gZ ?_
  exact t_ret ⟨rfl,rfl⟩
end Go.Proofs.YtfkfohpnpljihaaGreatDoor
end
section
namespace Go.TM
open Go Go.Conc
section
variable {P:Program} {X:XP} {Q:Leaf -> LH -> Prop}
theorem t_sliceLow {h:LH} {K:Value -> T} {t el:TypeId} {s b:Nat} {z:Option Value} {p:Option Addr} {n c i:Nat} (hu:P.underlying t = some (.slice el)) (hi:(P.info? el).map (fun i => (i.size,i.bytes,i.zero)) = some (s,b,z)) (hin:i <= n)
  (hk:(K (.slice (if c = i then p else p.map (·.add (i * s))) (n - i) (c - i))).wp X P Q h):(T.sem false (Instr.sliceAt t (.slice p n c) (some (.int .i64 (i:Int))) none none) K).wp X P Q h := by
 obtain ⟨inf,g1,g2,_,_⟩ := info_of hi
 refine t_sem (A := fun v h' => v = .slice (if c = i then p else p.map (·.add (i * s))) (n - i) (c - i) /\ h' = h.get) ?_ (by rintro v h' ⟨rfl,rfl⟩; exact hk)
 unfold Instr.sliceAt
 simp only [lwp_bind,lwp_underlying hu]
 unfold Instr.slice
 simp only [lwp_bind,lwp_underlying hu]
 unfold Instr.sliceBounds Instr.sliceBound
 simp only [lwp_bind,lwp_pure,asIntOf,asInt]
 rw [if_pos (show 0 <= (i:Int) /\ (i:Int) <= (n:Int) by omega)]
 simp only [lwp_pure,lwp_sizeOf g1,Int.toNat_natCast,g2]
 exact ⟨trivial,trivial⟩
end
theorem Sl.drop {α:Type} {E:Cells -> Addr -> α -> Prop} {k:Nat} {h:Cells} {p:Option Addr} {n:Nat} {l:List α} (s:Sl E k h p n l) {c i:Nat} (hc:n <= c):Sl E k h (if c = i then p else p.map (·.add (i * k))) (n - i) (l.drop i) := by
 refine ⟨by rw [List.length_drop,s.1],by rw [List.length_drop]; have := s.2.1; omega,fun j x hx => ?_⟩
 rw [List.getElem?_drop] at hx
 have hlt := (List.getElem?_eq_some_iff.1 hx).1
 have hn := s.1
 obtain ⟨a,ha,hE⟩ := s.2.2 _ x hx
 rw [if_neg (by omega),ha]
 refine ⟨a.add (i * k),rfl,?_⟩
 rw [Addr.add_add',<- Nat.add_mul]; exact hE
section
variable {P:Program} {X:XP} {Q:Leaf -> LH -> Prop}
end
end Go.TM
end
section
namespace Go.Proofs.YtfkfohpnpljihaaGreatDoor
open Go Go.TM Go.Proofs
attribute [local irreducible] T.wp CV FWK
theorem t_sliceHigh {P:Program} {X:XP} {Q:Leaf -> LH -> Prop} {h:LH} {K:Value -> T} {t el:TypeId} {s b:Nat} {z:Option Value} {p:Option Addr} {n c i:Nat} (hu:P.underlying t = some (.slice el)) (hi:(P.info? el).map (fun i => (i.size,i.bytes,i.zero)) = some (s,b,z)) (hin:i <= c)
  (hk:(K (.slice p i c)).wp X P Q h):(T.sem false (Instr.sliceAt t (.slice p n c) none (some (.int .i64 (i:Int))) none) K).wp X P Q h := by
 obtain ⟨inf,g1,g2,_,_⟩ := info_of hi
 refine t_sem (A := fun v h' => v = .slice p i c /\ h' = h.get) ?_ (by rintro v h' ⟨rfl,rfl⟩; exact hk)
 unfold Instr.sliceAt
 simp only [lwp_bind,lwp_underlying hu]
 unfold Instr.slice
 simp only [lwp_bind,lwp_underlying hu]
 unfold Instr.sliceBounds Instr.sliceBound
 simp only [lwp_bind,lwp_pure,asIntOf]
 rw [if_pos (show 0 <= (i:Int) /\ (i:Int) <= (c:Int) by omega)]
 simp only [lwp_pure,lwp_sizeOf g1,Int.toNat_natCast,g2,Nat.zero_mul,Nat.sub_zero]
 have e:(p.map fun x:Addr => x.add 0) = p := by cases p <;> simp [Addr.add]
 rw [e]
 simp
end Go.Proofs.YtfkfohpnpljihaaGreatDoor
end
section
namespace Go.TM
open Go Go.Conc
section
variable {P:Program} {X:XP} {Q:Leaf -> LH -> Prop}
theorem zeroCells_int (n:Nat):(Builtin.zeroCells #[Value.int .i64 0] n).toList = List.replicate n (.int .i64 0) := by
 unfold Builtin.zeroCells
 refine List.ext_getElem? fun i => ?_
 simp only [Array.toList_map,Array.toList_range,List.getElem?_map,List.getElem?_replicate]
 by_cases h:i < n
 ·rw [List.getElem?_range (by simpa using h),if_pos h]
  simp [Nat.mod_one]
 ·rw [List.getElem?_eq_none (by simp; omega),if_neg h]; rfl
theorem t_clear {h:LH} {K:Value -> T} {t el eb ty:TypeId} {b r o n c:Nat} {cs:Array Value} (hu:P.underlying t = some (.slice el)) (hi:(P.info? el).map (fun i => (i.size,i.bytes,i.zero)) = some (1,b,some (.int .i64 0))) (hr:h.get r = some (true,.cells cs eb (0,0))) (ho:o + n <= cs.size)
  (hk:∀ h',Turn1 r h h' -> h'.get r = some (true,.cells (setMany cs o (List.replicate n (.int .i64 0))) eb (0,0)) -> (K (.tuple #[])).wp X P Q h'):(T.sem false (Builtin.clear_ #[t] ty #[.slice (some ⟨r,o,none⟩) n c]) K).wp X P Q h := by
 obtain ⟨inf,g1,g2,g3,g4⟩ := info_of hi
 refine t_sem (A := fun v h' => v = .tuple #[] /\ h' = h.get.upd r (true,.cells (setMany cs o (List.replicate n (.int .i64 0))) eb (0,0))) ?_ (by
  rintro v h' ⟨rfl,rfl⟩
  refine hk _ ⟨fun b' hb => ?_,rfl,rfl,rfl⟩ (Cells.upd_self _ _ _)
  show h.get.upd r _ b' = _
  rw [Cells.upd_ne _ _ hb])
 unfold Builtin.clear_
 match n,ho with
 | 0,_ =>
  have e:h.get.upd r (true,.cells cs eb (0,0)) = h.get := by
   funext b'
   by_cases hb:b' = r
   ·subst hb; rw [Cells.upd_self,hr]
   ·rw [Cells.upd_ne _ _ hb]
  show Sem.lwp P (underlying t >>= _) _ _ _
  rw [lwp_bind,lwp_underlying hu]
  show Sem.lwp P (pure (Value.tuple #[])) _ _ _
  rw [lwp_pure]
  exact ⟨rfl,e.symm⟩
 | n + 1,ho =>
  show Sem.lwp P (underlying t >>= _) _ _ _
  rw [lwp_bind,lwp_underlying hu]
  show Sem.lwp P (zeroValue el >>= _) _ _ _
  rw [lwp_bind,lwp_zeroValue g1 g4]
  rw [show Value.cells (.int .i64 0) = #[.int .i64 0] from rfl,zeroCells_int,lwp_bind]
  refine lwp_storeCells _ 0 _ r o cs eb hr (by rw [List.length_replicate]; omega) (fun v hv => ?_) ⟨rfl,rfl⟩
  rw [List.eq_of_mem_replicate hv]; rfl
end
theorem t_storeC {P:Program} {X:XP} {Q:Leaf -> LH -> Prop} {h:LH} {r j:Nat} {el:TypeId} {cs:Array Value} {a:Addr} {v:Value} {k:T} (ha:a = ⟨r,j,none⟩) (hr:h.get r = some (true,.cells cs el (0,0))) (hj:j < cs.size) (one:isOne v = true)
  (hk:∀ h',Turn1 r h h' -> h'.get r = some (true,.cells (cs.setIfInBounds j v) el (0,0)) -> k.wp X P Q h'):(T.store a v k).wp X P Q h := by
 subst ha
 refine t_store (v₀ := cs[j]) one ⟨_,hr⟩ ?_ (by simp [Cells.frozen?,hr]) ?_
 ·unfold Cells.cell?
  simp [hr,hj]
 ·have hset:h.get.setCell ⟨r,j,none⟩ v = h.get.upd r (true,.cells (cs.setIfInBounds j v) el (0,0)) := by
   funext b
   unfold Cells.setCell Cells.upd
   by_cases e:b = r
   ·subst e; simp [hr]
   ·simp [e]
  rw [hset]
  exact hk _ ⟨fun b hb => Cells.upd_ne _ _ hb,rfl,rfl,rfl⟩ (Cells.upd_self _ _ _)
def Keeps (p:Option Addr) (h h':LH):Prop := (∀ b,(∀ a,p = some a -> a.block ≠ b) -> h'.get b = h.get b) /\ h'.chans = h.chans /\ h'.pend = h.pend /\ h'.todo = h.todo
theorem Keeps.refl (p:Option Addr) (h:LH):Keeps p h h := ⟨fun _ _ => rfl,rfl,rfl,rfl⟩
theorem Turn1.refl (r:Nat) (h:LH):Turn1 r h h := ⟨fun _ _ => rfl,rfl,rfl,rfl⟩
theorem Turn1.trans {r:Nat} {h h' h'':LH} (a:Turn1 r h h') (b:Turn1 r h' h''):Turn1 r h h'' :=
 ⟨fun x hx => (b.keep x hx).trans (a.keep x hx),b.rest.1.trans a.rest.1,b.rest.2.1.trans a.rest.2.1,b.rest.2.2.trans a.rest.2.2⟩
theorem Turn1.keeps {r:Nat} {h h':LH} (t:Turn1 r h h'):Keeps (some ⟨r,0,none⟩) h h' := ⟨fun b hb => t.keep b fun e => hb _ rfl e.symm,t.rest⟩
theorem Keeps.le {p:Option Addr} {h₀ h h':LH} (k:Keeps p h h') (hl:h₀.le h) (hn:NewIn h₀.get p):h₀.le h' :=
 ⟨fun b y hb => by
  rw [k.1 b fun a ha e => by have := hn a ha; rw [e,hb] at this; cases this]
  exact hl.1 b y hb,by rw [k.2.1]; exact hl.2.1,by rw [k.2.2.1]; exact hl.2.2.1,by rw [k.2.2.2]; exact hl.2.2.2⟩
theorem filter_take {α:Type} {f:α -> Bool} {l:List α} {j:Nat} {x:α} (h:l[j]? = some x):(l.take (j + 1)).filter f = (l.take j).filter f ++ (if f x then [x] else []) := by
 rw [List.take_add_one,h,List.filter_append]
 congr 1
 simp only [Option.toList_some,List.filter_cons,List.filter_nil]
end Go.TM
namespace Go.Proofs.YtfkfohpnpljihaaGreatDoor
open Go Go.TM Go.Proofs
attribute [local irreducible] T.wp CV FWK
end Go.Proofs.YtfkfohpnpljihaaGreatDoor
end
section
namespace Go.TM
open Go Go.Conc
def LstE (h:Cells) (a:Addr) (l:List Int):Prop := ∃ q n c,h.cell? a = some (.slice q n c) /\ Sl IntE 1 h q n l
theorem LstE.grow:Grow LstE := fun _ _ _ _ hl ⟨q,n,c,h1,h2⟩ => ⟨q,n,c,hl _ _ h1,h2.rd IntE.grow hl⟩
theorem sorted_len:∀ (l:List Int) (k:Int),l.Pairwise (· < ·) -> (∀ v ∈ l,k <= v /\ v < 8) -> (l.length:Int) <= max 0 (8 - k) := by
 intro l
 induction l with
 | nil => intro k _ _; simp; omega
 | cons x l ih =>
  intro k hp hv
  obtain ⟨h1,h2⟩ := List.pairwise_cons.1 hp
  have hx := hv x (by simp)
  have := ih (x + 1) h2 fun v hm => ⟨by have := h1 v hm; omega,(hv v (by simp [hm])).2⟩
  simp only [List.length_cons]
  omega
theorem ListOk.len8 {t:GTab} {e:Int} {l:List Int} (ok:TabOk t) (o:ListOk t e l):l.length <= 8 := by
 have := sorted_len l 0 o.up (o.in8 ok)
 omega
theorem sl_two {h:Cells} {r:Nat} {m:Bool} {el:TypeId} {p q:Option Addr} {n c k d:Nat} {a b:List Int} (hr:h r = some (m,.cells #[.slice p n c,.slice q k d] el (0,0))) (ha:Sl IntE 1 h p n a) (hb:Sl IntE 1 h q k b):Sl LstE 1 h (some ⟨r,0,none⟩) 2 [a,b] := by
 refine ⟨rfl,by simp,fun i x hx => ⟨_,rfl,?_⟩⟩
 match i,hx with
 | 0,hx => cases hx; exact ⟨p,n,c,by rw [add_plain]; unfold Cells.cell?; rw [hr]; rfl,ha⟩
 | 1,hx => cases hx; exact ⟨q,k,d,by rw [add_plain]; unfold Cells.cell?; rw [hr]; rfl,hb⟩
end Go.TM
namespace Go.Proofs.YtfkfohpnpljihaaGreatDoor
open Go Go.TM Go.Proofs
attribute [local irreducible] T.wp CV FWK
theorem infL:(Tryz.prog.info? 30).map (fun i => (i.size,i.bytes,i.zero)) = some (1,24,some (.slice none 0 0)) := by kernel_rfl
theorem c3133 {h:LH} {f:TabC} {t:GTab} (hr:TabR h.get f t) (ok:TabOk t) {e:Int} (he:0 <= e /\ e < (t.eds.length:Int)) {p:Option Addr} {n c:Nat} {ls:List (List Int)} (hl:Sl LstE 1 h.get p n ls) (ho:∀ l ∈ ls,ListOk t e l) :
  Gr Tryz.prog 111 #[tabV f,.int .i64 e,.slice p n c] h fun r _ => r = .tuple #[tabV f,.int .i64 0] := by
 refine w3133 _ _ _ _ _ _ _ _ _ _ _ _ _ X0_ok ?_
 unfold n3133
 refine t_gr (c3160 hr ok) ?_
 rintro _ h1 le1 rfl
 have hr1 := hr.le le1.1
 have hl1 := hl.le LstE.grow le1.1
 have hn := hl1.1
 have hb := hl1.2.1
 refine gZ ?_
 refine t_cond (fun e => by cases e) (fun _ => ?_)
 refine t_pu (c3161 hr1 _) ?_
 rw [in_iff.2 (show 0 <= e /\ e <= (t.eds.length:Int) - 1 by omega)]
 refine gZ ?_
 refine t_cond (fun e => by cases e) (fun _ => ?_)
 refine t_loop (fun mm vs h' => h' = h1 /\ ∃ i:Nat,vs = [.int .i64 0,.int .i64 i,.slice none 0 0,.slice none 0 0,.slice none 0 0] /\ i <= n /\ mm = n - i) ⟨rfl,0,rfl,Nat.zero_le _,rfl⟩ ?_
 rintro Y mm vs _ hY ⟨rfl,i,rfl,hi,rfl⟩
 refine gZ ?_
 refine t_if (fun e1 => ?_) (fun e1 => ?_)
 ·obtain ⟨l,a,hx,ha,q,k,d,e2,e3⟩ := hl1.at (i := i) (by omega)
  have hin:0 <= (i:Int) /\ (i:Int) < (n:Int) := by omega
  refine gZ ?_
  refine t_pu (c3136 hr1 e3 (ho l (List.mem_of_getElem? hx))) ?_
  refine gZ ?_
  refine t_cond (fun e => by cases e) (fun _ => ?_)
  refine t_again (hY (n - (i + 1)) _ _ (by omega) ⟨rfl,i + 1,?_,by omega,rfl⟩)
  rw [wrap_id (by omega) (by omega)]; rfl
 ·refine gZ ?_
  exact t_ret ⟨le1,rfl⟩
end Go.Proofs.YtfkfohpnpljihaaGreatDoor
end
section
namespace Go.TM.Ma
abbrev Ed := List (Int × Int)
theorem nodup_le {α:Type} [DecidableEq α]:∀ {a b:List α},a.Nodup -> (∀ x ∈ a,x ∈ b) -> a.length <= b.length
 | [],b,_,_ => Nat.zero_le _
 | x :: a,b,h,hs => by
  have hn := List.nodup_cons.1 h
  have hx := hs x (by simp)
  have := nodup_le (a := a) (b := b.erase x) hn.2 fun y hy => by
   have hne:y ≠ x := by rintro rfl; exact hn.1 hy
   exact (List.mem_erase_of_ne hne).2 (hs y (by simp [hy]))
  rw [List.length_erase_of_mem hx] at this
  have hp:0 < b.length := List.length_pos_of_mem hx
  simp only [List.length_cons]
  omega
theorem split_len {α:Type} (f:α -> Bool):∀ l:List α,l.length = (l.filter f).length + (l.filter fun x => !f x).length
 | [] => rfl
 | x :: l => by
  have := split_len f l
  cases h:f x <;> simp [h] <;> omega
theorem nodup_map_filter {l:Ed} {g:Int × Int -> Int} (f:Int × Int -> Bool) (h:(l.map g).Nodup):((l.filter f).map g).Nodup :=
 List.Nodup.sublist ((List.filter_sublist (l := l) (p := f)).map g) h
def Mat (G:Ed) (n:Nat):Prop := ∃ M:Ed,M.length = n /\ (∀ p ∈ M,p ∈ G) /\ (M.map (·.1)).Nodup /\ (M.map (·.2)).Nodup
def Cov (G:Ed) (n:Nat):Prop := ∃ L R:List Int,L.length + R.length <= n /\ ∀ p ∈ G,p.1 ∈ L \/ p.2 ∈ R
theorem weakL {M:Ed} {L R:List Int} (h1:(M.map (·.1)).Nodup) (h2:(M.map (·.2)).Nodup) (hc:∀ p ∈ M,p.1 ∈ L \/ p.2 ∈ R):M.length <= L.length + R.length := by
 have e := split_len (fun p:Int × Int => decide (p.1 ∈ L)) M
 have a := nodup_le (b := L) (nodup_map_filter (fun p => decide (p.1 ∈ L)) h1) fun x hx => by
  obtain ⟨p,hp,rfl⟩ := List.mem_map.1 hx
  exact of_decide_eq_true (List.mem_filter.1 hp).2
 have b := nodup_le (b := R) (nodup_map_filter (fun p => !decide (p.1 ∈ L)) h2) fun x hx => by
  obtain ⟨p,hp,rfl⟩ := List.mem_map.1 hx
  obtain ⟨g1,g2⟩ := List.mem_filter.1 hp
  simp only [Bool.not_eq_true',decide_eq_false_iff_not] at g2
  exact (hc p g1).resolve_left g2
 rw [List.length_map] at a b
 omega
theorem weak {G:Ed} {n m:Nat}:Mat G n -> Cov G m -> n <= m := by
 rintro ⟨M,rfl,h0,h1,h2⟩ ⟨L,R,h3,h4⟩
 exact Nat.le_trans (weakL h1 h2 fun p hp => h4 p (h0 p hp)) h3
theorem Mat.sub {G G':Ed} {n:Nat} (h:∀ p ∈ G,p ∈ G'):Mat G n -> Mat G' n := by
 rintro ⟨M,h0,h1,h2⟩; exact ⟨M,h0,fun p hp => h p (h1 p hp),h2⟩
theorem mono {G G':Ed} {n m:Nat} (h:∀ p ∈ G,p ∈ G') (a:Mat G n) (b:Cov G' m):n <= m := weak (a.sub h) b
theorem Mat.less {G:Ed} {n m:Nat} (h:m <= n):Mat G n -> Mat G m := by
 rintro ⟨M,rfl,h0,h1,h2⟩
 exact ⟨M.take m,by rw [List.length_take]; omega,fun p hp => h0 p (List.mem_of_mem_take hp),List.Nodup.sublist ((List.take_sublist m M).map _) h1,List.Nodup.sublist ((List.take_sublist m M).map _) h2⟩
theorem Mat.len {G:Ed} {n:Nat}:Mat G n -> n <= G.length := by
 rintro ⟨M,rfl,h0,h1,h2⟩
 have := nodup_le (b := G.map (·.1)) h1 fun x hx => by
  obtain ⟨p,hp,rfl⟩ := List.mem_map.1 hx
  exact List.mem_map.2 ⟨p,h0 p hp,rfl⟩
 simpa using this
theorem Mat.pop {G:Ed} {n:Nat} (h:Mat G (n + 1)):∃ (i:Nat) (p:Int × Int),G[i]? = some p /\ Mat ((G.drop (i + 1)).filter fun q => !(q.1 == p.1 || q.2 == p.2)) n := by
 obtain ⟨M,hn,h0,h1,h2⟩ := h
 have key:∀ (G:Ed),(∃ p ∈ M,p ∈ G) -> ∃ (i:Nat) (p:Int × Int),G[i]? = some p /\ p ∈ M /\ ∀ q ∈ M,q ∈ G -> q = p \/ q ∈ G.drop (i + 1) := by
  intro G
  induction G with
  | nil => rintro ⟨p,_,hp⟩; simp at hp
  | cons x G ih =>
   intro hx
   by_cases e:x ∈ M
   ·exact ⟨0,x,rfl,e,fun q _ hg => by
     rcases List.mem_cons.1 hg with g | g
     ·exact .inl g
     ·exact .inr (by simpa using g)⟩
   ·obtain ⟨p,hp,hg⟩ := hx
    have hg':p ∈ G := by
     rcases List.mem_cons.1 hg with g | g
     ·exact absurd (g ▸ hp) e
     ·exact g
    obtain ⟨i,p',a,b,c⟩ := ih ⟨p,hp,hg'⟩
    refine ⟨i + 1,p',by simpa using a,b,fun q hq hqg => ?_⟩
    rcases List.mem_cons.1 hqg with g | g
    ·exact absurd (g ▸ hq) e
    ·rcases c q hq g with g | g
     ·exact .inl g
     ·exact .inr (by simpa using g)
 cases hM:M with
 | nil => rw [hM] at hn; cases hn
 | cons p0 M0 =>
  obtain ⟨i,p,hi,hp,hr⟩ := key G ⟨p0,by rw [hM]; simp,h0 p0 (by rw [hM]; simp)⟩
  refine ⟨i,p,hi,M.erase p,?_,fun q hq => ?_,?_,?_⟩
  ·rw [List.length_erase_of_mem hp,hn]; rfl
  ·have hM' := List.mem_of_mem_erase hq
   have hnd:M.Nodup := by
    rw [List.nodup_iff_pairwise_ne] at h1 ⊢
    rw [List.pairwise_map] at h1
    exact h1.imp fun h e => h (by rw [e])
   have hne:q ≠ p := fun e => by
    subst e
    exact (List.Nodup.not_mem_erase hnd) hq
   have ne1:q.1 ≠ p.1 := fun e => hne (by
    have := (List.nodup_iff_pairwise_ne.1 h1)
    rw [List.pairwise_map] at this
    exact Classical.byContradiction fun hc => by
     rcases List.mem_iff_getElem.1 hM' with ⟨a,ha,ea⟩
     rcases List.mem_iff_getElem.1 hp with ⟨b,hb,eb⟩
     have hp := List.pairwise_iff_getElem.1 this
     rcases Nat.lt_trichotomy a b with g | g | g
     ·exact hp a b ha hb g (by rw [ea,eb]; exact e)
     ·subst g; exact hc (ea.symm.trans eb)
     ·exact hp b a hb ha g (by rw [ea,eb]; exact e.symm))
   have ne2:q.2 ≠ p.2 := fun e => hne (by
    have := (List.nodup_iff_pairwise_ne.1 h2)
    rw [List.pairwise_map] at this
    exact Classical.byContradiction fun hc => by
     rcases List.mem_iff_getElem.1 hM' with ⟨a,ha,ea⟩
     rcases List.mem_iff_getElem.1 hp with ⟨b,hb,eb⟩
     have hp := List.pairwise_iff_getElem.1 this
     rcases Nat.lt_trichotomy a b with g | g | g
     ·exact hp a b ha hb g (by rw [ea,eb]; exact e)
     ·subst g; exact hc (ea.symm.trans eb)
     ·exact hp b a hb ha g (by rw [ea,eb]; exact e.symm))
   refine List.mem_filter.2 ⟨(hr q hM' (h0 q hM')).resolve_left hne,?_⟩
   simp [ne1,ne2]
  ·exact List.Nodup.sublist (List.erase_sublist.map _) h1
  ·exact List.Nodup.sublist (List.erase_sublist.map _) h2
/-! ### The search along a path -/
abbrev Ow := Int -> Option Int
abbrev Sn := Int -> Bool
def setO (ow:Ow) (y x:Int):Ow := fun z => if z = y then some x else ow z
def setS (sn:Sn) (y:Int):Sn := fun z => if z = y then true else sn z
theorem setS_up {sn:Sn} {y z:Int} (h:sn y = true):setS sn z y = true := by
 unfold setS
 split
 ·rfl
 ·exact h
def InjOn (sn:Sn) (ow:Ow):Prop := ∀ y y' x,sn y = false -> sn y' = false -> ow y = some x -> ow y' = some x -> y = y'
structure Srch (G:Ed) (x:Int) (ow:Ow) (sn:Sn) (ow':Ow) (sn':Sn) (b:Bool):Prop where
 grow:∀ y,sn y = true -> sn' y = true
 keep:∀ y,sn y = true -> ow' y = ow y
 fail:b = false -> ow' = ow /\ (∀ p ∈ G,p.1 = x -> sn' p.2 = true) /\ ∀ y,sn' y = true -> sn y = false -> ∃ o,ow y = some o /\ ∀ p ∈ G,p.1 = o -> sn' p.2 = true
 valid:b = true -> ∀ y z,ow' y = some z -> ow y = some z \/ (z,y) ∈ G
 inj:b = true -> InjOn sn ow -> (∀ y,sn y = false -> ow y ≠ some x) -> InjOn sn ow' /\ ∀ z,(∃ y,sn y = false /\ ow' y = some z) ↔ (z = x \/ ∃ y,sn y = false /\ ow y = some z)
structure Half (G:Ed) (x:Int) (ow:Ow) (sn:Sn) (k:Nat) (sk:Sn):Prop where
 grow:∀ y,sn y = true -> sk y = true
 near:∀ p ∈ G.take k,p.1 = x -> sk p.2 = true
 closed:∀ y,sk y = true -> sn y = false -> ∃ o,ow y = some o /\ ∀ p ∈ G,p.1 = o -> sk p.2 = true
variable {G:Ed} {x:Int} {ow ow2:Ow} {sn sk sk2:Sn} {k:Nat} {p:Int × Int} {o:Int}
theorem Half.start:Half G x ow sn 0 sn := ⟨fun _ h => h,fun p hp => by simp at hp,fun y h h' => by rw [h] at h'; cases h'⟩
theorem take_succ (hp:G[k]? = some p):∀ q ∈ G.take (k + 1),q ∈ G.take k \/ q = p := fun q hq => by
 rw [List.take_add_one,hp] at hq
 simpa using hq
theorem Half.skip (h:Half G x ow sn k sk) (hp:G[k]? = some p) (hs:p.1 = x -> sk p.2 = true):Half G x ow sn (k + 1) sk :=
 ⟨h.grow,fun q hq e => by
  rcases take_succ hp q hq with g | rfl
  ·exact h.near q g e
  ·exact hs e,h.closed⟩
theorem Half.stop (h:Half G x ow sn G.length sk):Srch G x ow sn ow sk false :=
 ⟨h.grow,fun _ _ => rfl,fun _ => ⟨rfl,fun q hq e => h.near q (by rw [List.take_length]; exact hq) e,h.closed⟩,(fun e => by cases e),fun e => by cases e⟩
theorem Half.miss (h:Half G x ow sn k sk) (hp:G[k]? = some p) (hs:sk p.2 = false) (ho:ow p.2 = some o) (r:Srch G o ow (setS sk p.2) ow2 sk2 false):ow2 = ow /\ Half G x ow sn (k + 1) sk2 := by
 obtain ⟨e,f1,f2⟩ := r.fail rfl
 have up:∀ y,sk y = true -> sk2 y = true := fun y hy => r.grow y (setS_up hy)
 have at_:sk2 p.2 = true := r.grow _ (by simp [setS])
 refine ⟨e,fun y hy => up y (h.grow y hy),fun q hq e => ?_,fun y h1 h2 => ?_⟩
 ·rcases take_succ hp q hq with g | rfl
  ·exact up _ (h.near q g e)
  ·exact at_
 ·by_cases hy:sk y = true
  ·obtain ⟨o',a,b⟩ := h.closed y hy h2
   exact ⟨o',a,fun q hq e => up _ (b q hq e)⟩
  ·by_cases e:y = p.2
   ·subst e; exact ⟨o,ho,f1⟩
   ·refine f2 y h1 ?_
    simp only [setS,if_neg e]
    simpa using hy
theorem Half.free (h:Half G x ow sn k sk) (hp:G[k]? = some p) (hx:p.1 = x) (hs:sk p.2 = false) (ho:ow p.2 = none):Srch G x ow sn (setO ow p.2 x) (setS sk p.2) true := by
 have hsn:sn p.2 = false := by
  cases e:sn p.2 with
  | false => rfl
  | true => rw [h.grow _ e] at hs; cases hs
 refine ⟨fun y hy => ?_,fun y hy => ?_,(fun e => by cases e),fun _ y z hz => ?_,fun _ hi hnx => ⟨fun y y' z h1 h2 h3 h4 => ?_,fun z => ⟨?_,?_⟩⟩⟩
 ·exact setS_up (h.grow y hy)
 ·unfold setO
  rw [if_neg]
  rintro rfl
  rw [hy] at hsn; cases hsn
 ·unfold setO at hz
  split at hz
  ·rename_i e; subst e; cases hz
   exact .inr (by rw [<- hx]; exact List.mem_of_getElem? hp)
  ·exact .inl hz
 ·unfold setO at h3 h4
  split at h3 <;> split at h4
  ·rename_i a b; exact a.trans b.symm
  ·cases h3; exact absurd h4 (hnx y' h2)
  ·cases h4; exact absurd h3 (hnx y h1)
  ·exact hi y y' z h1 h2 h3 h4
 ·rintro ⟨y,h1,h2⟩
  unfold setO at h2
  split at h2
  ·cases h2; exact .inl rfl
  ·exact .inr ⟨y,h1,h2⟩
 ·rintro (rfl | ⟨y,h1,h2⟩)
  ·exact ⟨p.2,hsn,by simp [setO]⟩
  ·refine ⟨y,h1,?_⟩
   unfold setO
   rw [if_neg]
   ·exact h2
   ·rintro rfl; rw [ho] at h2; cases h2
theorem Half.take (h:Half G x ow sn k sk) (hp:G[k]? = some p) (hx:p.1 = x) (hs:sk p.2 = false) (ho:ow p.2 = some o) (r:Srch G o ow (setS sk p.2) ow2 sk2 true):Srch G x ow sn (setO ow2 p.2 x) sk2 true := by
 have hsn:sn p.2 = false := by
  cases e:sn p.2 with
  | false => rfl
  | true => rw [h.grow _ e] at hs; cases hs
 have up:∀ y,sk y = true -> sk2 y = true := fun y hy => r.grow y (setS_up hy)
 have keep:∀ y,sk y = true -> ow2 y = ow y := fun y hy => r.keep y (setS_up hy)
 have snk:∀ {y},sk y = false -> sn y = false := fun {y} hy => by
  cases e:sn y with
  | false => rfl
  | true => rw [h.grow _ e] at hy; cases hy
 have s1:∀ {y},y ≠ p.2 -> setS sk p.2 y = sk y := fun {y} e => by unfold setS; rw [if_neg e]
 have f1:∀ {y},setS sk p.2 y = false -> y ≠ p.2 /\ sk y = false := fun {y} e => by
  unfold setS at e
  split at e
  ·cases e
  ·exact ⟨by assumption,e⟩
 refine ⟨fun y hy => up y (h.grow y hy),fun y hy => ?_,(fun e => by cases e),fun _ y z hz => ?_,fun _ hi hnx => ?_⟩
 ·unfold setO
  rw [if_neg]
  ·exact keep y (h.grow y hy)
  ·rintro rfl; rw [hy] at hsn; cases hsn
 ·unfold setO at hz
  split at hz
  ·rename_i e; subst e; cases hz
   exact .inr (by rw [<- hx]; exact List.mem_of_getElem? hp)
  ·exact r.valid rfl y z hz
 ·have hi1:InjOn (setS sk p.2) ow := fun y y' z h1 h2 => hi y y' z (snk (f1 h1).2) (snk (f1 h2).2)
  have hno:∀ y,setS sk p.2 y = false -> ow y ≠ some o := fun y h1 h2 => (f1 h1).1 (hi y p.2 o (snk (f1 h1).2) hsn h2 ho)
  obtain ⟨i2,r2⟩ := r.inj rfl hi1 hno
  -- what a place that was not seen by x's caller is owned by
  have cls:∀ {y},sn y = false -> y ≠ p.2 -> (sk y = true /\ ow2 y = ow y) \/ setS sk p.2 y = false := fun {y} h1 h2 => by
   cases e:sk y with
   | true => exact .inl ⟨rfl,keep y e⟩
   | false => exact .inr (by rw [s1 h2]; exact e)
  have back:∀ {y z},setS sk p.2 y = false -> ow2 y = some z -> z = o \/ ∃ y',setS sk p.2 y' = false /\ ow y' = some z := fun {y z} h1 h2 => (r2 z).1 ⟨y,h1,h2⟩
  have nx:∀ {y},sn y = false -> y ≠ p.2 -> ow2 y ≠ some x := fun {y} h1 h2 h3 => by
   rcases cls h1 h2 with ⟨_,e⟩ | e
   ·rw [e] at h3; exact hnx y h1 h3
   ·rcases back e h3 with rfl | ⟨y',g1,g2⟩
    ·exact hnx p.2 hsn ho
    ·exact hnx y' (snk (f1 g1).2) g2
  have cross:∀ {y y' z},sn y = false -> y ≠ p.2 -> sk y = true -> ow y = some z -> setS sk p.2 y' = false -> ow2 y' = some z -> False := fun {y y' z} h1 h2 h3 h4 h5 h6 => by
   rcases back h5 h6 with rfl | ⟨y'',g1,g2⟩
   ·exact h2 (hi y p.2 z h1 hsn h4 ho)
   ·have e := hi y y'' z h1 (snk (f1 g1).2) h4 g2
    subst e
    rw [(f1 g1).2] at h3; cases h3
  refine ⟨fun y y' z h1 h2 h3 h4 => ?_,fun z => ⟨?_,?_⟩⟩
  ·unfold setO at h3 h4
   split at h3 <;> split at h4
   ·rename_i a b; exact a.trans b.symm
   ·rename_i a b; cases h3; exact absurd h4 (nx h2 b)
   ·rename_i a b; cases h4; exact absurd h3 (nx h1 a)
   ·rename_i a b
    rcases cls h1 a with ⟨g1,g2⟩ | g1 <;> rcases cls h2 b with ⟨g3,g4⟩ | g3
    ·rw [g2] at h3; rw [g4] at h4; exact hi y y' z h1 h2 h3 h4
    ·rw [g2] at h3; exact (cross h1 a g1 h3 g3 h4).elim
    ·rw [g4] at h4; exact (cross h2 b g3 h4 g1 h3).elim
    ·exact i2 y y' z g1 g3 h3 h4
  ·rintro ⟨y,h1,h2⟩
   unfold setO at h2
   split at h2
   ·cases h2; exact .inl rfl
   ·rename_i a
    rcases cls h1 a with ⟨g1,g2⟩ | g1
    ·rw [g2] at h2; exact .inr ⟨y,h1,h2⟩
    ·rcases back g1 h2 with rfl | ⟨y',g3,g4⟩
     ·exact .inr ⟨p.2,hsn,ho⟩
     ·exact .inr ⟨y',snk (f1 g3).2,g4⟩
  ·rintro (rfl | ⟨y,h1,h2⟩)
   ·exact ⟨p.2,hsn,by simp [setO]⟩
   ·by_cases e:y = p.2
    ·subst e
     rw [ho] at h2; cases h2
     obtain ⟨y',g1,g2⟩ := (r2 o).2 (.inl rfl)
     exact ⟨y',snk (f1 g1).2,by unfold setO; rw [if_neg (f1 g1).1]; exact g2⟩
    ·cases g:sk y with
     | true => exact ⟨y,h1,by unfold setO; rw [if_neg e,keep y g]; exact h2⟩
     | false =>
      obtain ⟨y',g1,g2⟩ := (r2 z).2 (.inr ⟨y,by rw [s1 e]; exact g,h2⟩)
      exact ⟨y',snk (f1 g1).2,by unfold setO; rw [if_neg (f1 g1).1]; exact g2⟩
structure Best (G:Ed) (A:List Int) (ow:Ow) (n:Nat):Prop where
 pairs:∃ E:Ed,E.length = n /\ (∀ e ∈ E,e ∈ G /\ e.1 ∈ A) /\ (E.map (·.1)).Nodup /\ (E.map (·.2)).Nodup /\ ∀ x y,ow y = some x ↔ (x,y) ∈ E
 cov:∃ L R:List Int,L.length + R.length <= n /\ ∀ p ∈ G,p.1 ∈ A -> p.1 ∈ L \/ p.2 ∈ R
theorem Best.start:Best G [] (fun _ => none) 0 := ⟨⟨[],rfl,fun _ h => by simp at h,List.nodup_nil,List.nodup_nil,fun x y => by simp⟩,[],[],Nat.le_refl _,fun p _ h => by simp at h⟩
theorem choose (ow:Ow):∀ l:List Int,(∀ x ∈ l,∃ y,ow y = some x) -> ∃ E:Ed,E.map (·.1) = l /\ ∀ e ∈ E,ow e.2 = some e.1
 | [],_ => ⟨[],rfl,fun e h => by simp at h⟩
 | x :: l,h => by
  obtain ⟨y,hy⟩ := h x (by simp)
  obtain ⟨E,h1,h2⟩ := choose ow l fun z hz => h z (by simp [hz])
  refine ⟨(x,y) :: E,by simp [h1],fun e he => ?_⟩
  rcases List.mem_cons.1 he with rfl | he
  ·exact hy
  ·exact h2 e he
theorem nodup_snd {ow:Ow}:∀ {E:Ed},(E.map (·.1)).Nodup -> (∀ e ∈ E,ow e.2 = some e.1) -> (E.map (·.2)).Nodup
 | [],_,_ => List.nodup_nil
 | e :: E,h,ho => by
  rw [List.map_cons,List.nodup_cons] at h ⊢
  refine ⟨fun hm => ?_,nodup_snd h.2 fun q hq => ho q (by simp [hq])⟩
  obtain ⟨q,hq,e2⟩ := List.mem_map.1 hm
  have h1 := ho q (by simp [hq])
  rw [e2,ho e (by simp)] at h1
  exact h.1 (List.mem_map.2 ⟨q,hq,(Option.some.inj h1).symm⟩)
theorem nodup_fst_inj {E:Ed} (h:(E.map (·.1)).Nodup) {x y y':Int} (h1:(x,y) ∈ E) (h2:(x,y') ∈ E):y = y' := by
 induction E with
 | nil => simp at h1
 | cons e E ih =>
  rw [List.map_cons,List.nodup_cons] at h
  rcases List.mem_cons.1 h1 with g1 | g1 <;> rcases List.mem_cons.1 h2 with g2 | g2
  ·rw [<- g1] at g2; exact (congrArg Prod.snd g2).symm
  ·exact absurd (List.mem_map.2 ⟨_,g2,by rw [<- g1]⟩) h.1
  ·exact absurd (List.mem_map.2 ⟨_,g1,by rw [<- g2]⟩) h.1
  ·exact ih h.2 g1 g2
variable {A:List Int} {n:Nat} {a:Int} {ow':Ow} {sn':Sn} {b:Bool}
theorem Best.inj (h:Best G A ow n):InjOn (fun _ => false) ow := by
 obtain ⟨E,_,_,h1,_,h3⟩ := h.pairs
 exact fun y y' x _ _ g1 g2 => nodup_fst_inj h1 ((h3 x y).1 g1) ((h3 x y').1 g2)
theorem Best.step (h:Best G A ow n) (ha:a ∉ A) (s:Srch G a ow (fun _ => false) ow' sn' b):Best G (A ++ [a]) ow' (if b then n + 1 else n) := by
 obtain ⟨E,hn,hE,e1,e2,e3⟩ := h.pairs
 obtain ⟨L,R,hLR,hc⟩ := h.cov
 have hna:∀ y,ow y ≠ some a := fun y hy => ha (hE _ ((e3 a y).1 hy)).2
 cases b with
 | true =>
  obtain ⟨i2,r2⟩ := s.inj rfl h.inj fun y _ => hna y
  have hval := s.valid rfl
  have hany:∀ x ∈ a :: E.map (·.1),∃ y,ow' y = some x := fun x hx => by
   have:x = a \/ ∃ y,(fun _:Int => false) y = false /\ ow y = some x := by
    rcases List.mem_cons.1 hx with g | g
    ·exact .inl g
    ·obtain ⟨q,hq,rfl⟩ := List.mem_map.1 g
     exact .inr ⟨q.2,rfl,(e3 q.1 q.2).2 hq⟩
   obtain ⟨y,_,hy⟩ := (r2 x).2 this
   exact ⟨y,hy⟩
  obtain ⟨E',h1,h2⟩ := choose ow' _ hany
  have hnd:(E'.map (·.1)).Nodup := by
   rw [h1,List.nodup_cons]
   refine ⟨fun hm => ?_,e1⟩
   obtain ⟨q,hq,hqa⟩ := List.mem_map.1 hm
   exact ha (by rw [<- hqa]; exact (hE q hq).2)
  refine ⟨⟨E',?_,fun e he => ?_,hnd,nodup_snd hnd h2,fun x y => ⟨fun hy => ?_,fun hy => h2 _ hy⟩⟩,a :: L,R,?_,fun p hp hpA => ?_⟩
  ·have := congrArg List.length h1
   simp only [List.length_map,List.length_cons] at this
   rw [this,hn]; rfl
  ·have hfst:e.1 ∈ a :: E.map (·.1) := by rw [<- h1]; exact List.mem_map.2 ⟨e,he,rfl⟩
   refine ⟨?_,?_⟩
   ·rcases hval e.2 e.1 (h2 e he) with g | g
    ·exact (hE _ ((e3 _ _).1 g)).1
    ·exact g
   ·rcases List.mem_cons.1 hfst with g | g
    ·rw [g]; simp
    ·obtain ⟨q,hq,hqe⟩ := List.mem_map.1 g
     rw [<- hqe]; exact List.mem_append_left _ (hE q hq).2
  ·have hx:x ∈ E'.map (·.1) := by
    rw [h1]
    rcases (r2 x).1 ⟨y,rfl,hy⟩ with g | ⟨y',_,g⟩
    ·rw [g]; simp
    ·exact List.mem_cons_of_mem _ (List.mem_map.2 ⟨_,(e3 x y').1 g,rfl⟩)
   obtain ⟨q,hq,rfl⟩ := List.mem_map.1 hx
   have := i2 q.2 y q.1 rfl rfl (h2 q hq) hy
   rw [<- this]; exact hq
  ·simp only [List.length_cons]; simp only [if_true]; omega
  ·rw [List.mem_append,List.mem_singleton] at hpA
   rcases hpA with g | g
   ·rcases hc p hp g with g | g
    ·exact .inl (by simp [g])
    ·exact .inr g
   ·exact .inl (by rw [g]; simp)
 | false =>
  obtain ⟨rfl,f1,f2⟩ := s.fail rfl
  simp only [Bool.false_eq_true,if_false]
  refine ⟨⟨E,hn,fun e he => ⟨(hE e he).1,List.mem_append_left _ (hE e he).2⟩,e1,e2,e3⟩,?_⟩
  let S:Sn := sn'
  let T:Int -> Bool := fun x => x == a || E.any fun e => e.1 == x && S e.2
  let ES := E.filter fun e => S e.2
  have hT:∀ p ∈ G,T p.1 = true -> S p.2 = true := fun p hp ht => by
   simp only [T,Bool.or_eq_true,beq_iff_eq,List.any_eq_true,Bool.and_eq_true] at ht
   rcases ht with g | ⟨e,he,g1,g2⟩
   ·exact f1 p hp g
   ·obtain ⟨o',h1,h2⟩ := f2 e.2 g2 rfl
    rw [(e3 e.1 e.2).2 he] at h1
    cases h1
    exact h2 p hp g1.symm
  have hS:∀ y,S y = true -> ∃ o',(o',y) ∈ ES := fun y hy => by
   obtain ⟨o',h1,_⟩ := f2 y hy rfl
   exact ⟨o',List.mem_filter.2 ⟨(e3 o' y).1 h1,hy⟩⟩
  have hw:ES.length <= (L.filter T).length + (R.filter S).length := by
   refine weakL (nodup_map_filter _ e1) (nodup_map_filter _ e2) fun p hp => ?_
   obtain ⟨g1,g2⟩ := List.mem_filter.1 hp
   rcases hc p (hE p g1).1 (hE p g1).2 with g | g
   ·refine .inl (List.mem_filter.2 ⟨g,?_⟩)
    simp only [T,Bool.or_eq_true,List.any_eq_true,Bool.and_eq_true,beq_iff_eq]
    exact .inr ⟨p,g1,rfl,g2⟩
   ·exact .inr (List.mem_filter.2 ⟨g,g2⟩)
  have sL := split_len T L
  have sR := split_len S R
  refine ⟨L.filter (fun x => !T x),ES.map (·.2) ++ R.filter fun y => !S y,?_,fun p hp hpA => ?_⟩
  ·rw [List.length_append,List.length_map]; omega
  ·have inS:S p.2 = true -> p.2 ∈ ES.map (·.2) ++ R.filter fun y => !S y := fun hs => by
    obtain ⟨o',ho⟩ := hS p.2 hs
    exact List.mem_append_left _ (List.mem_map.2 ⟨_,ho,rfl⟩)
   cases ht:T p.1 with
   | true => exact .inr (inS (hT p hp ht))
   | false =>
    have hne:p.1 ≠ a := fun e => by simp [T,e] at ht
    have hA:p.1 ∈ A := by
     rw [List.mem_append,List.mem_singleton] at hpA
     exact hpA.resolve_right hne
    rcases hc p hp hA with g | g
    ·exact .inl (List.mem_filter.2 ⟨g,by rw [ht]; rfl⟩)
    ·cases hs:S p.2 with
     | true => exact .inr (inS hs)
     | false => exact .inr (List.mem_append_right _ (List.mem_filter.2 ⟨g,by rw [hs]; rfl⟩))
theorem Best.done (h:Best G A ow n) (hA:∀ p ∈ G,p.1 ∈ A):Mat G n /\ Cov G n := by
 obtain ⟨E,hn,hE,e1,e2,_⟩ := h.pairs
 obtain ⟨L,R,hLR,hc⟩ := h.cov
 exact ⟨⟨E,hn,fun e he => (hE e he).1,e1,e2⟩,L,R,hLR,fun p hp => hc p hp (hA p hp)⟩
theorem struck_ge {l r:List Int} (hm:Mat G n) (hr:∀ p ∈ G,p.1 ∉ l -> p.2 ∈ r):n <= l.length + r.length :=
 weak hm ⟨l,r,Nat.le_refl _,fun p hp => by
  by_cases e:p.1 ∈ l
  ·exact .inl e
  ·exact .inr (hr p hp e)⟩
theorem struck_some (hc:Cov G n) (hA:A.Nodup) (hGA:∀ p ∈ G,p.1 ∈ A):∃ l:List Int,l.Sublist A /\ ∀ r:List Int,r.Nodup -> (∀ y ∈ r,∃ p ∈ G,p.1 ∉ l /\ p.2 = y) -> l.length + r.length <= n := by
 obtain ⟨L,R,hLR,h⟩ := hc
 refine ⟨A.filter fun x => decide (x ∈ L),List.filter_sublist,fun r hr hy => ?_⟩
 have a := nodup_le (b := L) (List.Nodup.sublist (List.filter_sublist (p := fun x => decide (x ∈ L))) hA) fun x hx => of_decide_eq_true (List.mem_filter.1 hx).2
 have b := nodup_le (b := R) hr fun y h1 => by
  obtain ⟨p,hp,h2,rfl⟩ := hy y h1
  refine (h p hp).resolve_left fun h3 => h2 (List.mem_filter.2 ⟨hGA p hp,decide_eq_true h3⟩)
 omega
end Go.TM.Ma
end
section
namespace Go.Proofs.YtfkfohpnpljihaaGreatDoor
open Go Go.TM Go.Proofs
set_option linter.unusedVariables false
set_option maxRecDepth 100000
variable {X:XP} {h:LH} {A:Value -> LH -> Prop}
noncomputable def n3201 (t_0p:Option Addr) (t_0n t_0c:Nat) (t_1p:Option Addr) (t_1n t_1c:Nat) (t_2p:Option Addr) (t_2n t_2c:Nat) (edition one two:Int):T := .new 3 #[.int .i64 edition] fun r => .new 3 #[.int .i64 one] fun r_1 => .new 3 #[.int .i64 two] fun r_2 => .loadI .i64 { block := r_1,off := 0 } fun n => .loadI .i64 { block := r_2,off := 0 } fun n_1 => bif n == n_1 then .leaf (.ret (.int .i64 5)) else .call false 164 #[.slice t_2p t_2n t_2c,.func (Fn.func 165) #[] #[.pointer (some { block := r,off := 0 }),.pointer (some { block := r_1,off := 0 }),.pointer (some { block := r_2,off := 0 })]] fun v => .unI .i64 v fun n => bif decide (n < 0) then .leaf (.ret (.int .i64 0)) else .need (0 <= n /\ n < (↑t_2n:Int)) (.someA t_2p fun a => .loadI .i64 ((a.add (n.toNat * 4)).add 3) fun n => .leaf (.ret (.int .i64 n)))
theorem w3201 (t_0p:Option Addr) (t_0n t_0c:Nat) (t_1p:Option Addr) (t_1n t_1c:Nat) (t_2p:Option Addr) (t_2n t_2c:Nat) (edition one two:Int):FX X 119 #[.agg #[.slice t_0p t_0n t_0c,.slice t_1p t_1n t_1c,.slice t_2p t_2n t_2c],.int .i64 edition,.int .i64 one,.int .i64 two] h A (n3201 t_0p t_0n t_0c t_1p t_1n t_1c t_2p t_2n t_2c edition one two) := fk [4] [] [] Tryz.f119
noncomputable def n3231 (sp:Option Addr) (sn sc:Nat) (f:Value):T := .loop [.int .i64 0,.int .i64 0] (fun vs => .popI .i64 vs fun n vs => .popI .i64 vs fun n_1 vs => .unNil vs (bif decide (n_1 < (↑sn:Int)) then .need (0 <= n_1 /\ n_1 < (↑sn:Int)) (.someA sp fun a => .loadI .i64 ((a.add (n_1.toNat * 4)).add 0) fun n_2 => .loadI .i64 ((a.add (n_1.toNat * 4)).add 1) fun n_3 => .loadI .i64 ((a.add (n_1.toNat * 4)).add 2) fun n_4 => .loadI .i64 ((a.add (n_1.toNat * 4)).add 3) fun n_5 => .callv false f #[.agg #[.int .i64 n_2,.int .i64 n_3,.int .i64 n_4,.int .i64 n_5]] fun v => .unB v fun b => bif b then .leaf (.retn [.int .i64 n_1,.int .i64 n_1]) else .leaf (.again [.int .i64 n,.int .i64 (wrap .i64 (n_1 + 1))])) else .leaf (.brk [.int .i64 n,.int .i64 n_1]))) (fun vs => .popI .i64 vs fun n vs => .popI .i64 vs fun n vs => .unNil vs (.leaf (.ret (.int .i64 (-1))))) (fun vs => .popI .i64 vs fun n vs => .popI .i64 vs fun n_1 vs => .unNil vs (.leaf (.ret (.int .i64 n)))) fun x x_1 => .fail
theorem w3231 (sp:Option Addr) (sn sc:Nat) (f:Value):FX X 164 #[.slice sp sn sc,f] h A (n3231 sp sn sc f) := fk [] [⟨0,[(4,.int .i64),(8,.int .i64)],[],[],[],[]⟩] [] Tryz.f164
noncomputable def n3232 (k_0 k_1 k_2 k_3:Int) (z0 z1 z2:Addr):T := .loadI .i64 z0 fun n => bif k_0 == n then .loadI .i64 z1 fun n => .loadI .i64 z2 fun n_1 => bif k_1 == if n_1 < n then n_1 else n then .loadI .i64 z1 fun n => .loadI .i64 z2 fun n_2 => .leaf (.ret (.bool (k_2 == if n_2 > n then n_2 else n))) else .leaf (.ret (.bool false)) else .leaf (.ret (.bool false))
theorem w3232 (k_0 k_1 k_2 k_3:Int) (z0 z1 z2:Addr):FX X 165 #[.agg #[.int .i64 k_0,.int .i64 k_1,.int .i64 k_2,.int .i64 k_3],.pointer (some z0),.pointer (some z1),.pointer (some z2)] h A (n3232 k_0 k_1 k_2 k_3 z0 z1 z2) := fk [4] [] [] Tryz.f165
noncomputable def n3188 (t_0p:Option Addr) (t_0n t_0c:Nat) (t_1p:Option Addr) (t_1n t_1c:Nat) (t_2p:Option Addr) (t_2n t_2c:Nat) (edition:Int) (ap:Option Addr) (an ac:Nat) (bp:Option Addr) (bn bc:Nat) (level:Int):T := .sem false (Instr.buildSlice 248 2 #[(0,.slice ap an ac),(1,.slice bp bn bc)]) fun v => .unS v fun a n c => .call false 111 #[.agg #[.slice t_0p t_0n t_0c,.slice t_1p t_1n t_1c,.slice t_2p t_2n t_2c],.int .i64 edition,.slice a n c] fun v => .unTup v fun l => .unCons l fun v vs => .unAgg v fun l => .popS l fun a n c vs_1 => .popS vs_1 fun a_1 n_1 c_1 vs_2 => .popS vs_2 fun a_2 n_2 c_2 vs_3 => .unNil vs_3 (.unCons vs fun v vs => .unI .i64 v fun n_3 => .unNil vs (bif n_3 == 0 then .call false 122 #[.int .i64 level,.int .i64 1,.int .i64 5] fun v => .unB v fun b => bif !b then .leaf (.ret (.tuple #[.agg #[.slice a n c,.slice a_1 n_1 c_1,.slice a_2 n_2 c_2,.int .i64 edition,.int .i64 level,.slice ap an ac,.slice bp bn bc],.int .i64 1])) else .leaf (.ret (.tuple #[.agg #[.slice a n c,.slice a_1 n_1 c_1,.slice a_2 n_2 c_2,.int .i64 edition,.int .i64 level,.slice ap an ac,.slice bp bn bc],.int .i64 n_3])) else .leaf (.ret (.tuple #[.agg #[.slice a n c,.slice a_1 n_1 c_1,.slice a_2 n_2 c_2,.int .i64 edition,.int .i64 level,.slice ap an ac,.slice bp bn bc],.int .i64 n_3]))))
theorem w3188 (t_0p:Option Addr) (t_0n t_0c:Nat) (t_1p:Option Addr) (t_1n t_1c:Nat) (t_2p:Option Addr) (t_2n t_2c:Nat) (edition:Int) (ap:Option Addr) (an ac:Nat) (bp:Option Addr) (bn bc:Nat) (level:Int):FX X 74 #[.agg #[.slice t_0p t_0n t_0c,.slice t_1p t_1n t_1c,.slice t_2p t_2n t_2c],.int .i64 edition,.slice ap an ac,.slice bp bn bc,.int .i64 level] h A (n3188 t_0p t_0n t_0c t_1p t_1n t_1c t_2p t_2n t_2c edition ap an ac bp bn bc level) := fk [5,10,12] [] [] Tryz.f74
noncomputable def n3189 (seq:Value):T := .call false 123 #[.slice none 0 0,seq] fun v => .unS v fun a n c => .leaf (.ret (.slice a n c))
theorem w3189 (seq:Value):FX X 75 #[seq] h A (n3189 seq) := fk [] [] [] Tryz.f75
noncomputable def n3190 (t_0p:Option Addr) (t_0n t_0c:Nat) (t_1p:Option Addr) (t_1n t_1c:Nat) (t_2p:Option Addr) (t_2n t_2c:Nat) (t_3 t_4:Int) (t_5p:Option Addr) (t_5n t_5c:Nat) (t_6p:Option Addr) (t_6n t_6c:Nat) (xp:Option Addr) (xn xc:Nat) (yp:Option Addr) (yn yc:Nat):T := .new 145 #[.slice t_0p t_0n t_0c,.slice t_1p t_1n t_1c,.slice t_2p t_2n t_2c,.int .i64 t_3,.int .i64 t_4,.slice t_5p t_5n t_5c,.slice t_6p t_6n t_6c] fun r => .new 30 #[.slice xp xn xc] fun r_1 => .new 30 #[.slice yp yn yc] fun r_2 => .leaf (.ret (.func (Fn.func 124) #[] #[.pointer (some { block := r,off := 0 }),.pointer (some { block := r_1,off := 0 }),.pointer (some { block := r_2,off := 0 })]))
theorem w3190 (t_0p:Option Addr) (t_0n t_0c:Nat) (t_1p:Option Addr) (t_1n t_1c:Nat) (t_2p:Option Addr) (t_2n t_2c:Nat) (t_3 t_4:Int) (t_5p:Option Addr) (t_5n t_5c:Nat) (t_6p:Option Addr) (t_6n t_6c:Nat) (xp:Option Addr) (xn xc:Nat) (yp:Option Addr) (yn yc:Nat):FX X 76 #[.agg #[.slice t_0p t_0n t_0c,.slice t_1p t_1n t_1c,.slice t_2p t_2n t_2c,.int .i64 t_3,.int .i64 t_4,.slice t_5p t_5n t_5c,.slice t_6p t_6n t_6c],.slice xp xn xc,.slice yp yn yc] h A (n3190 t_0p t_0n t_0c t_1p t_1n t_1c t_2p t_2n t_2c t_3 t_4 t_5p t_5n t_5c t_6p t_6n t_6c xp xn xc yp yn yc) := fk [] [] [] Tryz.f76
noncomputable def n3211 (sp:Option Addr) (sn sc:Nat) (seq:Value):T := .each seq [.slice sp sn sc] (fun xs vs => .unCons xs fun v vs_1 => .unAgg v fun l => .popI .i64 l fun n vs_2 => .popI .i64 vs_2 fun n_1 vs_3 => .unNil vs_3 (.unNil vs_1 (.popS vs fun a n_2 c vs => .unNil vs (.sem false (Instr.buildSlice 98 1 #[(0,.agg #[.int .i64 n,.int .i64 n_1])]) fun v => .unS v fun a_1 n c_1 => .sem false (Builtin.append_ #[98,98] 98 #[.slice a n_2 c,.slice a_1 n c_1]) fun v => .unS v fun a n c => .leaf (.again [.slice a n c]))))) (fun vs => .popS vs fun a n c vs => .unNil vs (.leaf (.ret (.slice a n c)))) (fun vs => .popS vs fun a n c vs => .unNil vs (.leaf (.ret (.slice a n c)))) (fun vs => .popS vs fun a n c vs => .unNil vs (.leaf (.ret (.slice none 0 0)))) fun x x_1 => .fail
theorem w3211 (sp:Option Addr) (sn sc:Nat) (seq:Value):FX X 123 #[.slice sp sn sc,seq] h A (n3211 sp sn sc seq) := fk [2,5] [{ id := 0,slots := [(12288,.slice)],ro := [],outs := [],ps := [.agg [.int .i64,.int .i64]] }] [] Tryz.f123
noncomputable def n3212 (yield:Value) (z0 z1 z2:Addr):T := .loadS (z0.add 5) fun p n c => .loop [.int .i64 0] (fun vs => .popI .i64 vs fun n_1 vs => .unNil vs (bif decide (n_1 < (↑n:Int)) then .need (0 <= n_1 /\ n_1 < (↑n:Int)) (.someA p fun a => .loadI .i64 (a.add (n_1.toNat * 1)) fun n => .loadS (z0.add 6) fun p n_2 c => .loop [.int .i64 0] (fun vs => .popI .i64 vs fun n_3 vs => .unNil vs (bif decide (n_3 < (↑n_2:Int)) then .need (0 <= n_3 /\ n_3 < (↑n_2:Int)) (.someA p fun a => .loadI .i64 (a.add (n_3.toNat * 1)) fun n_4 => .loadS z1 fun p n_5 c => .call false 125 #[.slice p n_5 c,.int .i64 n] fun v => .unB v fun b => bif b then .nd (.tuple #[]) (.nd (.tuple #[]) (.nd (.tuple #[]) (.nd (.tuple #[]) (.nd (.bool true) (.nd (.tuple #[]) (.nd (.tuple #[]) (.nd (.tuple #[]) (.nd (.bool true) (.leaf (.again [.int .i64 (wrap .i64 (n_3 + 1))])))))))))) else .loadS z2 fun p n_6 c => .call false 125 #[.slice p n_6 c,.int .i64 n_4] fun v => .unB v fun b => bif b then .nd (.tuple #[]) (.nd (.tuple #[]) (.nd (.tuple #[]) (.nd (.tuple #[]) (.nd (.bool b) (.nd (.tuple #[]) (.nd (.tuple #[]) (.nd (.tuple #[]) (.nd (.bool b) (.leaf (.again [.int .i64 (wrap .i64 (n_3 + 1))])))))))))) else .loadS ((z0.add 0).add 0) fun p n_7 c => .loadS ((z0.add 0).add 1) fun p_1 n_8 c_1 => .loadS ((z0.add 0).add 2) fun p_2 n_9 c_2 => .loadI .i64 (z0.add 3) fun n_10 => .loadI .i64 (z0.add 4) fun n_11 => .call false 119 #[.agg #[.slice p n_7 c,.slice p_1 n_8 c_1,.slice p_2 n_9 c_2],.int .i64 n_10,.int .i64 n,.int .i64 n_4] fun v => .unI .i64 v fun n_12 => .loadI .i64 (z0.add 4) fun n_13 => .ne (.int .i64 n_13) (.int .i64 n_11) (.nd (.pointer (some (z0.add 4))) (.nd (.pointer (some (z0.add 3))) (.nd (.pointer (some (z0.add 0))) (.nd (.bool b) (bif decide (n_12 < n_11) then .leaf (.again [.int .i64 (wrap .i64 (n_3 + 1))]) else .callv false yield #[.agg #[.int .i64 n,.int .i64 n_4]] fun v => .unB v fun b => bif !b then .leaf (.retn [.int .i64 n_3]) else .leaf (.again [.int .i64 (wrap .i64 (n_3 + 1))]))))))) else .leaf (.brk [.int .i64 n_3]))) (fun vs => .popI .i64 vs fun n vs => .unNil vs (.leaf (.again [.int .i64 (wrap .i64 (n_1 + 1))]))) (fun vs => .popI .i64 vs fun n vs => .unNil vs (.leaf (.retn [.int .i64 n_1]))) fun x x_1 => .fail) else .leaf (.brk [.int .i64 n_1]))) (fun vs => .popI .i64 vs fun n vs => .unNil vs (.leaf (.ret (.tuple #[])))) (fun vs => .popI .i64 vs fun n vs => .unNil vs (.leaf (.ret (.tuple #[])))) fun x x_1 => .fail
theorem w3212 (yield:Value) (z0 z1 z2:Addr):FX X 124 #[yield,.pointer (some z0),.pointer (some z1),.pointer (some z2)] h A (n3212 yield z0 z1 z2) := fk [] [⟨2,[(19,.int .i64)],[],[],[],[]⟩,⟨0,[(12,.int .i64)],[],[],[],[]⟩] [] Tryz.f124
noncomputable def n3213 (one:Int) (z0 z1 z2 z3:Addr):T := .loadS z0 fun p n c => .loop [.bool false,.int .i64 0] (fun vs => .popB vs fun b vs => .popI .i64 vs fun n_1 vs => .unNil vs (bif decide (n_1 < (↑n:Int)) then .need (0 <= n_1 /\ n_1 < (↑n:Int)) (.someA p fun a => .loadI .i64 ((a.add (n_1.toNat * 2)).add 0) fun n => .loadI .i64 ((a.add (n_1.toNat * 2)).add 1) fun n_2 => .blk (bif n != one then .leaf (.out 1 []) else .loadM z1 fun p => .sem false (Instr.lookup 163 (.map p) (.int .i64 n_2) false) fun v => .unB v fun b => bif b then .leaf (.out 1 []) else .leaf (.again [])) (fun vs => .unNil vs (.loadM z1 fun p => .sem false (Sem.bind (Instr.mapUpdate 163 (.map p) (.int .i64 n_2) (.bool true)) fun __r => pure (.tuple #[])) fun x => .loadM z2 fun p => .sem false (Instr.lookup 218 (.map p) (.int .i64 n_2) true) fun v => .unTup v fun l => .unCons l fun v vs => .unI .i64 v fun n => .unCons vs fun v vs => .unB v fun b_1 => .unNil vs (bif !b_1 then .loadM z2 fun p => .sem false (Sem.bind (Instr.mapUpdate 218 (.map p) (.int .i64 n_2) (.int .i64 one)) fun __r => pure (.tuple #[])) fun x => .leaf (.retn [.bool true,.int .i64 n_1]) else .loadV z3 fun v => .callv false v #[.int .i64 n] fun v => .unB v fun b_2 => bif b_2 then .loadM z2 fun p => .sem false (Sem.bind (Instr.mapUpdate 218 (.map p) (.int .i64 n_2) (.int .i64 one)) fun __r => pure (.tuple #[])) fun x => .leaf (.retn [.bool true,.int .i64 n_1]) else .leaf (.again [.bool b,.int .i64 (wrap .i64 (n_1 + 1))])))) (fun vs => .unNil vs (.leaf (.retn [.bool b,.int .i64 n_1]))) fun x x_1 => bif Nat.beq x 1 then .unNil x_1 (.leaf (.again [.bool b,.int .i64 (wrap .i64 (n_1 + 1))])) else .fail) else .leaf (.brk [.bool b,.int .i64 n_1]))) (fun vs => .popB vs fun b vs => .popI .i64 vs fun n vs => .unNil vs (.leaf (.ret (.bool false)))) (fun vs => .popB vs fun b vs => .popI .i64 vs fun n vs => .unNil vs (.leaf (.ret (.bool b)))) fun x x_1 => .fail
theorem w3213 (one:Int) (z0 z1 z2 z3:Addr):FX X 126 #[.int .i64 one,.pointer (some z0),.pointer (some z1),.pointer (some z2),.pointer (some z3)] h A (n3213 one z0 z1 z2 z3) := fk [8] [⟨0,[(6,.bool),(13,.int .i64)],[],[],[],[]⟩] [⟨5,[],[8],[1],[],[]⟩] Tryz.f126
noncomputable def n3191 (t_0p:Option Addr) (t_0n t_0c:Nat) (t_1p:Option Addr) (t_1n t_1c:Nat) (t_2p:Option Addr) (t_2n t_2c:Nat) (t_3 t_4:Int) (t_5p:Option Addr) (t_5n t_5c:Nat) (t_6p:Option Addr) (t_6n t_6c:Nat) (pairsp:Option Addr) (pairsn pairsc:Nat):T := .new 98 #[.slice pairsp pairsn pairsc] fun r => .sem false (Instr.makeMap 218 none) fun v => .unM v fun a => .new 218 #[.map none] fun r_1 => .store (Addr.add { block := r_1,off := 0 } 0) (.map a) (.loop [.int .i64 0,.int .i64 0] (fun vs => .popI .i64 vs fun n vs => .popI .i64 vs fun n_1 vs => .unNil vs (bif decide (n_1 < (↑t_5n:Int)) then .need (0 <= n_1 /\ n_1 < (↑t_5n:Int)) (.someA t_5p fun a => .loadI .i64 (a.add (n_1.toNat * 1)) fun n_2 => .sem false (Instr.makeMap 163 none) fun v => .unM v fun a => .new 163 #[.map none] fun r_2 => .store (Addr.add { block := r_2,off := 0 } 0) (.map a) (.new 115 #[Value.nilFunc] fun r_3 => .store (Addr.add { block := r_3,off := 0 } 0) (.func (Fn.func 126) #[] #[.pointer (some { block := r,off := 0 }),.pointer (some { block := r_2,off := 0 }),.pointer (some { block := r_1,off := 0 }),.pointer (some { block := r_3,off := 0 })]) (.loadV { block := r_3,off := 0 } fun v => .callv false v #[.int .i64 n_2] fun v => .unB v fun b => bif b then .leaf (.again [.int .i64 (wrap .i64 (n + 1)),.int .i64 (wrap .i64 (n_1 + 1))]) else .leaf (.again [.int .i64 n,.int .i64 (wrap .i64 (n_1 + 1))])))) else .leaf (.brk [.int .i64 n,.int .i64 n_1]))) (fun vs => .popI .i64 vs fun n vs => .popI .i64 vs fun n_1 vs => .unNil vs (.leaf (.ret (.int .i64 n)))) (fun vs => .popI .i64 vs fun n vs => .popI .i64 vs fun n vs => .unNil vs (.leaf (.ret (.int .i64 0)))) fun x x_1 => .fail)
theorem w3191 (t_0p:Option Addr) (t_0n t_0c:Nat) (t_1p:Option Addr) (t_1n t_1c:Nat) (t_2p:Option Addr) (t_2n t_2c:Nat) (t_3 t_4:Int) (t_5p:Option Addr) (t_5n t_5c:Nat) (t_6p:Option Addr) (t_6n t_6c:Nat) (pairsp:Option Addr) (pairsn pairsc:Nat):FX X 77 #[.agg #[.slice t_0p t_0n t_0c,.slice t_1p t_1n t_1c,.slice t_2p t_2n t_2c,.int .i64 t_3,.int .i64 t_4,.slice t_5p t_5n t_5c,.slice t_6p t_6n t_6c],.slice pairsp pairsn pairsc] h A (n3191 t_0p t_0n t_0c t_1p t_1n t_1c t_2p t_2n t_2c t_3 t_4 t_5p t_5n t_5c t_6p t_6n t_6c pairsp pairsn pairsc) := fk [2] [⟨0,[(6,.int .i64),(15,.int .i64)],[2],[],[],[]⟩] [] Tryz.f77
noncomputable def n3192 (t_0p:Option Addr) (t_0n t_0c:Nat) (t_1p:Option Addr) (t_1n t_1c:Nat) (t_2p:Option Addr) (t_2n t_2c:Nat) (t_3 t_4:Int) (t_5p:Option Addr) (t_5n t_5c:Nat) (t_6p:Option Addr) (t_6n t_6c:Nat) (xp:Option Addr) (xn xc:Nat):T := .call false 76 #[.agg #[.slice t_0p t_0n t_0c,.slice t_1p t_1n t_1c,.slice t_2p t_2n t_2c,.int .i64 t_3,.int .i64 t_4,.slice t_5p t_5n t_5c,.slice t_6p t_6n t_6c],.slice xp xn xc,.slice none 0 0] fun v => .each v [.slice none 0 0] (fun xs vs => .unCons xs fun v vs_1 => .unAgg v fun l => .popI .i64 l fun n vs_2 => .popI .i64 vs_2 fun n vs_3 => .unNil vs_3 (.unNil vs_1 (.popS vs fun a n_1 c vs => .unNil vs (.sem false (Instr.buildSlice 30 1 #[(0,.int .i64 n)]) fun v => .unS v fun a_1 n c_1 => .sem false (Builtin.append_ #[30,30] 30 #[.slice a n_1 c,.slice a_1 n c_1]) fun v => .unS v fun a n c => .leaf (.again [.slice a n c]))))) (fun vs => .popS vs fun a n c vs => .unNil vs (.call false 127 #[.slice a n c] fun v => .unTup v fun l => .unNil l (.call false 128 #[.slice a n c] fun v => .unS v fun a n c => .leaf (.ret (.slice a n c))))) (fun vs => .popS vs fun a n c vs => .unNil vs (.call false 127 #[.slice a n c] fun v => .unTup v fun l => .unNil l (.call false 128 #[.slice a n c] fun v => .unS v fun a n c => .leaf (.ret (.slice a n c))))) (fun vs => .popS vs fun a n c vs => .unNil vs (.leaf (.ret (.slice none 0 0)))) fun x x_1 => .fail
theorem w3192 (t_0p:Option Addr) (t_0n t_0c:Nat) (t_1p:Option Addr) (t_1n t_1c:Nat) (t_2p:Option Addr) (t_2n t_2c:Nat) (t_3 t_4:Int) (t_5p:Option Addr) (t_5n t_5c:Nat) (t_6p:Option Addr) (t_6n t_6c:Nat) (xp:Option Addr) (xn xc:Nat):FX X 78 #[.agg #[.slice t_0p t_0n t_0c,.slice t_1p t_1n t_1c,.slice t_2p t_2n t_2c,.int .i64 t_3,.int .i64 t_4,.slice t_5p t_5n t_5c,.slice t_6p t_6n t_6c],.slice xp xn xc] h A (n3192 t_0p t_0n t_0c t_1p t_1n t_1c t_2p t_2n t_2c t_3 t_4 t_5p t_5n t_5c t_6p t_6n t_6c xp xn xc) := fk [2,5,6] [{ id := 0,slots := [(24576,.slice)],ro := [2],outs := [],ps := [.agg [.int .i64,.int .i64]] }] [] Tryz.f78
noncomputable def n3193 (t_0p:Option Addr) (t_0n t_0c:Nat) (t_1p:Option Addr) (t_1n t_1c:Nat) (t_2p:Option Addr) (t_2n t_2c:Nat) (t_3 t_4:Int) (t_5p:Option Addr) (t_5n t_5c:Nat) (t_6p:Option Addr) (t_6n t_6c:Nat) (pairsp:Option Addr) (pairsn pairsc:Nat) (many:Int):T := .loop [.slice pairsp pairsn pairsc,.slice none 0 0] (fun vs => .popS vs fun a n c vs => .popS vs fun a_1 n_1 c_1 vs => .unNil vs (bif decide ((↑n_1:Int) < many) then .loop [.slice a n c,.slice a_1 n_1 c_1,.int .i64 0] (fun vs => .popS vs fun a_2 n_2 c vs => .popS vs fun a_3 n_3 c_2 vs => .popI .i64 vs fun n_4 vs => .unNil vs (bif decide (n_4 < (↑n:Int)) then .need (0 <= n_4 /\ n_4 < (↑n:Int)) (.someA a fun a => .loadI .i64 ((a.add (n_4.toNat * 2)).add 0) fun n => .loadI .i64 ((a.add (n_4.toNat * 2)).add 1) fun n_5 => .new 150 #[.int .i64 0,.int .i64 0] fun r => .store (Addr.add { block := r,off := 0 } 0) (.int .i64 n) (.store (Addr.add { block := r,off := 0 } 1) (.int .i64 n_5) (.sem false (Instr.sliceAt 98 (.slice a_2 n_2 c) (some (.int .i64 (wrap .i64 (n_4 + 1)))) none none) fun w => .unS w fun a n c_3 => .call false 131 #[.slice a n c_3] fun v => .unS v fun a n c_4 => .call false 130 #[.slice a n c_4,.func (Fn.func 132) #[] #[.pointer (some { block := r,off := 0 })]] fun v => .unS v fun a n c_5 => .call false 77 #[.agg #[.slice t_0p t_0n t_0c,.slice t_1p t_1n t_1c,.slice t_2p t_2n t_2c,.int .i64 t_3,.int .i64 t_4,.slice t_5p t_5n t_5c,.slice t_6p t_6n t_6c],.slice a n c_5] fun v => .unI .i64 v fun n_6 => bif decide (n_6 >= wrap .i64 (wrap .i64 (many - (↑n_3:Int)) - 1)) then .loadI .i64 (Addr.add { block := r,off := 0 } 0) fun n_7 => .loadI .i64 (Addr.add { block := r,off := 0 } 1) fun n_8 => .sem false (Instr.buildSlice 98 1 #[(0,.agg #[.int .i64 n_7,.int .i64 n_8])]) fun v => .unS v fun a_4 n_9 c => .sem false (Builtin.append_ #[98,98] 98 #[.slice a_3 n_3 c_2,.slice a_4 n_9 c]) fun v => .unS v fun a_5 n_10 c => .leaf (.brk [.slice a n c_5,.slice a_5 n_10 c,.int .i64 n_4]) else .leaf (.again [.slice a_2 n_2 c,.slice a_3 n_3 c_2,.int .i64 (wrap .i64 (n_4 + 1))])))) else .leaf (.brk [.slice a_2 n_2 c,.slice a_3 n_3 c_2,.int .i64 n_4]))) (fun vs => .popS vs fun a n c vs => .popS vs fun a_2 n_2 c_2 vs => .popI .i64 vs fun n_3 vs => .unNil vs (.leaf (.again [.slice a n c,.slice a_2 n_2 c_2]))) (fun vs => .popS vs fun a n c vs => .popS vs fun a_2 n_2 c_2 vs => .popI .i64 vs fun n_3 vs => .unNil vs (.leaf (.retn [.slice a n c,.slice a_2 n_2 c_2]))) fun x x_1 => .fail else .leaf (.brk [.slice a n c,.slice a_1 n_1 c_1]))) (fun vs => .popS vs fun a n c vs => .popS vs fun a n c vs => .unNil vs (.leaf (.ret (.slice a n c)))) (fun vs => .popS vs fun a n c vs => .popS vs fun a n c vs => .unNil vs (.leaf (.ret (.slice none 0 0)))) fun x x_1 => .fail
theorem w3193 (t_0p:Option Addr) (t_0n t_0c:Nat) (t_1p:Option Addr) (t_1n t_1c:Nat) (t_2p:Option Addr) (t_2n t_2c:Nat) (t_3 t_4:Int) (t_5p:Option Addr) (t_5n t_5c:Nat) (t_6p:Option Addr) (t_6n t_6c:Nat) (pairsp:Option Addr) (pairsn pairsc:Nat) (many:Int):FX X 80 #[.agg #[.slice t_0p t_0n t_0c,.slice t_1p t_1n t_1c,.slice t_2p t_2n t_2c,.int .i64 t_3,.int .i64 t_4,.slice t_5p t_5n t_5c,.slice t_6p t_6n t_6c],.slice pairsp pairsn pairsc,.int .i64 many] h A (n3193 t_0p t_0n t_0c t_1p t_1n t_1c t_2p t_2n t_2c t_3 t_4 t_5p t_5n t_5c t_6p t_6n t_6c pairsp pairsn pairsc many) := fk [3] [⟨2,[(1,.slice),(7,.slice),(17,.int .i64)],[3],[],[],[]⟩,⟨0,[(1,.slice),(7,.slice)],[3],[],[],[]⟩] [] Tryz.f80
noncomputable def n3214 (sp:Option Addr) (sn sc:Nat):T := bif decide ((↑sn:Int) < 2) then .leaf (.ret (.slice sp sn sc)) else .loop [.slice none 0 0,.int .i64 1] (fun vs => .popS vs fun a n c vs => .popI .i64 vs fun n_1 vs => .unNil vs (bif decide (n_1 < (↑sn:Int)) then .need (0 <= n_1 /\ n_1 < (↑sn:Int)) (.someA sp fun a_1 => .loadI .i64 (a_1.add (n_1.toNat * 1)) fun n_2 => .need (0 <= wrap .i64 (n_1 - 1) /\ wrap .i64 (n_1 - 1) < (↑sn:Int)) (.someA sp fun a_2 => .loadI .i64 (a_2.add ((wrap .i64 (n_1 - 1)).toNat * 1)) fun n_3 => bif n_2 == n_3 then .sem false (Instr.sliceAt 30 (.slice sp sn sc) (some (.int .i64 n_1)) none none) fun w => .unS w fun a_3 n_4 c_1 => .loop [.int .i64 n_1,.int .i64 1] (fun vs => .popI .i64 vs fun n vs => .popI .i64 vs fun n_5 vs => .unNil vs (bif decide (n_5 < (↑n_4:Int)) then .need (0 <= n_5 /\ n_5 < (↑n_4:Int)) (.someA a_3 fun a => .loadI .i64 (a.add (n_5.toNat * 1)) fun n_6 => .need (0 <= wrap .i64 (n_5 - 1) /\ wrap .i64 (n_5 - 1) < (↑n_4:Int)) (.someA a_3 fun a => .loadI .i64 (a.add ((wrap .i64 (n_5 - 1)).toNat * 1)) fun n_7 => bif n_6 != n_7 then .need (0 <= n_5 /\ n_5 < (↑n_4:Int)) (.someA a_3 fun a => .loadI .i64 (a.add (n_5.toNat * 1)) fun n_8 => .need (0 <= n /\ n < (↑sn:Int)) (.someA sp fun a => .store ((a.add (n.toNat * 1)).add 0) (.int .i64 n_8) (.leaf (.again [.int .i64 (wrap .i64 (n + 1)),.int .i64 (wrap .i64 (n_5 + 1))])))) else .leaf (.again [.int .i64 n,.int .i64 (wrap .i64 (n_5 + 1))]))) else .leaf (.brk [.int .i64 n,.int .i64 n_5]))) (fun vs => .popI .i64 vs fun n vs => .popI .i64 vs fun n_5 vs => .unNil vs (.sem false (Instr.sliceAt 30 (.slice sp sn sc) (some (.int .i64 n)) none none) fun w => .unS w fun a n_6 c => .sem false (Builtin.clear_ #[30] 0 #[.slice a n_6 c]) fun v => .sem false (Instr.sliceAt 30 (.slice sp sn sc) none (some (.int .i64 n)) none) fun w => .unS w fun a n_7 c => .leaf (.retn [.slice a n_7 c,.int .i64 n]))) (fun vs => .popI .i64 vs fun n_5 vs => .popI .i64 vs fun n_6 vs => .unNil vs (.leaf (.retn [.slice a n c,.int .i64 n_5]))) fun x x_1 => .fail else .leaf (.again [.slice a n c,.int .i64 (wrap .i64 (n_1 + 1))]))) else .leaf (.brk [.slice a n c,.int .i64 n_1]))) (fun vs => .popS vs fun a n c vs => .popI .i64 vs fun n vs => .unNil vs (.leaf (.ret (.slice sp sn sc)))) (fun vs => .popS vs fun a n c vs => .popI .i64 vs fun n_1 vs => .unNil vs (.leaf (.ret (.slice a n c)))) fun x x_1 => .fail
theorem w3214 (sp:Option Addr) (sn sc:Nat):FX X 128 #[.slice sp sn sc] h A (n3214 sp sn sc) := fk [] [⟨2,[(3,.int .i64),(5,.int .i64)],[],[],[],[]⟩,⟨0,[(2,.slice),(3,.int .i64)],[],[],[],[]⟩] [] Tryz.f128
noncomputable def n3215 (sp:Option Addr) (sn sc:Nat) (del:Value):T := .call false 175 #[.slice sp sn sc,del] fun v => .unI .i64 v fun n => bif n == -1 then .leaf (.ret (.slice sp sn sc)) else .loop [.int .i64 n,.int .i64 (wrap .i64 (n + 1))] (fun vs => .popI .i64 vs fun n vs => .popI .i64 vs fun n_1 vs => .unNil vs (bif decide (n_1 < (↑sn:Int)) then .need (0 <= n_1 /\ n_1 < (↑sn:Int)) (.someA sp fun a => .loadI .i64 ((a.add (n_1.toNat * 2)).add 0) fun n_2 => .loadI .i64 ((a.add (n_1.toNat * 2)).add 1) fun n_3 => .callv false del #[.agg #[.int .i64 n_2,.int .i64 n_3]] fun v => .unB v fun b => bif !b then .need (0 <= n /\ n < (↑sn:Int)) (.someA sp fun a => .store ((a.add (n.toNat * 2)).add 0) (.int .i64 n_2) (.store ((a.add (n.toNat * 2)).add 1) (.int .i64 n_3) (.leaf (.again [.int .i64 (wrap .i64 (n + 1)),.int .i64 (wrap .i64 (n_1 + 1))])))) else .leaf (.again [.int .i64 n,.int .i64 (wrap .i64 (n_1 + 1))])) else .leaf (.brk [.int .i64 n,.int .i64 n_1]))) (fun vs => .popI .i64 vs fun n vs => .popI .i64 vs fun n_1 vs => .unNil vs (.sem false (Instr.sliceAt 98 (.slice sp sn sc) (some (.int .i64 n)) none none) fun w => .unS w fun a n_2 c => .sem false (Builtin.clear_ #[98] 0 #[.slice a n_2 c]) fun v => .sem false (Instr.sliceAt 98 (.slice sp sn sc) none (some (.int .i64 n)) none) fun w => .unS w fun a n c => .leaf (.ret (.slice a n c)))) (fun vs => .popI .i64 vs fun n vs => .popI .i64 vs fun n vs => .unNil vs (.leaf (.ret (.slice none 0 0)))) fun x x_1 => .fail
theorem w3215 (sp:Option Addr) (sn sc:Nat) (del:Value):FX X 130 #[.slice sp sn sc,del] h A (n3215 sp sn sc del) := fk [7] [⟨0,[(5,.int .i64),(6,.int .i64)],[],[],[],[]⟩] [] Tryz.f130
noncomputable def n3216 (sp:Option Addr) (sn sc:Nat):T := .sem false (Sem.bind (eqGuard BinOp.eql 98 (Operand.tmp 3) (Operand.const (.slice none 0 0)) (.slice sp sn sc) (.slice none 0 0)) fun __r => binOp BinOp.eql 98 (.slice sp sn sc) (.slice none 0 0)) fun v => .unB v fun b => bif b then .leaf (.ret (.slice none 0 0)) else .sem false (Instr.buildSlice 98 0 #[]) fun v => .unS v fun a n c => .sem false (Builtin.append_ #[98,98] 98 #[.slice a n c,.slice sp sn sc]) fun v => .unS v fun a n c => .leaf (.ret (.slice a n c))
theorem w3216 (sp:Option Addr) (sn sc:Nat):FX X 131 #[.slice sp sn sc] h A (n3216 sp sn sc) := fk [] [] [] Tryz.f131
noncomputable def n3217 (q_0 q_1:Int) (z0:Addr):T := .loadI .i64 (z0.add 0) fun n => bif q_0 == n then .leaf (.ret (.bool true)) else .loadI .i64 (z0.add 1) fun n => .leaf (.ret (.bool (q_1 == n)))
theorem w3217 (q_0 q_1:Int) (z0:Addr):FX X 132 #[.agg #[.int .i64 q_0,.int .i64 q_1],.pointer (some z0)] h A (n3217 q_0 q_1 z0) := fk [2] [] [] Tryz.f132
noncomputable def n3241 (sp:Option Addr) (sn sc:Nat) (f:Value):T := .loop [.int .i64 0,.int .i64 0] (fun vs => .popI .i64 vs fun n vs => .popI .i64 vs fun n_1 vs => .unNil vs (bif decide (n_1 < (↑sn:Int)) then .need (0 <= n_1 /\ n_1 < (↑sn:Int)) (.someA sp fun a => .loadI .i64 ((a.add (n_1.toNat * 2)).add 0) fun n_2 => .loadI .i64 ((a.add (n_1.toNat * 2)).add 1) fun n_3 => .callv false f #[.agg #[.int .i64 n_2,.int .i64 n_3]] fun v => .unB v fun b => bif b then .leaf (.retn [.int .i64 n_1,.int .i64 n_1]) else .leaf (.again [.int .i64 n,.int .i64 (wrap .i64 (n_1 + 1))])) else .leaf (.brk [.int .i64 n,.int .i64 n_1]))) (fun vs => .popI .i64 vs fun n vs => .popI .i64 vs fun n vs => .unNil vs (.leaf (.ret (.int .i64 (-1))))) (fun vs => .popI .i64 vs fun n vs => .popI .i64 vs fun n_1 vs => .unNil vs (.leaf (.ret (.int .i64 n)))) fun x x_1 => .fail
theorem w3241 (sp:Option Addr) (sn sc:Nat) (f:Value):FX X 175 #[.slice sp sn sc,f] h A (n3241 sp sn sc f) := fk [] [⟨0,[(4,.int .i64),(8,.int .i64)],[],[],[],[]⟩] [] Tryz.f175
noncomputable def n3164 (t_0p:Option Addr) (t_0n t_0c:Nat) (t_1p:Option Addr) (t_1n t_1c:Nat) (t_2p:Option Addr) (t_2n t_2c:Nat) (edition:Int) (ap:Option Addr) (an ac:Nat) (bp:Option Addr) (bn bc:Nat) (level:Int):T := .call false 74 #[.agg #[.slice t_0p t_0n t_0c,.slice t_1p t_1n t_1c,.slice t_2p t_2n t_2c],.int .i64 edition,.slice ap an ac,.slice bp bn bc,.int .i64 level] fun v => .unTup v fun l => .unCons l fun v vs => .unAgg v fun l => .popS l fun a n c vs_1 => .popS vs_1 fun a_1 n_1 c_1 vs_2 => .popS vs_2 fun a_2 n_2 c_2 vs_3 => .popI .i64 vs_3 fun n_3 vs_4 => .popI .i64 vs_4 fun n_4 vs_5 => .popS vs_5 fun a_3 n_5 c_3 vs_6 => .popS vs_6 fun a_4 n_6 c_4 vs_7 => .unNil vs_7 (.unCons vs fun v vs => .unI .i64 v fun n_7 => .unNil vs (bif n_7 != 0 then .leaf (.ret (.tuple #[.slice none 0 0,.slice none 0 0,.slice none 0 0,.int .i64 n_7])) else .call false 76 #[.agg #[.slice a n c,.slice a_1 n_1 c_1,.slice a_2 n_2 c_2,.int .i64 n_3,.int .i64 n_4,.slice a_3 n_5 c_3,.slice a_4 n_6 c_4],.slice none 0 0,.slice none 0 0] fun v => .call false 75 #[v] fun v => .unS v fun a_5 n_8 c_5 => .call false 77 #[.agg #[.slice a n c,.slice a_1 n_1 c_1,.slice a_2 n_2 c_2,.int .i64 n_3,.int .i64 n_4,.slice a_3 n_5 c_3,.slice a_4 n_6 c_4],.slice a_5 n_8 c_5] fun v => .unI .i64 v fun n_9 => .need (0 <= (↑an:Int)) (.loop [.slice none 0 0,.slice none 0 0,.int .i64 0] (fun vs => .popS vs fun a_6 n_10 c_6 vs => .popS vs fun a_7 n_11 c_7 vs => .popI .i64 vs fun n_12 vs => .unNil vs (bif decide (n_12 < wrap .i64 (1 * 2 ^ min (Int.toNat (↑an:Int)) 64)) then .loop [.slice none 0 0,.int .i64 0] (fun vs => .popS vs fun a n c vs => .popI .i64 vs fun n_13 vs => .unNil vs (bif decide (n_13 < (↑an:Int)) then .need (0 <= n_13 /\ n_13 < (↑an:Int)) (.someA ap fun a_8 => .loadI .i64 (a_8.add (n_13.toNat * 1)) fun n_14 => .need (0 <= n_13) (bif wrap .i64 (↑(BitVec.toNat (BitVec.ofInt 64 (Int.fdiv n_12 (2 ^ min (n_13.toNat) 64)) &&& BitVec.ofInt 64 1)):Int) == 1 then .sem false (Instr.buildSlice 30 1 #[(0,.int .i64 n_14)]) fun v => .unS v fun a_9 n_15 c_8 => .sem false (Builtin.append_ #[30,30] 30 #[.slice a n c,.slice a_9 n_15 c_8]) fun v => .unS v fun a n c => .leaf (.again [.slice a n c,.int .i64 (wrap .i64 (n_13 + 1))]) else .leaf (.again [.slice a n c,.int .i64 (wrap .i64 (n_13 + 1))]))) else .leaf (.brk [.slice a n c,.int .i64 n_13]))) (fun vs => .popS vs fun a_8 n_13 c_8 vs => .popI .i64 vs fun n_14 vs => .unNil vs (.call false 78 #[.agg #[.slice a n c,.slice a_1 n_1 c_1,.slice a_2 n_2 c_2,.int .i64 n_3,.int .i64 n_4,.slice a_3 n_5 c_3,.slice a_4 n_6 c_4],.slice a_8 n_13 c_8] fun v => .unS v fun a n c => bif wrap .i64 ((↑n_13:Int) + (↑n:Int)) == n_9 then bif n_12 == 0 then .leaf (.again [.slice a_8 n_13 c_8,.slice a n c,.int .i64 (wrap .i64 (n_12 + 1))]) else .sem false (Sem.bind (eqGuard BinOp.eql 30 (Operand.tmp 77) (Operand.const (.slice none 0 0)) (.slice a_6 n_10 c_6) (.slice none 0 0)) fun __r => binOp BinOp.eql 30 (.slice a_6 n_10 c_6) (.slice none 0 0)) fun v => .unB v fun b => bif b then .sem false (Sem.bind (eqGuard BinOp.eql 30 (Operand.tmp 80) (Operand.const (.slice none 0 0)) (.slice a_7 n_11 c_7) (.slice none 0 0)) fun __r => binOp BinOp.eql 30 (.slice a_7 n_11 c_7) (.slice none 0 0)) fun v => .unB v fun b => bif b then .leaf (.again [.slice a_8 n_13 c_8,.slice a n c,.int .i64 (wrap .i64 (n_12 + 1))]) else .call false 79 #[.slice a_8 n_13 c_8,.slice a_6 n_10 c_6] fun v => .unI .i64 v fun n_15 => bif decide (n_15 < 0) then .leaf (.again [.slice a_8 n_13 c_8,.slice a n c,.int .i64 (wrap .i64 (n_12 + 1))]) else .leaf (.again [.slice a_6 n_10 c_6,.slice a_7 n_11 c_7,.int .i64 (wrap .i64 (n_12 + 1))]) else .call false 79 #[.slice a_8 n_13 c_8,.slice a_6 n_10 c_6] fun v => .unI .i64 v fun n_15 => bif decide (n_15 < 0) then .leaf (.again [.slice a_8 n_13 c_8,.slice a n c,.int .i64 (wrap .i64 (n_12 + 1))]) else .leaf (.again [.slice a_6 n_10 c_6,.slice a_7 n_11 c_7,.int .i64 (wrap .i64 (n_12 + 1))]) else .leaf (.again [.slice a_6 n_10 c_6,.slice a_7 n_11 c_7,.int .i64 (wrap .i64 (n_12 + 1))]))) (fun vs => .popS vs fun a n c vs => .popI .i64 vs fun n vs => .unNil vs (.leaf (.retn [.slice a_6 n_10 c_6,.slice a_7 n_11 c_7,.int .i64 n_12]))) fun x x_1 => .fail else .leaf (.brk [.slice a_6 n_10 c_6,.slice a_7 n_11 c_7,.int .i64 n_12]))) (fun vs => .popS vs fun a_6 n_10 c_6 vs => .popS vs fun a_7 n_11 c_7 vs => .popI .i64 vs fun n_12 vs => .unNil vs (.call false 80 #[.agg #[.slice a n c,.slice a_1 n_1 c_1,.slice a_2 n_2 c_2,.int .i64 n_3,.int .i64 n_4,.slice a_3 n_5 c_3,.slice a_4 n_6 c_4],.slice a_5 n_8 c_5,.int .i64 n_9] fun v => .unS v fun a n c => .leaf (.ret (.tuple #[.slice a_6 n_10 c_6,.slice a_7 n_11 c_7,.slice a n c,.int .i64 0])))) (fun vs => .popS vs fun a n c vs => .popS vs fun a_6 n_10 c_6 vs => .popI .i64 vs fun n_11 vs => .unNil vs (.leaf (.ret (.tuple #[.slice a n c,.slice a_6 n_10 c_6,.slice none 0 0,.int .i64 n_7])))) fun x x_1 => .fail)))
theorem w3164 (t_0p:Option Addr) (t_0n t_0c:Nat) (t_1p:Option Addr) (t_1n t_1c:Nat) (t_2p:Option Addr) (t_2n t_2c:Nat) (edition:Int) (ap:Option Addr) (an ac:Nat) (bp:Option Addr) (bn bc:Nat) (level:Int):FX X 38 #[.agg #[.slice t_0p t_0n t_0c,.slice t_1p t_1n t_1c,.slice t_2p t_2n t_2c],.int .i64 edition,.slice ap an ac,.slice bp bn bc,.int .i64 level] h A (n3164 t_0p t_0n t_0c t_1p t_1n t_1c t_2p t_2n t_2c edition ap an ac bp bn bc level) := fk [5,14] [⟨2,[(18,.slice),(48,.int .i64)],[5,14],[],[],[]⟩,⟨0,[(10,.slice),(11,.slice),(43,.int .i64)],[5,14],[],[],[]⟩] [] Tryz.f38
noncomputable def n3129 (u_0 u_1 u_2 u_3:Int) (u_4p:Option Addr) (u_4n u_4c:Nat) (u_5p:Option Addr) (u_5n u_5c:Nat) (u_6p:Option Addr) (u_6n u_6c:Nat) (land day:Int) (t_0p:Option Addr) (t_0n t_0c:Nat) (t_1p:Option Addr) (t_1n t_1c:Nat) (t_2p:Option Addr) (t_2n t_2c:Nat) (edition:Int) (otherp:Option Addr) (othern otherc:Nat) (level:Int):T := .call false 36 #[.agg #[.int .i64 u_0,.int .i64 u_1,.int .i64 u_2,.int .i64 u_3,.slice u_4p u_4n u_4c,.slice u_5p u_5n u_5c,.slice u_6p u_6n u_6c],.int .i64 land,.int .i64 day,.agg #[.slice t_0p t_0n t_0c,.slice t_1p t_1n t_1c,.slice t_2p t_2n t_2c],.int .i64 edition,.bool false] fun v => .unTup v fun l => .unCons l fun v vs => .unS v fun a n c => .unCons vs fun v vs => .unB v fun b => .unNil vs (.call false 38 #[.agg #[.slice t_0p t_0n t_0c,.slice t_1p t_1n t_1c,.slice t_2p t_2n t_2c],.int .i64 edition,.slice a n c,.slice otherp othern otherc,.int .i64 level] fun v => .unTup v fun l => .unCons l fun v vs => .unS v fun a n c => .unCons vs fun v vs => .unS v fun a n_1 c => .unCons vs fun v vs => .unS v fun a n_2 c => .unCons vs fun v vs => .unI .i64 v fun n_3 => .unNil vs (bif b then .leaf (.ret (.tuple #[.int .i64 (wrap .i64 ((↑n:Int) + (↑n_1:Int))),.bool (n_3 == 0)])) else .leaf (.ret (.tuple #[.int .i64 (wrap .i64 ((↑n:Int) + (↑n_1:Int))),.bool false]))))
theorem w3129 (u_0 u_1 u_2 u_3:Int) (u_4p:Option Addr) (u_4n u_4c:Nat) (u_5p:Option Addr) (u_5n u_5c:Nat) (u_6p:Option Addr) (u_6n u_6c:Nat) (land day:Int) (t_0p:Option Addr) (t_0n t_0c:Nat) (t_1p:Option Addr) (t_1n t_1c:Nat) (t_2p:Option Addr) (t_2n t_2c:Nat) (edition:Int) (otherp:Option Addr) (othern otherc:Nat) (level:Int):FX X 14 #[.agg #[.int .i64 u_0,.int .i64 u_1,.int .i64 u_2,.int .i64 u_3,.slice u_4p u_4n u_4c,.slice u_5p u_5n u_5c,.slice u_6p u_6n u_6c],.int .i64 land,.int .i64 day,.agg #[.slice t_0p t_0n t_0c,.slice t_1p t_1n t_1c,.slice t_2p t_2n t_2c],.int .i64 edition,.slice otherp othern otherc,.int .i64 level] h A (n3129 u_0 u_1 u_2 u_3 u_4p u_4n u_4c u_5p u_5n u_5c u_6p u_6n u_6c land day t_0p t_0n t_0c t_1p t_1n t_1c t_2p t_2n t_2c
  edition otherp othern otherc level) := fk [7,10] [] [] Tryz.f14
end Go.Proofs.YtfkfohpnpljihaaGreatDoor
end
section
namespace Go.TM.Rv
open Go Go.Conc Go.TM
attribute [local irreducible] T.wp CV FWK
/-! ### Halves -/
def diff (h h':Cells):Cells := fun r => match h r with
 | some _ => none
 | none => h' r
theorem diff_disj (h h':Cells):Disj h (diff h h') := fun r => by
 unfold diff
 cases h r with
 | none => exact .inl rfl
 | some x => exact .inr rfl
theorem diff_get {h h':Cells} (hl:h.le h'):h.add (diff h h') = h' := by
 funext r
 unfold Cells.add diff
 cases e:h r with
 | none => rfl
 | some x => exact (hl r x e).symm
theorem diff_add {h h':LH} (hl:h.le h'):h.add (diff h.get h'.get) = h' := by
 obtain ⟨h1,h2,h3,h4⟩ := hl
 show ({ h with get := h.get.add (diff h.get h'.get) }:LH) = h'
 rw [diff_get h1]
 cases h; cases h'
 simp only at h2 h3 h4
 subst h2; subst h3; subst h4
 rfl
section
variable {P:Program} {X:XP} {Q:Leaf -> LH -> Prop}
end
end Go.TM.Rv
end
section
namespace Go.TM
open Go Go.Conc
variable {P:Program} {X:XP} {Q:Leaf -> LH -> Prop}
theorem t_push {α:Type} {Enc:α -> List Value -> Prop} {h h₀:LH} {K:Value -> T} {ts:Array TypeId} {ty t el:TypeId} {s by_:Nat} {z:Value} {parts:Array (Nat × Value)} {p:Option Addr} {n c:Nat} {l:List α} (x:α) (ws:List Value) (h0:ts[0]? = some t) (h1:ts[1]? = some t) (hu:P.underlying t = some (.slice el))
  (hi:(P.info? el).map (fun i => (i.size,i.bytes,i.zero)) = some (s,by_,some z)) (hsz:z.cells.size = s) (hb:by_ <= 1024) (hs:1 * s <= 2 ^ 24 /\ 1 * s ≠ 0) (hf:Instr.fill (fun i => some (i * s,s)) ((Array.range (1 * s)).map (z.cells[· % z.cells.size]!)) parts.toList = some ws.toArray)
  (hl:ws.length = s) (one:∀ v ∈ ws,isOne v = true) (hn:n + 1 <= 2 ^ 30) (g:Growing Enc el s h₀.get h.get p n c l) (hle:h₀.le h) (he:Enc x ws)
  (hk:∀ p' c' h',h₀.le h' -> (∀ r y,(∀ a,p = some a -> a.block ≠ r) -> h.get r = some y -> h'.get r = some y) -> Growing Enc el s h₀.get h'.get p' (n + 1) c' (l ++ [x]) -> (K (.slice p' (n + 1) c')).wp X P Q h') :
  (T.sem false (Instr.buildSlice t 1 parts) fun v => T.unS v fun a m mc => T.sem false (Builtin.append_ ts ty #[.slice p n c,.slice a m mc]) K).wp X P Q h := by
 refine t_build hu hi hs.1 hs.2 hf fun r hr => ?_
 have le2:h.le _ := LH.upd_le (x := (true,.cells ws.toArray el (0,0))) hr
 refine gG ?_
 refine t_grow (h₀ := h₀) (x := x) (ws := ws) h0 h1 hu hu hi hsz hb hn (g.le le2.1) (LH.le_trans hle le2) he hl ?_ one fun p' c' h' hle' hkept g' => hk p' c' h' hle' (fun b y hb hy => hkept b y hb (le2.1 b y hy)) g'
 intro j w hj
 rw [add_plain,Nat.zero_add]
 exact cell_upd (by simpa using hj)
end Go.TM
namespace Go.TM
open Go Go.Conc
variable {P:Program} {X:XP} {Q:Leaf -> LH -> Prop}
end Go.TM
namespace Go.TM
open Go Go.Conc
variable {P:Program} {X:XP} {Q:Leaf -> LH -> Prop}
end Go.TM
end
section
namespace Go.TM
open Go
def PairE (h:Cells) (a:Addr) (x:Int × Int):Prop := h.cell? (a.add 0) = some (.int .i64 x.1) /\ h.cell? (a.add 1) = some (.int .i64 x.2)
theorem PairE.grow:Grow PairE := fun _ _ _ _ hl h => ⟨hl _ _ h.1,hl _ _ h.2⟩
def PairEnc (x:Int × Int) (ws:List Value):Prop := ws = [.int .i64 x.1,.int .i64 x.2]
theorem PairEnc.len:∀ x ws,PairEnc x ws -> ws.length = 2 := by rintro x _ rfl; rfl
theorem PairEnc.e {h':Cells}:∀ a x ws,PairEnc x ws -> (∀ (j:Nat) w,ws[j]? = some w -> h'.cell? (a.add j) = some w) -> PairE h' a x := by
 rintro a x _ rfl hw
 exact ⟨hw 0 _ rfl,hw 1 _ rfl⟩
theorem PairE.told {h:Cells}:ToldE PairE PairEnc 2 h := by
 rintro a x ⟨h1,h2⟩
 refine ⟨_,rfl,rfl,fun j w hj => ?_,fun w hw => ?_⟩
 ·match j,hj with
  | 0,hj => cases hj; exact h1
  | 1,hj => cases hj; exact h2
 ·simp at hw
  rcases hw with rfl | rfl <;> rfl
def kinIs (e one two:Int) (k:GKn):Bool := k.ed == e && (k.one == (if two < one then two else one) && k.two == (if two > one then two else one))
def levelF (t:GTab) (e one two:Int):Int := if one = two then 5 else match t.kins.find? (kinIs e one two) with
 | none => 0
 | some k => k.lev
def pairOk (t:GTab) (e lev:Int) (x y:List Int) (one two:Int):Bool := !(x.contains one || (y.contains two || decide (levelF t e one two < lev)))
def pairs1 (t:GTab) (e lev:Int) (x y b:List Int) (one:Int):List (Int × Int) := (b.filter (pairOk t e lev x y one)).map fun two => (one,two)
def pairsF (t:GTab) (e lev:Int) (a b x y:List Int):List (Int × Int) := a.flatMap (pairs1 t e lev x y b)
def pairV (p:Int × Int):List Value := [.agg #[.int .i64 p.1,.int .i64 p.2]]
theorem mem_pairs {t:GTab} {e lev:Int} {a b x y:List Int} {p:Int × Int}:p ∈ pairsF t e lev a b x y ↔ p.1 ∈ a /\ p.2 ∈ b /\ pairOk t e lev x y p.1 p.2 = true := by
 unfold pairsF pairs1
 rw [List.mem_flatMap]
 constructor
 ·rintro ⟨one,h1,h2⟩
  obtain ⟨two,h3,rfl⟩ := List.mem_map.1 h2
  obtain ⟨h4,h5⟩ := List.mem_filter.1 h3
  exact ⟨h1,h4,h5⟩
 ·rintro ⟨h1,h2,h3⟩
  exact ⟨p.1,h1,List.mem_map.2 ⟨p.2,List.mem_filter.2 ⟨h2,h3⟩,rfl⟩⟩
end Go.TM
namespace Go.Proofs.YtfkfohpnpljihaaGreatDoor
open Go Go.TM Go.Proofs
attribute [local irreducible] T.wp CV FWK
theorem c3232 {h:LH} {z0 z1 z2:Addr} {e one two:Int} (h0:h.get.cell? z0 = some (.int .i64 e)) (h1:h.get.cell? z1 = some (.int .i64 one)) (h2:h.get.cell? z2 = some (.int .i64 two)) (k:GKn) :
  Pu Tryz.prog 165 #[.agg #[.int .i64 k.ed,.int .i64 k.one,.int .i64 k.two,.int .i64 k.lev],.pointer (some z0),.pointer (some z1),.pointer (some z2)] h (.bool (kinIs e one two k)) := by
 refine w3232 _ _ _ _ _ _ _ X0_ok ?_
 unfold n3232 kinIs
 refine gZ ?_
 refine t_cond (fun b1 => ?_) (fun b1 => ?_)
 ·refine gZ ?_
  refine t_cond (fun b2 => ?_) (fun b2 => ?_)
  ·refine gZ ?_
   rw [b1,b2]
   exact t_ret ⟨rfl,rfl⟩
  ·rw [b1,b2]
   exact t_ret ⟨rfl,rfl⟩
 ·rw [b1]
  exact t_ret ⟨rfl,rfl⟩
theorem c3231 {h:LH} {p:Option Addr} {n c:Nat} {l:List GKn} {fv:Value} {g:GKn -> Bool} (hl:Sl KnE 4 h.get p n l) (hf:∀ k,CV X0 Tryz.prog fv #[.agg #[.int .i64 k.ed,.int .i64 k.one,.int .i64 k.two,.int .i64 k.lev]] h fun r h' => r = .bool (g k) /\ h' = h) :
  FW X0 Tryz.prog 164 #[.slice p n c,fv] h fun r h' => h = h' /\ ((r = .int .i64 (-1) /\ l.find? g = none) \/ ∃ (i:Nat) (x:GKn),i < n /\ r = .int .i64 i /\ l[i]? = some x /\ l.find? g = some x) := by
 refine w3231 _ _ _ _ X0_ok ?_
 unfold n3231
 have hn := hl.1
 have hb := hl.2.1
 refine t_loop (fun mm vs h' => h' = h /\ ∃ i:Nat,vs = [.int .i64 0,.int .i64 i] /\ i <= n /\ mm = n - i /\ l.find? g = (l.drop i).find? g) ⟨rfl,0,rfl,Nat.zero_le _,rfl,rfl⟩ ?_
 rintro Y mm vs _ hY ⟨rfl,i,rfl,hi,rfl,hall⟩
 refine gZ ?_
 refine t_if (fun e1 => ?_) (fun e1 => ?_)
 ·obtain ⟨x,a,hx,ha,e2,e3,e4,e5⟩ := hl.at (i := i) (by omega)
  have hin:0 <= (i:Int) /\ (i:Int) < (n:Int) := by omega
  rw [drop_of hx,List.find?_cons] at hall
  refine gZ ?_
  refine t_callv (hf x) ?_
  rintro _ _ ⟨rfl,rfl⟩
  refine gZ ?_
  refine t_cond (fun b1 => ?_) (fun b1 => ?_)
  ·refine gI ?_
   rw [b1] at hall
   refine gZ ?_
   exact t_ret ⟨rfl,.inr ⟨i,x,by omega,rfl,hx,hall⟩⟩
  ·rw [b1] at hall
   refine t_again (hY (n - (i + 1)) _ _ (by omega) ⟨rfl,i + 1,?_,by omega,rfl,hall⟩)
   rw [wrap_id (by omega) (by omega)]; rfl
 ·refine gZ ?_
  rw [List.drop_eq_nil_of_le (by omega)] at hall
  exact t_ret ⟨rfl,.inl ⟨rfl,hall⟩⟩
theorem c3201 {h:LH} {f:TabC} {t:GTab} (hr:TabR h.get f t) (e one two:Int):Gr Tryz.prog 119 #[tabV f,.int .i64 e,.int .i64 one,.int .i64 two] h fun r _ => r = .int .i64 (levelF t e one two) := by
 refine w3201 _ _ _ _ _ _ _ _ _ _ _ _ X0_ok ?_
 unfold n3201
 refine t_new fun r0 hr0 => ?_
 refine t_new fun r1 hr1 => ?_
 refine t_new fun r2 hr2 => ?_
 have le0 := LH.upd_le (x := (true,.cells #[.int .i64 e] 3 (0,0))) hr0
 have le1 := LH.upd_le (x := (true,.cells #[.int .i64 one] 3 (0,0))) hr1
 have le2 := LH.upd_le (x := (true,.cells #[.int .i64 two] 3 (0,0))) hr2
 have le12 := LH.le_trans le1 le2
 have le02 := LH.le_trans le0 le12
 have k0:Cells.cell? (Cells.upd (Cells.upd (Cells.upd h.get r0 (true,.cells #[.int .i64 e] 3 (0,0))) r1 (true,.cells #[.int .i64 one] 3 (0,0))) r2 (true,.cells #[.int .i64 two] 3 (0,0))) ⟨r0,0,none⟩ = some (.int .i64 e) := Cells.cell?_le le12.1 (cell_upd rfl)
 have k1:Cells.cell? (Cells.upd (Cells.upd (Cells.upd h.get r0 (true,.cells #[.int .i64 e] 3 (0,0))) r1 (true,.cells #[.int .i64 one] 3 (0,0))) r2 (true,.cells #[.int .i64 two] 3 (0,0))) ⟨r1,0,none⟩ = some (.int .i64 one) := Cells.cell?_le le2.1 (cell_upd rfl)
 have k2:Cells.cell? (Cells.upd (Cells.upd (Cells.upd h.get r0 (true,.cells #[.int .i64 e] 3 (0,0))) r1 (true,.cells #[.int .i64 one] 3 (0,0))) r2 (true,.cells #[.int .i64 two] 3 (0,0))) ⟨r2,0,none⟩ = some (.int .i64 two) := cell_upd rfl
 have hr3 := hr.le le02.1
 refine gL0 k1 ?_
 refine gL0 k2 ?_
 unfold levelF
 refine t_cond (fun b1 => ?_) (fun b1 => ?_)
 ·rw [if_pos (by simpa using b1)]
  exact t_ret ⟨le02,rfl⟩
 ·rw [if_neg (by simpa using b1)]
  refine t_call (FW.top (c3231 hr3.kins fun k => cv_fw (first := #[]) (args := #[.agg #[.int .i64 k.ed,.int .i64 k.one,.int .i64 k.two,.int .i64 k.lev]]) (cap := #[.pointer (some ⟨r0,0,none⟩),.pointer (some ⟨r1,0,none⟩),.pointer (some ⟨r2,0,none⟩)]) X0_ok rfl (c3232 k0 k1 k2 k))) ?_
  have hn := hr3.kins.1
  have hb := hr3.kins.2.1
  rintro _ _ ⟨rfl,⟨rfl,hfi⟩ | ⟨i,x,hi,rfl,hx,hfi⟩⟩
  ·refine gZ ?_
   refine t_cond (fun _ => ?_) (fun e => by cases e)
   rw [hfi]
   exact t_ret ⟨le02,rfl⟩
  ·refine gZ ?_
   refine t_if (fun e => absurd e (by omega)) (fun _ => ?_)
   obtain ⟨x',a,hx',ha,e2,e3,e4,e5⟩ := hr3.kins.at (i := i) (by omega)
   rw [hx] at hx'
   cases hx'
   have hin:0 <= (i:Int) /\ (i:Int) < (f.n2:Int) := by omega
   refine gZ ?_
   rw [hfi]
   exact t_ret ⟨le02,rfl⟩
structure TalkAt (h:Cells) (z:Addr) (f:TabC) (e lev:Int) (p:Option Addr) (n c:Nat) (q:Option Addr) (m d:Nat):Prop where
 t0:h.cell? (Addr.add (Addr.add z 0) 0) = some (.slice f.p0 f.n0 f.c0)
 t1:h.cell? (Addr.add (Addr.add z 0) 1) = some (.slice f.p1 f.n1 f.c1)
 t2:h.cell? (Addr.add (Addr.add z 0) 2) = some (.slice f.p2 f.n2 f.c2)
 t3:h.cell? (Addr.add z 3) = some (.int .i64 e)
 t4:h.cell? (Addr.add z 4) = some (.int .i64 lev)
 t5:h.cell? (Addr.add z 5) = some (.slice p n c)
 t6:h.cell? (Addr.add z 6) = some (.slice q m d)
theorem TalkAt.le {h h':Cells} {z:Addr} {f:TabC} {e lev:Int} {p q:Option Addr} {n c m d:Nat} (hl:h.le h') (a:TalkAt h z f e lev p n c q m d):TalkAt h' z f e lev p n c q m d :=
 ⟨Cells.cell?_le hl a.t0,Cells.cell?_le hl a.t1,Cells.cell?_le hl a.t2,Cells.cell?_le hl a.t3,Cells.cell?_le hl a.t4,Cells.cell?_le hl a.t5,Cells.cell?_le hl a.t6⟩
theorem hands3212 {h₀:LH} {z0 z1 z2:Addr} {f:TabC} {t:GTab} {e lev:Int} {p q px py:Option Addr} {n c m d nx cx ny cy:Nat} {a b x y:List Int} (ht:TalkAt h₀.get z0 f e lev p n c q m d) (hz1:h₀.get.cell? z1 = some (.slice px nx cx)) (hz2:h₀.get.cell? z2 = some (.slice py ny cy))
  (hr:TabR h₀.get f t) (ha:Sl IntE 1 h₀.get p n a) (hb:Sl IntE 1 h₀.get q m b) (hx:Sl IntE 1 h₀.get px nx x) (hy:Sl IntE 1 h₀.get py ny y) :
  Hands X0 Tryz.prog (.func (.func 124) #[] #[.pointer (some z0),.pointer (some z1),.pointer (some z2)]) h₀ ((pairsF t e lev a b x y).map pairV) := by
 intro yv J E hJf _ hyield h hle hJ
 refine cv_fw X0_ok (by rfl) (?_:FW X0 Tryz.prog 124 #[yv,.pointer (some z0),.pointer (some z1),.pointer (some z2)] h _)
 refine w3212 _ _ _ _ X0_ok ?_
 unfold n3212
 have hna := ha.1
 have hba := ha.2.1
 have hnb := hb.1
 have hbb := hb.2.1
 have y5 := (ht.le hle.1).t5
 generalize hL:(pairsF t e lev a b x y).map pairV = L at hyield ⊢
 refine gZ ?_
 refine t_loop (fun mm vs h' => h₀.le h' /\ ∃ (i cnt:Nat),vs = [.int .i64 i] /\ i <= n /\ mm = n - i /\ J cnt h' /\ cnt <= L.length /\ L.drop cnt = (pairsF t e lev (a.drop i) b x y).map pairV) ⟨hle,0,0,rfl,Nat.zero_le _,rfl,hJ,Nat.zero_le _,hL.symm⟩ ?_
 rintro Y mm vs h₁ hY ⟨le1,i,cnt,rfl,hi,rfl,hJ1,hcl,hdrop⟩
 refine gZ ?_
 refine t_if (fun e1 => ?_) (fun e1 => ?_)
 ·obtain ⟨one,ad,hone,had,e2⟩ := (ha.le IntE.grow le1.1).at (i := i) (by omega)
  unfold IntE at e2
  have hin:0 <= (i:Int) /\ (i:Int) < (n:Int) := by omega
  have y6 := (ht.le le1.1).t6
  rw [drop_of hone,show pairsF t e lev (one :: a.drop (i + 1)) b x y = pairs1 t e lev x y b one ++ pairsF t e lev (a.drop (i + 1)) b x y from List.flatMap_cons,List.map_append] at hdrop
  generalize hR:(pairsF t e lev (a.drop (i + 1)) b x y).map pairV = R at hdrop
  refine gZ ?_
  refine t_loopB (fun mm vs h' => h₀.le h' /\ ∃ (j cnt:Nat),vs = [.int .i64 j] /\ j <= m /\ mm = m - j /\ J cnt h' /\ cnt <= L.length /\ L.drop cnt = (pairs1 t e lev x y (b.drop j) one).map pairV ++ R)
   (fun vs h' => h₀.le h' /\ ∃ (j cnt:Nat),vs = [.int .i64 j] /\ J cnt h' /\ cnt <= L.length /\ L.drop cnt = R) ⟨le1,0,cnt,rfl,Nat.zero_le _,rfl,hJ1,hcl,hdrop⟩ ?_ ?_
  ·rintro Y2 mm vs h₂ hY2 ⟨le2,j,cnt,rfl,hj,rfl,hJ2,hcl,hdrop⟩
   refine gZ ?_
   refine t_if (fun e3 => ?_) (fun e3 => ?_)
   ·obtain ⟨two,ad2,htwo,had2,e4⟩ := (hb.le IntE.grow le2.1).at (i := j) (by omega)
    unfold IntE at e4
    have hin2:0 <= (j:Int) /\ (j:Int) < (m:Int) := by omega
    have w1 := Cells.cell?_le le2.1 hz1
    rw [drop_of htwo,show pairs1 t e lev x y (two :: b.drop (j + 1)) one = (if pairOk t e lev x y one two then [(one,two)] else []) ++ pairs1 t e lev x y (b.drop (j + 1)) one by
     unfold pairs1; rw [List.filter_cons]; split <;> rfl] at hdrop
    have next:∀ {h':LH},h₀.le h' -> ∀ cnt',J cnt' h' -> cnt' <= L.length -> L.drop cnt' = (pairs1 t e lev x y (b.drop (j + 1)) one).map pairV ++ R -> Y2 [.int .i64 (wrap .i64 ((j:Int) + 1))] h' := fun hl' cnt' hJ' hc' hd' => by
     refine hY2 (m - (j + 1)) _ _ (by omega) ⟨hl',j + 1,cnt',?_,by omega,rfl,hJ',hc',hd'⟩
     rw [wrap_id (by omega) (by omega)]; rfl
    refine gZ ?_
    refine t_pu (c100 (hx.le IntE.grow le2.1) one) ?_
    refine gZ ?_
    refine t_cond (fun b1 => ?_) (fun b1 => ?_)
    ·refine gZ ?_
     have hno:pairOk t e lev x y one two = false := by unfold pairOk; rw [b1]; rfl
     rw [hno] at hdrop
     exact t_again (next le2 cnt hJ2 hcl (by simpa using hdrop))
    have w2 := Cells.cell?_le le2.1 hz2
    refine gZ ?_
    refine t_pu (c100 (hy.le IntE.grow le2.1) two) ?_
    refine gZ ?_
    refine t_cond (fun b2 => ?_) (fun b2 => ?_)
    ·refine gZ ?_
     have hno:pairOk t e lev x y one two = false := by unfold pairOk; rw [b1,b2]; rfl
     rw [hno] at hdrop
     exact t_again (next le2 cnt hJ2 hcl (by simpa using hdrop))
    have v0 := (ht.le le2.1).t0
    have v1 := (ht.le le2.1).t1
    have v2 := (ht.le le2.1).t2
    have v3 := (ht.le le2.1).t3
    have v4 := (ht.le le2.1).t4
    refine gZ ?_
    refine t_gr (c3201 (hr.le le2.1) e one two) ?_
    rintro _ h₃ le3 rfl
    have le03 := LH.le_trans le2 le3
    have v4' := (ht.le le03.1).t4
    refine gZ ?_
    have hJ3:J cnt h₃ := by
     have := hJf cnt h₂ _ hJ2 (Rv.diff_disj h₂.get h₃.get)
     rwa [Rv.diff_add le3] at this
    refine t_if (fun e5 => ?_) (fun e5 => ?_)
    ·have hno:pairOk t e lev x y one two = false := by unfold pairOk; rw [b1,b2,decide_eq_true e5]; rfl
     rw [hno] at hdrop
     exact t_again (next le03 cnt hJ3 hcl (by simpa using hdrop))
    ·have hyes:pairOk t e lev x y one two = true := by unfold pairOk; rw [b1,b2,decide_eq_false e5]; rfl
     rw [hyes] at hdrop
     have hget:L[cnt]? = some (pairV (one,two)) := by
      have:(L.drop cnt)[0]? = some (pairV (one,two)) := by rw [hdrop]; rfl
      simpa using this
     have hcv := hyield cnt h₃ _ le03 hget hJ3
     refine t_callv hcv ?_
     rintro bb h₄ ⟨le4,⟨rfl,hJ4⟩ | ⟨rfl,hE⟩⟩
     ·refine gZ ?_
      refine t_cond (fun e => by cases e) (fun _ => ?_)
      refine t_again (next le4 (cnt + 1) hJ4 (List.getElem?_eq_some_iff.1 hget).1 ?_)
      rw [<- List.drop_drop,hdrop]; rfl
     ·refine gZ ?_
      refine t_cond (fun _ => ?_) (fun e => by cases e)
      refine gZ ?_
      exact t_ret ⟨le4,.inr hE⟩
   ·refine gZ ?_
    rw [List.drop_eq_nil_of_le (by omega:b.length <= j)] at hdrop
    exact ⟨le2,j,cnt,rfl,hJ2,hcl,by simpa [pairs1] using hdrop⟩
  ·rintro vs h₂ ⟨le2,j,cnt,rfl,hJ2,hcl,hd⟩
   refine gZ ?_
   refine t_again (hY (n - (i + 1)) _ _ (by omega) ⟨le2,i + 1,cnt,?_,by omega,rfl,hJ2,hcl,by rw [hd,hR]⟩)
   rw [wrap_id (by omega) (by omega)]; rfl
 ·refine gZ ?_
  rw [List.drop_eq_nil_of_le (by omega:a.length <= i)] at hdrop
  have h0:L.drop cnt = [] := by simpa [pairsF] using hdrop
  have hd := congrArg List.length h0
  rw [List.length_drop,List.length_nil] at hd
  have:cnt = L.length := by omega
  exact t_ret ⟨le1,.inl (this ▸ hJ1)⟩
theorem c3190 {h:LH} {f:TabC} {t:GTab} {e lev:Int} {p q px py:Option Addr} {n c m d nx cx ny cy:Nat} {a b x y:List Int} (hr:TabR h.get f t) (ha:Sl IntE 1 h.get p n a) (hb:Sl IntE 1 h.get q m b) (hx:Sl IntE 1 h.get px nx x) (hy:Sl IntE 1 h.get py ny y) :
  Gr Tryz.prog 76 #[.agg #[.slice f.p0 f.n0 f.c0,.slice f.p1 f.n1 f.c1,.slice f.p2 f.n2 f.c2,.int .i64 e,.int .i64 lev,.slice p n c,.slice q m d],.slice px nx cx,.slice py ny cy] h fun r h' => Hands X0 Tryz.prog r h' ((pairsF t e lev a b x y).map pairV) := by
 refine w3190 _ _ _ _ _ _ _ _ _ _ _ _ _ _ _ _ _ _ _ _ _ _ _ X0_ok ?_
 unfold n3190
 refine t_new fun r0 hr0 => ?_
 refine t_new fun r1 hr1 => ?_
 refine t_new fun r2 hr2 => ?_
 have le0 := LH.upd_le (x := (true,.cells #[.slice f.p0 f.n0 f.c0,.slice f.p1 f.n1 f.c1,.slice f.p2 f.n2 f.c2,.int .i64 e,.int .i64 lev,.slice p n c,.slice q m d] 145 (0,0))) hr0
 have le1 := LH.upd_le (x := (true,.cells #[.slice px nx cx] 30 (0,0))) hr1
 have le2 := LH.upd_le (x := (true,.cells #[.slice py ny cy] 30 (0,0))) hr2
 have le12 := LH.le_trans le1 le2
 have le02 := LH.le_trans le0 le12
 have hc:∀ (j:Nat) v,[Value.slice f.p0 f.n0 f.c0,.slice f.p1 f.n1 f.c1,.slice f.p2 f.n2 f.c2,.int .i64 e,.int .i64 lev,.slice p n c,.slice q m d][j]? = some v -> Cells.cell? (Cells.upd (Cells.upd (Cells.upd h.get r0 (true,.cells #[.slice f.p0 f.n0 f.c0,.slice f.p1 f.n1 f.c1,.slice f.p2 f.n2 f.c2,.int .i64 e,.int .i64 lev,.slice p n c,.slice q m d] 145 (0,0))) r1 (true,.cells #[.slice px nx cx] 30 (0,0))) r2 (true,.cells #[.slice py ny cy] 30 (0,0))) (Addr.add ⟨r0,0,none⟩ j) = some v := fun j v hj => by
  rw [add_plain,Nat.zero_add]
  exact Cells.cell?_le le12.1 (cell_upd (by simpa using hj))
 have e0:Addr.add ⟨r0,0,none⟩ 0 = ⟨r0,0,none⟩ := by rw [add_plain]
 refine t_ret ⟨le02,hands3212 (p := p) (n := n) (c := c) (q := q) (m := m) (d := d) (px := px) (nx := nx) (cx := cx) (py := py) (ny := ny) (cy := cy) ⟨by rw [e0]; exact hc 0 _ rfl,by rw [e0]; exact hc 1 _ rfl,by rw [e0]; exact hc 2 _ rfl,hc 3 _ rfl,hc 4 _ rfl,hc 5 _ rfl,hc 6 _ rfl⟩ ?_ (cell_upd rfl) (hr.le le02.1) (ha.le IntE.grow le02.1) (hb.le IntE.grow le02.1) (hx.le IntE.grow le02.1) (hy.le IntE.grow le02.1)⟩
 exact Cells.cell?_le le2.1 (cell_upd rfl)
/-! ### All of them -/
theorem und1192:Tryz.prog.underlying 98 = some (.slice 150) := by kernel_rfl
theorem inf1226:(Tryz.prog.info? 150).map (fun i => (i.size,i.bytes,i.zero)) = some (2,16,some (.agg #[.int .i64 0,.int .i64 0])) := by kernel_rfl
theorem t_pushP {X:XP} {Q:Leaf -> LH -> Prop} {h h₀:LH} {k:Value -> T} {p:Option Addr} {n c:Nat} {l:List (Int × Int)} {x y:Int} (g:Growing PairEnc 150 2 h₀.get h.get p n c l) (hle:h₀.le h) (hn:n + 1 <= 2 ^ 30)
  (hk:∀ p' c' h',h₀.le h' -> Growing PairEnc 150 2 h₀.get h'.get p' (n + 1) c' (l ++ [(x,y)]) -> (k (.slice p' (n + 1) c')).wp X Tryz.prog Q h') :
  (T.sem false (Instr.buildSlice 98 1 #[(0,.agg #[.int .i64 x,.int .i64 y])]) fun v => T.unS v fun a m c2 => T.sem false (Builtin.append_ #[98,98] 98 #[.slice p n c,.slice a m c2]) k).wp X Tryz.prog Q h :=
 t_push (x,y) [.int .i64 x,.int .i64 y] rfl rfl und1192 inf1226 rfl (by decide) (by decide) (by kernel_rfl) rfl (by intro v hv; simp at hv; rcases hv with rfl | rfl <;> rfl) hn g hle rfl fun p' c' h' hl' _ g' => hk p' c' h' hl' g'
theorem c3211 {h:LH} {L:List (Int × Int)} {v:Value} (hH:Hands X0 Tryz.prog v h (L.map pairV)) (hL:L.length <= 2 ^ 20) :
  Gr Tryz.prog 123 #[.slice none 0 0,v] h fun r h' => ∃ p c,r = .slice p L.length c /\ L.length <= c /\ Sl PairE 2 h'.get p L.length L := by
 refine w3211 _ _ _ _ X0_ok ?_
 unfold n3211
 refine t_each (LH.le_refl h) hH (fun j vs h' => ∃ (p:Option Addr) (n c:Nat),vs = [.slice p n c] /\ Growing PairEnc 150 2 h.get h'.get p n c (L.take j)) ⟨none,0,0,rfl,Growing.nil⟩ ?_ ?_
 ·rintro vs h' hle ⟨p,n,c,rfl,g⟩
  rw [List.take_of_length_le (by rw [List.length_map]; omega)] at g
  have hng := g.count PairEnc.len (by omega)
  have hs := g.sl PairEnc.len (by omega) PairEnc.e (by omega)
  have hcap:n <= c := by obtain ⟨_,o,_⟩ := g.row; exact o.le_cap
  subst hng
  refine gZ ?_
  exact t_ret ⟨hle,p,c,rfl,hcap,hs⟩
 ·rintro j xs vs h' hj hle ⟨p,n,c,rfl,g⟩ Y hY
  rw [List.getElem?_map] at hj
  obtain ⟨x,hx,rfl⟩ := Option.map_eq_some_iff.1 hj
  have hng := g.count PairEnc.len (by omega)
  rw [List.length_take] at hng
  unfold pairV
  refine gZ ?_
  refine t_pushP g hle (by omega) fun p' c' h2 le2 g2 => ?_
  refine gZ ?_
  refine t_againE le2 (hY _ _ le2 ⟨p',n + 1,c',rfl,?_⟩)
  rw [List.take_add_one,hx]; exact g2
theorem c3189 {h:LH} {L:List (Int × Int)} {v:Value} (hH:Hands X0 Tryz.prog v h (L.map pairV)) (hL:L.length <= 2 ^ 20) :
  Gr Tryz.prog 75 #[v] h fun r h' => ∃ p c,r = .slice p L.length c /\ L.length <= c /\ Sl PairE 2 h'.get p L.length L := by
 refine w3189 _ X0_ok ?_
 unfold n3189
 refine t_gr (c3211 hH hL) ?_
 rintro _ h1 le1 ⟨p,c,rfl,hc,hs⟩
 refine gZ ?_
 exact t_ret ⟨le1,p,c,rfl,hc,hs⟩
theorem c3188 {h:LH} {f:TabC} {t:GTab} (hr:TabR h.get f t) (ok:TabOk t) {e lev:Int} (he:0 <= e /\ e < (t.eds.length:Int)) (hlev:1 <= lev /\ lev <= 5) {p q:Option Addr} {n c m d:Nat} {a b:List Int} (ha:Sl IntE 1 h.get p n a) (oa:ListOk t e a) (hb:Sl IntE 1 h.get q m b) (ob:ListOk t e b) :
  Gr Tryz.prog 74 #[tabV f,.int .i64 e,.slice p n c,.slice q m d,.int .i64 lev] h fun r _ => r = .tuple #[.agg #[.slice f.p0 f.n0 f.c0,.slice f.p1 f.n1 f.c1,.slice f.p2 f.n2 f.c2,.int .i64 e,.int .i64 lev,.slice p n c,.slice q m d],.int .i64 0] := by
 refine w3188 _ _ _ _ _ _ _ _ _ _ _ _ _ _ _ _ _ X0_ok ?_
 unfold n3188
 refine t_buildG und106 infL (by decide) (by decide) (cells := #[.slice p n c,.slice q m d]) (by kernel_rfl) fun r h1 le1 _ e1 => ?_
 refine gZ ?_
 refine t_gr (c3133 (hr.le le1.1) ok he (sl_two e1 (ha.le IntE.grow le1.1) (hb.le IntE.grow le1.1)) fun l hl => ?_) ?_
 ·simp at hl
  rcases hl with rfl | rfl
  ·exact oa
  ·exact ob
 rintro _ h2 le2 rfl
 unfold tabV
 refine gZ ?_
 refine t_cond (fun _ => ?_) (fun e => by cases e)
 refine t_pu (c3183 _ _ _) ?_
 rw [show isIn lev 1 5 = true by unfold isIn; rw [decide_eq_true hlev.1,decide_eq_true hlev.2]; rfl]
 refine gZ ?_
 refine t_cond (fun e => by cases e) (fun _ => ?_)
 exact t_ret ⟨LH.le_trans le1 le2,rfl⟩
end Go.Proofs.YtfkfohpnpljihaaGreatDoor
end
section
namespace Go.TM
open Go Go.Conc
theorem t_newBox {P:Program} {X:XP} {Q:Leaf -> LH -> Prop} {h:LH} {el:TypeId} {z:Value} {v:Nat -> Value} {k:Nat -> T} (one:∀ r,isOne (v r) = true) (hk:∀ r,h.get r = none -> (k r).wp X P Q { h with get := h.get.upd r (true,.cells #[v r] el (0,0)) }) :
  (T.new el #[z] fun r => T.store (Addr.add ⟨r,0,none⟩ 0) (v r) (k r)).wp X P Q h := by
 refine t_new fun r hr => ?_
 refine t_storeC (r := r) (j := 0) (by rw [add_plain]) (Cells.upd_self _ _ _) (by simp) (one r) fun h' t' e' => ?_
 have:h' = { h with get := h.get.upd r (true,.cells #[v r] el (0,0)) } := by
  obtain ⟨g,c,p,d⟩ := h'
  obtain ⟨k1,k2,k3,k4⟩ := t'
  have eg:g = h.get.upd r (true,.cells #[v r] el (0,0)) := by
   funext b
   by_cases e:b = r
   ·subst e; rw [Cells.upd_self]; exact e'
   ·rw [Cells.upd_ne _ _ e]
    have := k1 b e
    rw [show ({ get := g,chans := c,pend := p,todo := d }:LH).get b = g b from rfl] at this
    rw [this]
    exact Cells.upd_ne _ _ e
  subst eg
  cases k2; cases k3; cases k4
  rfl
 rw [this]
 exact hk r hr
end Go.TM
end

/- Contracts and laws for the proof, joined by a program. No condition. -/
import Derived.Test.YtjlalnifmgppdaaGreatDoorM3
set_option linter.all false
noncomputable section
open Go Go.Conc Go.TM Go.Proofs
set_option maxRecDepth 100000
open Go.IntKind (wrap)
namespace Go.Y
section
set_option linter.unusedVariables false
variable {X:XP} {h:LH} {A:Value->LH->Prop}
def n1038(c_0p:Option Addr)(c_0n c_0c:Nat)(c_1p:Option Addr)(c_1n c_1c:Nat):T:=bif decide ((↑c_0n:Int)>20) then .rt (.bool true) else .rt (.bool (decide ((↑c_1n:Int)>20)))
theorem w1038(c_0p:Option Addr)(c_0n c_0c:Nat)(c_1p:Option Addr)(c_1n c_1c:Nat):FX X 40 #[.agg #[.slice c_0p c_0n c_0c,.slice c_1p c_1n c_1c]] h A (n1038 c_0p c_0n c_0c c_1p c_1n c_1c):=fk [1] [] [] Tryz.f40
def n1039(c_0p:Option Addr)(c_0n c_0c:Nat)(c_1p:Option Addr)(c_1n c_1c:Nat):T:=.loop [.int .i64 0,.int .i64 0] (fun vs=>.pi vs fun n vs=>.pi vs fun n_1 vs=>.unNil vs (bif decide (n_1<(↑c_0n:Int)) then .need (0<=n_1/\n_1<(↑c_0n:Int)) (.someA c_0p fun a=>.li (a.add (n_1.toNat*1)) fun n_2=>.cB 35 #[n_2,.int .i64 0,.int .i64 6] fun b=>bif !b then .rn [.int .i64 1,n_1] else bif decide (n_1>0) then .need (0<=n_1/\n_1<(↑c_0n:Int)) (.someA c_0p fun a=>.li (a.add (n_1.toNat*1)) fun n_3=>.need (0<=wrap .i64 (n_1-1)/\wrap .i64 (n_1-1)<(↑c_0n:Int)) (.someA c_0p fun a=>.li (a.add ((wrap .i64 (n_1-1)).toNat*1)) fun n_4=>bif decide (n_3<=n_4) then .rn [.int .i64 7,n_1] else .ag [n,.int .i64 (wrap .i64 (n_1+1))])) else .nds [.U,.U,.U,.U,.U,.U,.U,.B (decide (n_1>0)),n_1,.U,.U,.U,.U,.U,.U,.U,.B (decide (n_1>0)),n_1] (.ag [n,.int .i64 (wrap .i64 (n_1+1))])) else .bk [n,n_1])) (fun vs=>.pi vs fun n vs=>.pi vs fun n_1 vs=>.unNil vs (bif decide ((↑c_1n:Int)>6) then .rt (.int .i64 2) else .loop [n,.int .i64 0] (fun vs=>.pi vs fun n vs=>.pi vs fun n_2 vs=>.unNil vs (bif decide (n_2<(↑c_1n:Int)) then .need (0<=n_2/\n_2<(↑c_1n:Int)) (.someA c_1p fun a=>.li ((a.add (n_2.toNat*2)).add 0) fun n_3=>.li ((a.add (n_2.toNat*2)).add 1) fun n_4=>.cB 68 #[.agg #[n_3,n_4],.int .i64 0,.int .i64 36524] fun b=>bif !b then .rn [.int .i64 1,n_2] else .ag [n,.int .i64 (wrap .i64 (n_2+1))]) else .bk [n,n_2])) (fun vs=>.pi vs fun n vs=>.pi vs fun n vs=>.unNil vs (.rt (.int .i64 0))) (fun vs=>.pi vs fun n vs=>.pi vs fun n_2 vs=>.unNil vs (.rt (.int .i64 n))) fun x x_1=>.fail)) (fun vs=>.pi vs fun n vs=>.pi vs fun n_1 vs=>.unNil vs (.rt (.int .i64 n))) fun x x_1=>.fail
theorem w1039(c_0p:Option Addr)(c_0n c_0c:Nat)(c_1p:Option Addr)(c_1n c_1c:Nat):FX X 41 #[.agg #[.slice c_0p c_0n c_0c,.slice c_1p c_1n c_1c]] h A (n1039 c_0p c_0n c_0c c_1p c_1n c_1c):=fk [1] [⟨0,[(2,.int .i64),(3,.int .i64)],[1],[],[],[]⟩,⟨2,[(2,.int .i64),(4,.int .i64)],[1],[],[],[]⟩] [] Tryz.f41
def n1074(flawsp:Option Addr)(flawsn flawsc:Nat):T:=.loop [.int .i64 0,.int .i64 0] (fun vs=>.pi vs fun n vs=>.pi vs fun n_1 vs=>.unNil vs (bif decide (n_1<(↑flawsn:Int)) then .need (0<=n_1/\n_1<(↑flawsn:Int)) (.someA flawsp fun a=>.li (a.add (n_1.toNat*1)) fun n_2=>bif n_2 != 0 then .rn [n_2,n_1] else .ag [n,.int .i64 (wrap .i64 (n_1+1))]) else .bk [n,n_1])) (fun vs=>.pi vs fun n vs=>.pi vs fun n vs=>.unNil vs (.rt (.int .i64 0))) (fun vs=>.pi vs fun n vs=>.pi vs fun n_1 vs=>.unNil vs (.rt (.int .i64 n))) fun x x_1=>.fail
theorem w1074(flawsp:Option Addr)(flawsn flawsc:Nat):FX X 29 #[.slice flawsp flawsn flawsc] h A (n1074 flawsp flawsn flawsc):=fk [] [⟨0,[(2,.int .i64),(7,.int .i64)],[],[],[],[]⟩] [] Tryz.f29
def n1075(c_0p:Option Addr)(c_0n c_0c:Nat)(c_1p:Option Addr)(c_1n c_1c:Nat):T:=.loop [.int .i64 0,.int .i64 0] (fun vs=>.pi vs fun n vs=>.pi vs fun n_1 vs=>.unNil vs (bif decide (n_1<(↑c_0n:Int)) then .need (0<=n_1/\n_1<(↑c_0n:Int)) (.someA c_0p fun a=>.li (a.add (n_1.toNat*1)) fun n_2=>.cB 31 #[n_2,.int .i64 0,.int .i64 6] fun b=>bif !b then .rn [.int .i64 1,n_1] else bif decide (n_1>0) then .need (0<=wrap .i64 (n_1-1)/\wrap .i64 (n_1-1)<(↑c_0n:Int)) (.someA c_0p fun a=>.li (a.add ((wrap .i64 (n_1-1)).toNat*1)) fun n_3=>bif decide (n_2<=n_3) then .rn [.int .i64 7,n_1] else .ag [n,.int .i64 (wrap .i64 (n_1+1))]) else .ag [n,.int .i64 (wrap .i64 (n_1+1))]) else .bk [n,n_1])) (fun vs=>.pi vs fun n vs=>.pi vs fun n vs=>.unNil vs (bif decide ((↑c_1n:Int)>6) then .rt (.int .i64 2) else .cB 65 #[.slice c_1p c_1n c_1c,.func (Fn.func 119) #[] #[]] fun b=>.cI 30 #[b,.int .i64 1] fun n=>.rt (.int .i64 n))) (fun vs=>.pi vs fun n vs=>.pi vs fun n_1 vs=>.unNil vs (.rt (.int .i64 n))) fun x x_1=>.fail
theorem w1075(c_0p:Option Addr)(c_0n c_0c:Nat)(c_1p:Option Addr)(c_1n c_1c:Nat):FX X 89 #[.agg #[.slice c_0p c_0n c_0c,.slice c_1p c_1n c_1c]] h A (n1075 c_0p c_0n c_0c c_1p c_1n c_1c):=fk [1] [⟨0,[(2,.int .i64),(10,.int .i64)],[1],[],[],[]⟩] [] Tryz.f89
def n1076(is:Bool)(f:Int):T:=bif is then .rt (.int .i64 f) else .rt (.int .i64 0)
theorem w1076(is:Bool)(f:Int):FX X 30 #[is,f] h A (n1076 is f):=fk [] [] [] Tryz.f30
def n1077(n:Int):T:=.cB 31 #[n,.int .i64 0,.int .i64 36524] fun b=>.rt (.bool b)
theorem w1077(n:Int):FX X 96 #[n] h A (n1077 n):=fk [] [] [] Tryz.f96
def n1078(t_0 t_1:Int):T:=.cB 31 #[t_0,.int .i64 0,.int .i64 999] fun b=>bif !b then .cI 30 #[true,.int .i64 1] fun n=>.rt (.int .i64 n) else .cB 31 #[t_1,.int .i64 0,.int .i64 2] fun b=>.cI 30 #[.bool !b,.int .i64 1] fun n=>.rt (.int .i64 n)
theorem w1078(t_0 t_1:Int):FX X 90 #[.agg #[t_0,t_1]] h A (n1078 t_0 t_1):=fk [1] [] [] Tryz.f90
def n1079(c_0p:Option Addr)(c_0n c_0c:Nat)(c_1p:Option Addr)(c_1n c_1c:Nat)(day:Int):T:=.cl 135 #[.agg #[.slice c_0p c_0n c_0c,.slice c_1p c_1n c_1c],day] fun v=>.each v [.int .i64 0] (fun xs vs=>.unCons xs fun v vs_1=>.ui v fun n=>.unNil vs_1 (.pi vs fun n_1 vs=>.unNil vs (.rn [n]))) (fun vs=>.pi vs fun n vs=>.unNil vs (.rt (.int .i64 36524))) (fun vs=>.pi vs fun n vs=>.unNil vs (.rt (.int .i64 36524))) (fun vs=>.pi vs fun n vs=>.unNil vs (.rt (.int .i64 n))) fun x x_1=>.fail
theorem w1079(c_0p:Option Addr)(c_0n c_0c:Nat)(c_1p:Option Addr)(c_1n c_1c:Nat)(day:Int):FX X 107 #[.agg #[.slice c_0p c_0n c_0c,.slice c_1p c_1n c_1c],day] h A (n1079 c_0p c_0n c_0c c_1p c_1n c_1c day):=fk [2,4] [{ id:=0,slots:=[(20480,.int .i64)],ro:=[2],outs:=[],ps:=[.cell (.int .i64)] }] [] Tryz.f107
def n1080(start t_0 t_1:Int):T:=bif t_1==1 then .rt (.int .i64 (if wrap .i64 (start+wrap .i64 (t_0*7))<36524 then wrap .i64 (start+wrap .i64 (t_0*7)) else 36524)) else bif t_1==0 then .rt (.int .i64 (if wrap .i64 (start+t_0)<36524 then wrap .i64 (start+t_0) else 36524)) else .cT 136 #[start] fun v vs=>.ui v fun n=>.unCons vs fun v vs=>.ui v fun n_1=>.unCons vs fun v vs=>.ui v fun n_2=>.unNil vs (.need ((12:Int)≠0) (.need ((12:Int)≠0) (bif decide (wrap .i64 (n+wrap .i64 (Int.tdiv (wrap .i64 (n_1+wrap .i64 (t_0-1))) 12))>2099) then .rt (.int .i64 36524) else .cI 138 #[.int .i64 (wrap .i64 (n+wrap .i64 (Int.tdiv (wrap .i64 (n_1+wrap .i64 (t_0-1))) 12))),.int .i64 (wrap .i64 (Int.tmod (wrap .i64 (n_1+wrap .i64 (t_0-1))) 12+1))] fun n_3=>.cI 137 #[.int .i64 (wrap .i64 (n+wrap .i64 (Int.tdiv (wrap .i64 (n_1+wrap .i64 (t_0-1))) 12))),.int .i64 (wrap .i64 (Int.tmod (wrap .i64 (n_1+wrap .i64 (t_0-1))) 12+1)),.int .i64 (if n_3<n_2 then n_3 else n_2)] fun n=>.rt (.int .i64 n))))
theorem w1080(start t_0 t_1:Int):FX X 108 #[start,.agg #[t_0,t_1]] h A (n1080 start t_0 t_1):=fk [3] [] [] Tryz.f108
def n1102(n first last:Int):T:=bif decide (first<=n) then .rt (.bool (decide (n<=last))) else .rt (.bool false)
theorem w1102(n first last:Int):FX X 31 #[n,first,last] h A (n1102 n first last):=fk [] [] [] Tryz.f31
def n1103(s_0 s_1:Int):T:=.cB 96 #[s_0] fun b=>bif !b then .rt (.bool true) else .cB 96 #[s_1] fun b=>bif !b then .rt (.bool true) else .rt (.bool (decide (s_0>s_1)))
theorem w1103(s_0 s_1:Int):FX X 119 #[.agg #[s_0,s_1]] h A (n1103 s_0 s_1):=fk [1] [] [] Tryz.f119
def n1104(c_0p:Option Addr)(c_0n c_0c:Nat)(c_1p:Option Addr)(c_1n c_1c:Nat)(day:Int):T:=.new 163 #[.slice c_0p c_0n c_0c,.slice c_1p c_1n c_1c] fun r=>.new 3 #[day] fun r_1=>.rt (.func (Fn.func 157) #[] #[.pointer (some ⟨r_1,0,none⟩),.pointer (some ⟨r,0,none⟩)])
theorem w1104(c_0p:Option Addr)(c_0n c_0c:Nat)(c_1p:Option Addr)(c_1n c_1c:Nat)(day:Int):FX X 135 #[.agg #[.slice c_0p c_0n c_0c,.slice c_1p c_1n c_1c],day] h A (n1104 c_0p c_0n c_0c c_1p c_1n c_1c day):=fk [] [] [] Tryz.f135
def n1105(day:Int):T:=.loop [.int .i64 2000] (fun vs=>.pi vs fun n vs=>.unNil vs (bif decide (n<2099) then .cI 159 #[.int .i64 (wrap .i64 (n+1))] fun n_1=>bif decide (n_1<=day) then .ag [.int .i64 (wrap .i64 (n+1))] else .bk [n] else .bk [n])) (fun vs=>.pi vs fun n vs=>.unNil vs (.cI 159 #[n] fun n_1=>.loop [.int .i64 (wrap .i64 (day-n_1)),.int .i64 1] (fun vs=>.pi vs fun n_2 vs=>.pi vs fun n_3 vs=>.unNil vs (.cI 138 #[n,n_3] fun n_4=>bif decide (n_2>=n_4) then .cI 138 #[n,n_3] fun n=>.ag [.int .i64 (wrap .i64 (n_2-n)),.int .i64 (wrap .i64 (n_3+1))] else .bk [n_2,n_3])) (fun vs=>.pi vs fun n_2 vs=>.pi vs fun n_3 vs=>.unNil vs (.rt (.tuple #[n,n_3,.int .i64 (wrap .i64 (n_2+1))]))) (fun vs=>.pi vs fun n_2 vs=>.pi vs fun n_3 vs=>.unNil vs (.rt (.tuple #[n,n_3,.int .i64 0]))) fun x x_1=>.fail)) (fun vs=>.pi vs fun n vs=>.unNil vs (.rt (.tuple #[n,.int .i64 0,.int .i64 0]))) fun x x_1=>.fail
theorem w1105(day:Int):FX X 136 #[day] h A (n1105 day):=fk [] [⟨0,[(2,.int .i64)],[],[],[],[]⟩,⟨2,[(0,.int .i64),(3,.int .i64)],[],[],[],[]⟩] [] Tryz.f136
def n1106(year month date:Int):T:=.cI 159 #[year] fun n=>.loop [n,.int .i64 1] (fun vs=>.pi vs fun n vs=>.pi vs fun n_1 vs=>.unNil vs (bif decide (n_1<month) then .cI 138 #[year,n_1] fun n_2=>.ag [.int .i64 (wrap .i64 (n+n_2)),.int .i64 (wrap .i64 (n_1+1))] else .bk [n,n_1])) (fun vs=>.pi vs fun n vs=>.pi vs fun n_1 vs=>.unNil vs (.rt (.int .i64 (wrap .i64 (wrap .i64 (n+date)-1))))) (fun vs=>.pi vs fun n vs=>.pi vs fun n vs=>.unNil vs (.rt (.int .i64 0))) fun x x_1=>.fail
theorem w1106(year month date:Int):FX X 137 #[year,month,date] h A (n1106 year month date):=fk [] [⟨0,[(7,.int .i64),(8,.int .i64)],[],[],[],[]⟩] [] Tryz.f137
def n1107(year month:Int):T:=bif month==2 then .need ((4:Int)≠0) (bif Int.tmod year 4==0 then .rt (.int .i64 29) else .need (0<=wrap .i64 (month-1)/\wrap .i64 (month-1)<(↑12:Int)) (.li (Addr.add { block:=1,off:=0 } ((wrap .i64 (month-1)).toNat*1)) fun n=>.rt (.int .i64 n))) else .need (0<=wrap .i64 (month-1)/\wrap .i64 (month-1)<(↑12:Int)) (.li (Addr.add { block:=1,off:=0 } ((wrap .i64 (month-1)).toNat*1)) fun n=>.rt (.int .i64 n))
theorem w1107(year month:Int):FX X 138 #[year,month] h A (n1107 year month):=fk [] [] [] Tryz.f138
def n1116(yield:Value)(z0 z1:Addr):T:=.loop [] (fun vs=>.unNil vs (.li z0 fun n=>.cB 96 #[n] fun b=>bif b then .loadS ((z1.add 0).add 0) fun p n c=>.li z0 fun n_1=>.need ((7:Int)≠0) (.cB 63 #[.slice p n c,.int .i64 (Int.tmod (wrap .i64 (n_1+5)) 7)] fun b=>bif b then .li z0 fun n=>.store (z0.add 0) (.int .i64 (wrap .i64 (n+1))) (.ag []) else .loadS ((z1.add 0).add 1) fun p n c=>.cB 65 #[.slice p n c,.func (Fn.func 158) #[] #[.pointer (some z0)]] fun b=>bif !b then .li z0 fun n=>.callv false yield #[n] fun v=>.unB v fun b=>bif !b then .rn [] else .li z0 fun n=>.store (z0.add 0) (.int .i64 (wrap .i64 (n+1))) (.ag []) else .li z0 fun n=>.store (z0.add 0) (.int .i64 (wrap .i64 (n+1))) (.ag [])) else .bk [])) (fun vs=>.unNil vs (.rt (.tuple #[]))) (fun vs=>.unNil vs (.rt (.tuple #[]))) fun x x_1=>.fail
theorem w1116(yield:Value)(z0 z1:Addr):FX X 157 #[yield,.pointer (some z0),.pointer (some z1)] h A (n1116 yield z0 z1):=fk [] [⟨0,[],[],[],[],[]⟩] [] Tryz.f157
def n1117(s_0 s_1:Int)(z0:Addr):T:=.li z0 fun n=>.cB 31 #[n,s_0,s_1] fun b=>.rt (.bool b)
theorem w1117(s_0 s_1:Int)(z0:Addr):FX X 158 #[.agg #[s_0,s_1],.pointer (some z0)] h A (n1117 s_0 s_1 z0):=fk [2] [] [] Tryz.f158
def n1118(year:Int):T:=.need ((4:Int)≠0) (.need ((4:Int)≠0) (.need ((4:Int)≠0) (.rt (.int .i64 (wrap .i64 (wrap .i64 (wrap .i64 (wrap .i64 (Int.tdiv (wrap .i64 (year-2000)) 4)*1461)+wrap .i64 (Int.tmod (wrap .i64 (year-2000)) 4*365))+if Int.tmod (wrap .i64 (year-2000)) 4<1 then Int.tmod (wrap .i64 (year-2000)) 4 else 1))))))
theorem w1118(year:Int):FX X 159 #[year] h A (n1118 year):=fk [] [] [] Tryz.f159
end
section
attribute [local irreducible] T.wp CV FWK
theorem c1102{h:LH}(n a b:Int):Pu Tryz.prog 31 #[n,a,b] h (.bool (isIn n a b)):=by
 refine w1102 _ _ _ X0_ok ?_;unfold n1102;refine t_if (fun e=>?_) (fun e=>?_)<;>refine t_ret ⟨?_,rfl⟩<;>simp[isIn,e]
theorem c1077{h:LH}(n:Int):Pu Tryz.prog 96 #[n] h (.bool (isIn n 0 36524)):=by
 refine w1077 _ X0_ok ?_;unfold n1077;refine t_pu (c1102 _ _ _) ?_;refine gZ ?_;exact t_ret ⟨rfl,rfl⟩
theorem c1076{h:LH}(b:Bool)(n:Int):Pu Tryz.prog 30 #[.bool b,n] h (.int .i64 (if b then n else 0)):=by
 refine w1076 _ _ X0_ok ?_;unfold n1076;refine t_cond (fun e=>?_) (fun e=>?_)<;>refine t_ret ⟨?_,rfl⟩<;>simp[e]
def firstNZ:List Int->Int
 | []=>0
 | x::l=>if x≠0 then x else firstNZ l
theorem c1074{h:LH}{p:Option Addr}{n c:Nat}{l:List Int}(hl:Sl IntE 1 h.get p n l):Pu Tryz.prog 29 #[.slice p n c] h (.int .i64 (firstNZ l)):=by
 refine w1074 _ _ _ X0_ok ?_;unfold n1074;have hn:=hl.1;have hb:=hl.2.1;refine t_loop (fun mm vs h'=>h=h'/\∃ i:Nat,vs=[.int .i64 0,.int .i64 i]/\i<=n/\mm=n-i/\firstNZ l=firstNZ (l.drop i)) ⟨rfl,0,rfl,Nat.zero_le _,rfl,rfl⟩ ?_;rintro Y mm vs _ hY ⟨rfl,i,rfl,hi,rfl,hc⟩;refine yJ (fun e1=>?_) (fun e1=>?_)
 ·obtain⟨x,a,hx,ha,e2⟩:=hl.at (i:=i) (by omega);unfold IntE at e2;rw[drop_of hx,firstNZ]at hc;refine yI (fun b1=>?_) (fun b1=>?_)
  ·have hx0:x≠0:=by simpa using b1
   rw[if_pos hx0]at hc;refine gZ ?_;exact t_ret ⟨by rw[hc],rfl⟩
  ·have hx0:x=0:=by simpa using b1
   rw[if_neg (by simp[hx0])]at hc;refine t_again (hY (n-(i+1)) _ _ (by omega) ⟨rfl,i+1,?_,by omega,rfl,hc⟩);rw[wrap_id (by omega) (by omega)];rfl
 ·refine gZ ?_;rw[List.drop_eq_nil_of_le (by omega)]at hc;exact t_ret ⟨by rw[hc];rfl,rfl⟩
end
section
attribute [local irreducible] T.wp CV FWK
def beforeY(year:Int):Int:=(year-2000) / 4*1461+(year-2000)%4*365+(if (year-2000)%4<1 then (year-2000)%4 else 1)
theorem c1118{h:LH}{year:Int}(hy:2000<=year/\year<=2200):Pu Tryz.prog 159 #[year] h (.int .i64 (beforeY year)):=by
 refine w1118 _ X0_ok ?_;unfold n1118;refine gZ ?_;refine t_ret ⟨?_,rfl⟩;have h1:wrap .i64 (year-2000)=year-2000:=wrap_id (by omega) (by omega);have h2:Int.tdiv (year-2000) 4=(year-2000) / 4:=Int.tdiv_eq_ediv_of_nonneg (by omega);have h3:Int.tmod (year-2000) 4=(year-2000)%4:=Int.tmod_eq_emod_of_nonneg (by omega);rw[h1,h2,h3];have e1:wrap .i64 ((year-2000) / 4)=(year-2000) / 4:=wrap_id (by omega) (by omega);rw[e1];have e2:wrap .i64 ((year-2000) / 4*1461)=(year-2000) / 4*1461:=wrap_id (by omega) (by omega);have e3:wrap .i64 ((year-2000)%4*365)=(year-2000)%4*365:=wrap_id (by omega) (by omega);rw[e2,e3];have e4:wrap .i64 ((year-2000) / 4*1461+(year-2000)%4*365)=(year-2000) / 4*1461+(year-2000)%4*365:=wrap_id (by omega) (by omega);rw[e4];rw[wrap_id (by split<;>omega) (by split<;>omega)];rfl
end
section
attribute [local irreducible] T.wp CV FWK
def Lens(h:Cells):Prop:=∀ j:Nat,j<12->h.cell? ⟨1,j,none⟩=some (.int .i64 (Te.lens.getD j 0))
theorem Lens.le{h h':Cells}(hl:h.le h')(l:Lens h):Lens h':=fun j hj=>Cells.cell?_le hl (l j hj)
theorem c1107{h:LH}(hl:Lens h.get){y m:Int}(hy:0<=y)(hm:1<=m/\m<=12):Pu Tryz.prog 138 #[y,m] h (.int .i64 (Te.lengthT y m)):=by
 refine w1107 _ _ X0_ok ?_;unfold n1107;have e0:wrap .i64 (m-1)=m-1:=wrap_id (by omega) (by omega);have e1:h.get.cell? (Addr.add ⟨1,0,none⟩ (Int.toNat (m-1)*1))=some (.int .i64 (Te.lens.getD (m-1).toNat 0)):=by
  rw[add_plain,Nat.zero_add,Nat.mul_one];exact hl _ (by omega)
 have e2:Int.tmod y 4=y%4:=Int.tmod_eq_emod_of_nonneg hy;rw[e0,e2];have hm':0<=m-1/\m-1<((12:Nat):Int):=by omega
 refine t_cond (fun b=>?_) (fun b=>?_)
 ·have b':m=2:=by simpa using b
  refine yI (fun c=>?_) (fun c=>?_)
  ·have c':y%4=0:=by simpa using c
   refine t_ret ⟨?_,rfl⟩;rw[Te.lengthT,if_pos ⟨b',c'⟩]
  ·have c':¬ y%4=0:=by simpa using c
   refine gZ ?_;refine t_ret ⟨?_,rfl⟩;rw[Te.lengthT,if_neg (fun hh=>c' hh.2)]
 ·have b':¬ m=2:=by simpa using b
  refine gZ ?_;refine t_ret ⟨?_,rfl⟩;rw[Te.lengthT,if_neg (fun hh=>b' hh.1)]
theorem before_same(y:Int):beforeY y=Te.beforeT y:=rfl
theorem sum_range{y:Int}:∀ m:Nat,m<=12->0<=Te.sumT y m/\Te.sumT y m<=31*m
 | 0,_=>by simp[Te.sumT]
 | 1,_=>by simp[Te.sumT]
 | m+2,h=>by
  have ih:=sum_range (y:=y) (m+1) (by omega);have:=Te.length_range (y:=y) (m:=((m+1:Nat):Int)) (by omega);rw[Te.sumT];omega
theorem c1105{h:LH}(hl:Lens h.get){s:Int}(hs:0<=s/\s<=36524):FW X0 Tryz.prog 136 #[s] h fun r h'=>h=h'/\∃ y m d,r=.tuple #[.int .i64 y,.int .i64 m,.int .i64 d]/\Te.PartsOf s y m d:=by
 refine w1105 _ X0_ok ?_;unfold n1105;have y0:=Te.year_first;have y9:=Te.year_last;refine t_loopB (fun mm vs h'=>h=h'/\∃ y:Int,vs=[.int .i64 y]/\2000<=y/\y<=2099/\mm=(2099-y).toNat/\Te.beforeT y<=s)
  (fun vs h'=>h=h'/\∃ y:Int,vs=[.int .i64 y]/\2000<=y/\y<=2099/\Te.beforeT y<=s/\s<Te.beforeT (y+1)) ⟨rfl,2000,rfl,by omega,by omega,rfl,by omega⟩ ?_ ?_
 ·rintro Y mm vs _ hY ⟨rfl,y,rfl,h1,h2,rfl,h3⟩;refine yJ (fun e1=>?_) (fun e1=>?_)
  ·have ew:wrap .i64 (y+1)=y+1:=wrap_id (by omega) (by omega);rw[ew];refine t_pu (c1118 (by omega)) ?_;rw[before_same];refine yJ (fun e2=>?_) (fun e2=>?_)
   ·exact t_again (hY (2099-(y+1)).toNat _ _ (by omega) ⟨rfl,y+1,rfl,by omega,by omega,rfl,e2⟩)
   ·exact gH ⟨rfl,y,rfl,h1,h2,h3,by omega⟩
  ·have:y=2099:=by omega
   subst this;exact gH ⟨rfl,2099,rfl,by omega,by omega,h3,by rw[show (2099:Int)+1=2100 by rfl];omega⟩
 ·rintro vs _ ⟨rfl,y,rfl,h1,h2,h3,h4⟩;refine gZ ?_;refine t_pu (c1118 (by omega)) ?_;rw[before_same];refine gZ ?_;have hb0:0<=Te.beforeT y:=by unfold Te.beforeT;split<;>omega
  have hyr:=Te.year_here h4;rw[wrap_id (n:=s-Te.beforeT y) (by omega) (by omega)];refine t_loop (fun mm vs h'=>h=h'/\∃ r m:Int,vs=[.int .i64 r,.int .i64 m]/\1<=m/\m<=12/\mm=(12-m).toNat/\0<=r/\s=Te.beforeT y+Te.sumT y m.toNat+r) ⟨rfl,s-Te.beforeT y,1,rfl,by omega,by omega,rfl,by omega,by show s=_+0+_;omega⟩ ?_;rintro Y mm vs _ hY ⟨rfl,r,m,rfl,g1,g2,rfl,g3,g4⟩;refine gZ ?_;refine t_pu (c1107 hl (by omega) ⟨g1,g2⟩) ?_;refine gZ ?_;have hlen:=Te.length_range (y:=y) ⟨g1,g2⟩;refine t_if (fun e2=>?_) (fun e2=>?_)
  ·refine t_pu (c1107 hl (by omega) ⟨g1,g2⟩) ?_;refine gZ ?_;have hm1:=Te.month_more (y:=y) (m:=m) (r:=r) ⟨g1,g2⟩ (by omega) e2;have hn:=Te.sum_next (y:=y) g1;have hsr:=sum_range (y:=y) m.toNat (by omega);rw[wrap_id (n:=r-Te.lengthT y m) (by omega) (by omega),wrap_id (n:=m+1) (by omega) (by omega)];exact t_again (hY (12-(m+1)).toNat _ _ (by omega) ⟨rfl,r-Te.lengthT y m,m+1,rfl,by omega,by omega,rfl,by omega,by omega⟩)
  ·refine gZ ?_;rw[wrap_id (n:=r+1) (by omega) (by omega)];exact t_ret ⟨rfl,y,m,r+1,rfl,Te.parts_of ⟨h1,h2⟩ ⟨g1,g2⟩ g4 ⟨g3,by omega⟩⟩
theorem c1106{h:LH}(hl:Lens h.get){y m d:Int}(hy:2000<=y/\y<=2200)(hm:1<=m/\m<=12)(hd:0<=d/\d<=100):Pu Tryz.prog 137 #[y,m,d] h (.int .i64 (Te.dayOfT y m d)):=by
 refine w1106 _ _ _ X0_ok ?_;unfold n1106;refine t_pu (c1118 hy) ?_;rw[before_same];refine gZ ?_;have hb0:0<=Te.beforeT y/\Te.beforeT y<=100000:=by unfold Te.beforeT;split<;>omega
 refine t_loop (fun mm vs h'=>h=h'/\∃ j:Int,vs=[.int .i64 (Te.beforeT y+Te.sumT y j.toNat),.int .i64 j]/\1<=j/\j<=m/\mm=(m-j).toNat) ⟨rfl,1,by simp[Te.sumT],by omega,by omega,rfl⟩ ?_;rintro Y mm vs _ hY ⟨rfl,j,rfl,g1,g2,rfl⟩;have hs:=sum_range (y:=y) j.toNat (by omega);refine yJ (fun e1=>?_) (fun e1=>?_)
 ·refine t_pu (c1107 hl (by omega) ⟨g1,by omega⟩) ?_;refine gZ ?_;have hn:=Te.sum_next (y:=y) g1;have hlen:=Te.length_range (y:=y) (m:=j) ⟨g1,by omega⟩;rw[wrap_id (n:=Te.beforeT y+Te.sumT y j.toNat+Te.lengthT y j) (by omega) (by omega),wrap_id (n:=j+1) (by omega) (by omega)];refine t_again (hY (m-(j+1)).toNat _ _ (by omega) ⟨rfl,j+1,?_,by omega,by omega,rfl⟩);rw[hn,Int.add_assoc]
 ·have:j=m:=by omega
  subst this;refine gZ ?_;refine t_ret ⟨?_,rfl⟩;rw[wrap_id (n:=Te.beforeT y+Te.sumT y j.toNat+d) (by omega) (by omega),wrap_id (by omega) (by omega)];rfl
theorem c1080{h:LH}(hl:Lens h.get){s n unit:Int}(hs:0<=s/\s<=36524)(hn:0<=n/\n<=999)(hu:0<=unit/\unit<=2):FW X0 Tryz.prog 108 #[s,.agg #[n,unit]] h fun r h'=>h=h'/\∃ v,r=.int .i64 v/\Te.LeadsTo s unit n v:=by
 refine w1080 _ _ _ X0_ok ?_;unfold n1080;refine t_cond (fun b=>?_) (fun b=>?_)
 ·have b':unit=1:=by simpa using b
  rw[wrap_id (n:=n*7) (by omega) (by omega),wrap_id (n:=s+n*7) (by omega) (by omega)];exact t_ret ⟨rfl,_,rfl,.inr (.inl ⟨b',rfl⟩)⟩
 refine t_cond (fun c=>?_) (fun c=>?_)
 ·have c':unit=0:=by simpa using c
  rw[wrap_id (n:=s+n) (by omega) (by omega)];exact t_ret ⟨rfl,_,rfl,.inr (.inr ⟨c',rfl⟩)⟩
 have hunit:unit=2:=by
  have b':¬ unit=1:=by simpa using b
  have c':¬ unit=0:=by simpa using c
  omega
 refine t_call (FW.top (c1105 hl hs)) ?_;rintro _ _ ⟨rfl,y,m,d,rfl,p⟩;have py:=p.year;have pm:=p.month;have pd:=p.date;have hlen0:=Te.length_range (y:=y) pm;refine gZ ?_;have e1:wrap .i64 (n-1)=n-1:=wrap_id (by omega) (by omega);have e2:wrap .i64 (m+(n-1))=m+n-1:=by rw[wrap_id (by omega) (by omega)];omega
 have e3:Int.tdiv (m+n-1) 12=(m+n-1) / 12:=Int.tdiv_eq_ediv_of_nonneg (by omega);have e4:Int.tmod (m+n-1) 12=(m+n-1)%12:=Int.tmod_eq_emod_of_nonneg (by omega);have e5:wrap .i64 ((m+n-1) / 12)=(m+n-1) / 12:=wrap_id (by omega) (by omega);have e6:wrap .i64 (y+(m+n-1) / 12)=y+(m+n-1) / 12:=wrap_id (by omega) (by omega);have e7:wrap .i64 ((m+n-1)%12+1)=(m+n-1)%12+1:=wrap_id (by omega) (by omega);simp only[e1,e2,e3,e4,e5,e6,e7];refine t_if (fun e8=>?_) (fun e8=>?_)
 ·refine t_ret ⟨rfl,_,rfl,.inl ⟨hunit,y,m,d,p,?_⟩⟩;rw[Te.monthsT,if_pos (by omega)]
 ·have hlen:=Te.length_range (y:=y+(m+n-1) / 12) (m:=(m+n-1)%12+1) (by omega);refine t_pu (c1107 hl (by omega) (by omega)) ?_;refine gZ ?_;have hdd:0<=(if Te.lengthT (y+(m+n-1) / 12) ((m+n-1)%12+1)<d then Te.lengthT (y+(m+n-1) / 12) ((m+n-1)%12+1) else d)/\(if Te.lengthT (y+(m+n-1) / 12) ((m+n-1)%12+1)<d then Te.lengthT (y+(m+n-1) / 12) ((m+n-1)%12+1) else d)<=100:=by split<;>omega
  refine t_pu (c1106 hl (by omega) (by omega) hdd) ?_;refine gZ ?_;refine t_ret ⟨rfl,_,rfl,.inl ⟨hunit,y,m,d,p,?_⟩⟩;rw[Te.monthsT,if_neg (show ¬ 2099<y+(m+n-1) / 12 by omega)]
end
end Go.Y
namespace Go.TM
section
def letterB(c:UInt8):Bool:=decide (97<=c.toNat)&&decide (c.toNat<=122)
def digitB(c:UInt8):Bool:=decide (48<=c.toNat)&&decide (c.toNat<=57)
structure NameOk(s:ByteArray):Prop where
 size:1<=s.size/\s.size<=10
 all:∀ (i:Nat) c,s.data[i]?=some c->letterB c=true\/(digitB c=true/\i≠0)
section
variable {H:Type} {enc:TypeId×Value->H} {P:Program} {W:World} {base:Nat} {sp:Nat->Bool} {held:Bool} {fuel:Nat} {t:TypeId} {cs:List Value} {x:DataW H×List MemPlace}
variable {tI tS tItem tItems tEd tEds tMv tMvs tKn tKns tTab:TypeId}
end
end
section
structure DTerm where
 n:Int
 unit:Int
structure DPaper where
 kind:Int
 day:Int
structure DClaim where
 from_:Int
 made:Int
 items:List Int
structure DDue where
 start:Int
 term:DTerm
 done:Int
 freed:Int
 asked:Int
structure DApp where
 name:ByteArray
 papers:List DPaper
 claims:List DClaim
 dues:List DDue
structure DFile where
 cal:CalD
 kinds:Int
 mend:DTerm
 reach:DTerm
 late:DTerm
 ask:DTerm
 most:DTerm
 items:Int
 apps:List DApp
def DPaperE(h:Cells)(a:Addr)(x:DPaper):Prop:=h.cell? (a.add 0)=some (.int .i64 x.kind)/\h.cell? (a.add 1)=some (.int .i64 x.day)
def DClaimE(h:Cells)(a:Addr)(x:DClaim):Prop:=h.cell? (a.add 0)=some (.int .i64 x.from_)/\h.cell? (a.add 1)=some (.int .i64 x.made)/\∃ q n c,h.cell? (a.add 2)=some (.slice q n c)/\Sl IntE 1 h q n x.items
def DDueE(h:Cells)(a:Addr)(x:DDue):Prop:=h.cell? (a.add 0)=some (.int .i64 x.start)/\h.cell? (a.add 1)=some (.int .i64 x.term.n)/\h.cell? (a.add 2)=some (.int .i64 x.term.unit) /\
 h.cell? (a.add 3)=some (.int .i64 x.done)/\h.cell? (a.add 4)=some (.int .i64 x.freed)/\h.cell? (a.add 5)=some (.int .i64 x.asked)
structure AppC where
 p1:Option Addr
 n1:Nat
 c1:Nat
 p2:Option Addr
 n2:Nat
 c2:Nat
 p3:Option Addr
 n3:Nat
 c3:Nat
structure AppR(h:Cells)(g:AppC)(x:DApp):Prop where
 papers:Sl DPaperE 2 h g.p1 g.n1 x.papers
 claims:Sl DClaimE 3 h g.p2 g.n2 x.claims
 dues:Sl DDueE 6 h g.p3 g.n3 x.dues
def DAppE(h:Cells)(a:Addr)(x:DApp):Prop:=∃ g:AppC,h.cell? (a.add 0)=some (.string x.name)/\h.cell? (a.add 1)=some (.slice g.p1 g.n1 g.c1)/\h.cell? (a.add 2)=some (.slice g.p2 g.n2 g.c2)/\h.cell? (a.add 3)=some (.slice g.p3 g.n3 g.c3)/\AppR h g x
theorem DPaperE.grow:Grow DPaperE:=fun _ _ _ _ hl h=>⟨hl _ _ h.1,hl _ _ h.2⟩
theorem DClaimE.grow:Grow DClaimE:=fun _ _ _ _ hl h=>by
 obtain⟨h1,h2,q,n,c,h3,h4⟩:=h;exact⟨hl _ _ h1,hl _ _ h2,q,n,c,hl _ _ h3,h4.rd IntE.grow hl⟩
theorem DDueE.grow:Grow DDueE:=fun _ _ _ _ hl h=>⟨hl _ _ h.1,hl _ _ h.2.1,hl _ _ h.2.2.1,hl _ _ h.2.2.2.1,hl _ _ h.2.2.2.2.1,hl _ _ h.2.2.2.2.2⟩
theorem AppR.rd{h h':Cells}{g:AppC}{x:DApp}(hl:Rd h h')(r:AppR h g x):AppR h' g x:=⟨r.papers.rd DPaperE.grow hl,r.claims.rd DClaimE.grow hl,r.dues.rd DDueE.grow hl⟩
theorem DAppE.grow:Grow DAppE:=fun _ _ _ _ hl h=>by
 obtain⟨g,h1,h2,h3,h4,h5⟩:=h;exact⟨g,hl _ _ h1,hl _ _ h2,hl _ _ h3,hl _ _ h4,h5.rd hl⟩
structure DFileC where
 cal:CalC
 p:Option Addr
 n:Nat
 c:Nat
def dfCells(f:DFileC)(x:DFile):List Value:=[.slice f.cal.p0 f.cal.n0 f.cal.c0,.slice f.cal.p1 f.cal.n1 f.cal.c1,.int .i64 x.kinds,.int .i64 x.mend.n,.int .i64 x.mend.unit,.int .i64 x.reach.n,.int .i64 x.reach.unit,.int .i64 x.late.n,.int .i64 x.late.unit,.int .i64 x.ask.n,.int .i64 x.ask.unit,.int .i64 x.most.n,.int .i64 x.most.unit,.int .i64 x.items,.slice f.p f.n f.c]
def dfV(f:DFileC)(x:DFile):Value:=.agg #[.slice f.cal.p0 f.cal.n0 f.cal.c0,.slice f.cal.p1 f.cal.n1 f.cal.c1,.int .i64 x.kinds,.int .i64 x.mend.n,.int .i64 x.mend.unit,.int .i64 x.reach.n,.int .i64 x.reach.unit,.int .i64 x.late.n,.int .i64 x.late.unit,.int .i64 x.ask.n,.int .i64 x.ask.unit,.int .i64 x.most.n,.int .i64 x.most.unit,.int .i64 x.items,.slice f.p f.n f.c]
structure DFileR(h:Cells)(f:DFileC)(x:DFile):Prop where
 cal:CalR h f.cal x.cal
 apps:Sl DAppE 4 h f.p f.n x.apps
theorem DFileR.rd{h h':Cells}{f:DFileC}{x:DFile}(hl:Rd h h')(r:DFileR h f x):DFileR h' f x:=⟨r.cal.rd hl,r.apps.rd DAppE.grow hl⟩
theorem DFileR.le{h h':Cells}{f:DFileC}{x:DFile}(hl:h.le h')(r:DFileR h f x):DFileR h' f x:=r.rd (Rd.of_le hl)
/-! ### Files without a flaw -/
def DayOk(n:Int):Prop:=0<=n/\n<=36524
def DoneOk(n:Int):Prop:=n = -1\/DayOk n
def TermOk(t:DTerm):Prop:=(0<=t.n/\t.n<=999)/\(0<=t.unit/\t.unit<=2)
def RiseOk(items:Int)(l:List Int):Prop:=∀ (i:Nat) v,l[i]?=some v->(0<=v/\v<=items-1)/\∀ u,0<i->l[i-1]?=some u->u<v
structure DAppOk(items:Int)(x:DApp):Prop where
 name:NameOk x.name
 papers8:x.papers.length<=8
 papers:∀ p∈x.papers,(0<=p.kind/\p.kind<=3)/\DayOk p.day
 claims4:x.claims.length<=4
 claims:∀ c∈x.claims,DayOk c.from_/\DayOk c.made/\RiseOk items c.items
 dues4:x.dues.length<=4
 dues:∀ d∈x.dues,DayOk d.start/\TermOk d.term/\DoneOk d.done/\DoneOk d.freed/\DoneOk d.asked
structure DFileOk(x:DFile):Prop where
 cal:CalOk x.cal
 kinds:1<=x.kinds/\x.kinds<=4
 mend:TermOk x.mend
 reach:TermOk x.reach
 late:TermOk x.late
 ask:TermOk x.ask
 most:TermOk x.most
 items:0<=x.items/\x.items<=5
 apps4:x.apps.length<=4
 app:∀ a∈x.apps,DAppOk x.items a
 names:∀ (i j:Nat) a b,x.apps[i]?=some a->x.apps[j]?=some b->a.name=b.name->i=j
def endsD(c:CalD)(s:Int)(t:DTerm):Int:=by
 classical exact if h:∃ e,Te.EndsAt c.cal s t.unit t.n e then h.choose else 0
theorem endsD_is{c:CalD}{s:Int}{t:DTerm}{e:Int}(h:Te.EndsAt c.cal s t.unit t.n e):e=endsD c s t:=by
 have hex:∃ e,Te.EndsAt c.cal s t.unit t.n e:=⟨e,h⟩
 unfold endsD;rw[dif_pos hex];have h':=hex.choose_spec;have h1:=h.up h' (Int.le_refl _);have h2:=h'.up h (Int.le_refl _);omega
end
section
structure DatTy(P:Program)(tI tU tS tIs tSpans tCal tTerm tPaper tPapers tClaim tClaims tDue tDues tApp tApps tFile:TypeId):Prop where
 unit:P.underlying tU=some (.int .i64)
 unit1:P.cellsOf tU=1
 str:P.underlying tS=some .string
 str1:P.cellsOf tS=1
 bytes:0<P.bytesOf tPaper/\0<P.bytesOf tClaim/\0<P.bytesOf tDue/\0<P.bytesOf tApp
 cal:FieldsAre P tCal [(tIs,0),(tSpans,1)]
 cal2:P.cellsOf tCal=2
 term:FieldsAre P tTerm [(tI,0),(tU,1)]
 term2:P.cellsOf tTerm=2
 paper:FieldsAre P tPaper [(tI,0),(tI,1)]
 paper2:P.cellsOf tPaper=2
 papers:P.underlying tPapers=some (.slice tPaper)
 papers1:P.cellsOf tPapers=1
 claim:FieldsAre P tClaim [(tI,0),(tI,1),(tIs,2)]
 claim3:P.cellsOf tClaim=3
 claims:P.underlying tClaims=some (.slice tClaim)
 claims1:P.cellsOf tClaims=1
 due:FieldsAre P tDue [(tI,0),(tTerm,1),(tI,3),(tI,4),(tI,5)]
 due6:P.cellsOf tDue=6
 dues:P.underlying tDues=some (.slice tDue)
 dues1:P.cellsOf tDues=1
 app:FieldsAre P tApp [(tS,0),(tPapers,1),(tClaims,2),(tDues,3)]
 app4:P.cellsOf tApp=4
 apps:P.underlying tApps=some (.slice tApp)
 apps1:P.cellsOf tApps=1
 file:FieldsAre P tFile [(tCal,0),(tI,2),(tTerm,3),(tTerm,5),(tTerm,7),(tTerm,9),(tTerm,11),(tI,13),(tApps,14)]
 file15:P.cellsOf tFile=15
theorem list15{α:Type}:∀ {l:List α},l.length=15->∃ c0 c1 c2 c3 c4 c5 c6 c7 c8 c9 c10 c11 c12 c13 c14,l=[c0,c1,c2,c3,c4,c5,c6,c7,c8,c9,c10,c11,c12,c13,c14]
 | [c0,c1,c2,c3,c4,c5,c6,c7,c8,c9,c10,c11,c12,c13,c14],_=>⟨_,_,_,_,_,_,_,_,_,_,_,_,_,_,_,rfl⟩
theorem list6{α:Type}:∀ {l:List α},l.length=6->∃ c0 c1 c2 c3 c4 c5,l=[c0,c1,c2,c3,c4,c5]
 | [c0,c1,c2,c3,c4,c5],_=>⟨_,_,_,_,_,_,rfl⟩
section
variable {H:Type} {enc:TypeId×Value->H} {P:Program} {W:World} {base:Nat} {sp:Nat->Bool} {held:Bool} {fuel:Nat} {t:TypeId} {cs:List Value} {x:DataW H×List MemPlace}
variable {tI tIs tSpan tSpans tUP tUPs tReq tReqs tUse tU tS tCal tTerm tPaper tPapers tClaim tClaims tDue tDues tApp tApps tFile:TypeId}
theorem cal_cells(T:UseTy P tI tIs tSpan tSpans tUP tUPs tReq tReqs tUse)(D:DatTy P tI tU tS tIs tSpans tCal tTerm tPaper tPapers tClaim tClaims tDue tDues tApp tApps tFile)(hz:Light P tCal x.1)(h:DataW.trod enc P W base sp held fuel tCal cs=some x) :
  ∃ (f:CalC) (y:CalD),cs=[.slice f.p0 f.n0 f.c0,.slice f.p1 f.n1 f.c1]/\CalR (getW W) f y:=by
 obtain⟨hl,m,hg⟩:=field_of D.cal hz h;rw[D.cal2]at hl
 match cs,hl with
 | [a,b],_ =>
  obtain⟨y0,h0,zh0⟩:=hg 0 tIs 0 rfl;obtain⟨y1,h1,zh1⟩:=hg 1 tSpans 1 rfl;rw[T.ints1]at h0;rw[T.spans1]at h1;obtain⟨p0,n0,k0,l0,e0,s0⟩:=ints_of_trod T zh0 h0;obtain⟨p1,n1,k1,l1,e1,s1⟩:=spans_of_trod T zh1 h1;simp at e0 e1;subst e0;subst e1;exact⟨⟨p0,n0,k0,p1,n1,k1⟩,⟨l0,l1⟩,rfl,s0,s1⟩
theorem term_cells(T:UseTy P tI tIs tSpan tSpans tUP tUPs tReq tReqs tUse)(D:DatTy P tI tU tS tIs tSpans tCal tTerm tPaper tPapers tClaim tClaims tDue tDues tApp tApps tFile)(hz:Light P tTerm x.1)(h:DataW.trod enc P W base sp held fuel tTerm cs=some x) :
  ∃ y:DTerm,cs=[.int .i64 y.n,.int .i64 y.unit]:=by
 obtain⟨hl,m,hg⟩:=field_of D.term hz h;rw[D.term2]at hl
 match cs,hl with
 | [a,b],_ =>
  obtain⟨y0,h0,_⟩:=hg 0 tI 0 rfl;obtain⟨y1,h1,_⟩:=hg 1 tU 1 rfl;rw[T.int1]at h0;rw[D.unit1]at h1;obtain⟨u,e0,_,_⟩:=DataW.trod_int T.int h0;obtain⟨v,e1,_,_⟩:=DataW.trod_int D.unit h1;simp at e0 e1;exact⟨⟨u,v⟩,by rw[e0,e1]⟩
theorem dpapers_of_trod(T:UseTy P tI tIs tSpan tSpans tUP tUPs tReq tReqs tUse)(D:DatTy P tI tU tS tIs tSpans tCal tTerm tPaper tPapers tClaim tClaims tDue tDues tApp tApps tFile)(hz:Light P tPapers x.1)(h:DataW.trod enc P W base sp held fuel tPapers cs=some x) :
  ∃ p n c l,cs=[.slice p n c]/\Sl DPaperE 2 (getW W) p n l:=by
 refine sl_of_trod D.papers D.paper2 D.bytes.1 hz ?_ h;intro n a cs y hl hc hy hz;obtain⟨_,m,hf⟩:=field_of D.paper hz hy
 match cs,hl with
 | [c0,c1],_ =>
  obtain⟨y0,h0,_⟩:=hf 0 tI 0 rfl;obtain⟨y1,h1,_⟩:=hf 1 tI 1 rfl;rw[T.int1]at h0 h1;obtain⟨u,e0,_,_⟩:=DataW.trod_int T.int h0;obtain⟨v,e1,_,_⟩:=DataW.trod_int T.int h1;simp at e0 e1;subst e0;subst e1;exact⟨⟨u,v⟩,hc 0 _ rfl,hc 1 _ rfl⟩
theorem dclaims_of_trod(T:UseTy P tI tIs tSpan tSpans tUP tUPs tReq tReqs tUse)(D:DatTy P tI tU tS tIs tSpans tCal tTerm tPaper tPapers tClaim tClaims tDue tDues tApp tApps tFile)(hz:Light P tClaims x.1)(h:DataW.trod enc P W base sp held fuel tClaims cs=some x) :
  ∃ p n c l,cs=[.slice p n c]/\Sl DClaimE 3 (getW W) p n l:=by
 refine sl_of_trod D.claims D.claim3 D.bytes.2.1 hz ?_ h;intro n a cs y hl hc hy hz;obtain⟨_,m,hf⟩:=field_of D.claim hz hy
 match cs,hl with
 | [c0,c1,c2],_ =>
  obtain⟨y0,h0,_⟩:=hf 0 tI 0 rfl;obtain⟨y1,h1,_⟩:=hf 1 tI 1 rfl;obtain⟨y2,h2,zh2⟩:=hf 2 tIs 2 rfl;rw[T.int1]at h0 h1;rw[T.ints1]at h2;obtain⟨u,e0,_,_⟩:=DataW.trod_int T.int h0;obtain⟨v,e1,_,_⟩:=DataW.trod_int T.int h1;obtain⟨p,k,c,l,e2,s⟩:=ints_of_trod T zh2 h2;simp at e0 e1 e2;subst e0;subst e1;subst e2;exact⟨⟨u,v,l⟩,hc 0 _ rfl,hc 1 _ rfl,p,k,c,hc 2 _ rfl,s⟩
theorem ddues_of_trod(T:UseTy P tI tIs tSpan tSpans tUP tUPs tReq tReqs tUse)(D:DatTy P tI tU tS tIs tSpans tCal tTerm tPaper tPapers tClaim tClaims tDue tDues tApp tApps tFile)(hz:Light P tDues x.1)(h:DataW.trod enc P W base sp held fuel tDues cs=some x) :
  ∃ p n c l,cs=[.slice p n c]/\Sl DDueE 6 (getW W) p n l:=by
 refine sl_of_trod D.dues D.due6 D.bytes.2.2.1 hz ?_ h;intro n a cs y hl hc hy hz;obtain⟨_,m,hf⟩:=field_of D.due hz hy;obtain⟨c0,c1,c2,c3,c4,c5,rfl⟩:=list6 hl;obtain⟨y0,h0,_⟩:=hf 0 tI 0 rfl;obtain⟨y1,h1,zh1⟩:=hf 1 tTerm 1 rfl;obtain⟨y2,h2,_⟩:=hf 2 tI 3 rfl;obtain⟨y3,h3,_⟩:=hf 3 tI 4 rfl;obtain⟨y4,h4,_⟩:=hf 4 tI 5 rfl;rw[T.int1]at h0 h2 h3 h4;rw[D.term2]at h1;obtain⟨a0,e0,_,_⟩:=DataW.trod_int T.int h0;obtain⟨a1,e1⟩:=term_cells T D zh1 h1;obtain⟨a2,e2,_,_⟩:=DataW.trod_int T.int h2;obtain⟨a3,e3,_,_⟩:=DataW.trod_int T.int h3;obtain⟨a4,e4,_,_⟩:=DataW.trod_int T.int h4;simp at e0 e1 e2 e3 e4;obtain⟨rfl,rfl⟩:=e1;subst e0;subst e2;subst e3;subst e4;exact⟨⟨a0,a1,a2,a3,a4⟩,hc 0 _ rfl,hc 1 _ rfl,hc 2 _ rfl,hc 3 _ rfl,hc 4 _ rfl,hc 5 _ rfl⟩
theorem dapps_of_trod(T:UseTy P tI tIs tSpan tSpans tUP tUPs tReq tReqs tUse)(D:DatTy P tI tU tS tIs tSpans tCal tTerm tPaper tPapers tClaim tClaims tDue tDues tApp tApps tFile)(hz:Light P tApps x.1)(h:DataW.trod enc P W base sp held fuel tApps cs=some x) :
  ∃ p n c l,cs=[.slice p n c]/\Sl DAppE 4 (getW W) p n l:=by
 refine sl_of_trod D.apps D.app4 D.bytes.2.2.2 hz ?_ h;intro n a cs y hl hc hy hz;obtain⟨_,m,hf⟩:=field_of D.app hz hy
 match cs,hl with
 | [c0,c1,c2,c3],_ =>
  obtain⟨y0,h0,_⟩:=hf 0 tS 0 rfl;obtain⟨y1,h1,zh1⟩:=hf 1 tPapers 1 rfl;obtain⟨y2,h2,zh2⟩:=hf 2 tClaims 2 rfl;obtain⟨y3,h3,zh3⟩:=hf 3 tDues 3 rfl;rw[D.str1]at h0;rw[D.papers1]at h1;rw[D.claims1]at h2;rw[D.dues1]at h3;obtain⟨s,e0,_⟩:=DataW.trod_string D.str h0;obtain⟨p1,n1,k1,l1,e1,s1⟩:=dpapers_of_trod T D zh1 h1;obtain⟨p2,n2,k2,l2,e2,s2⟩:=dclaims_of_trod T D zh2 h2;obtain⟨p3,n3,k3,l3,e3,s3⟩:=ddues_of_trod T D zh3 h3;simp at e0 e1 e2 e3;subst e0;subst e1;subst e2;subst e3;exact⟨⟨s,l1,l2,l3⟩,⟨p1,n1,k1,p2,n2,k2,p3,n3,k3⟩,hc 0 _ rfl,hc 1 _ rfl,hc 2 _ rfl,hc 3 _ rfl,s1,s2,s3⟩
theorem dfile_arg(T:UseTy P tI tIs tSpan tSpans tUP tUPs tReq tReqs tUse)(D:DatTy P tI tU tS tIs tSpans tCal tTerm tPaper tPapers tClaim tClaims tDue tDues tApp tApps tFile){r:Reach}{b0:Nat}{v:Value}{d:DataW H}{ps:List MemPlace}
 (hv:Value.okWide P W r b0 tFile v)(hz:Light P tFile d)(h:DataW.Trod enc P W base sp held tFile v d ps):∃ f y,v=dfV f y/\DFileR (getW W) f y:=by
 obtain⟨fs,hu,_⟩:=D.file;obtain⟨cs,rfl,_⟩:=WideShapes.okWide_struct hu hv;obtain⟨fuel,hf⟩:=h;obtain⟨hl,m,hg⟩:=field_of D.file hz hf;rw[D.file15]at hl;obtain⟨c0,c1,c2,c3,c4,c5,c6,c7,c8,c9,c10,c11,c12,c13,c14,hc⟩:=list15 hl;rw[hc]at hg;obtain⟨y0,h0,zh0⟩:=hg 0 tCal 0 rfl;obtain⟨y1,h1,_⟩:=hg 1 tI 2 rfl;obtain⟨y2,h2,zh2⟩:=hg 2 tTerm 3 rfl;obtain⟨y3,h3,zh3⟩:=hg 3 tTerm 5 rfl;obtain⟨y4,h4,zh4⟩:=hg 4 tTerm 7 rfl;obtain⟨y5,h5,zh5⟩:=hg 5 tTerm 9 rfl;obtain⟨y6,h6,zh6⟩:=hg 6 tTerm 11 rfl;obtain⟨y7,h7,_⟩:=hg 7 tI 13 rfl;obtain⟨y8,h8,zh8⟩:=hg 8 tApps 14 rfl;rw[D.cal2]at h0;rw[T.int1]at h1 h7;rw[D.term2]at h2 h3 h4 h5 h6;rw[D.apps1]at h8;obtain⟨fc,yc,e0,rc⟩:=cal_cells T D zh0 h0;obtain⟨a1,e1,_,_⟩:=DataW.trod_int T.int h1;obtain⟨a2,e2⟩:=term_cells T D zh2 h2;obtain⟨a3,e3⟩:=term_cells T D zh3 h3;obtain⟨a4,e4⟩:=term_cells T D zh4 h4;obtain⟨a5,e5⟩:=term_cells T D zh5 h5;obtain⟨a6,e6⟩:=term_cells T D zh6 h6;obtain⟨a7,e7,_,_⟩:=DataW.trod_int T.int h7;obtain⟨p,n,c,l,e8,s8⟩:=dapps_of_trod T D zh8 h8;simp at e0 e1 e2 e3 e4 e5 e6 e7 e8;obtain⟨rfl,rfl⟩:=e0;obtain⟨rfl,rfl⟩:=e2;obtain⟨rfl,rfl⟩:=e3;obtain⟨rfl,rfl⟩:=e4;obtain⟨rfl,rfl⟩:=e5;obtain⟨rfl,rfl⟩:=e6;subst e1;subst e7;subst e8;exact⟨⟨fc,p,n,c⟩,⟨yc,a1,a2,a3,a4,a5,a6,a7,l⟩,agg_of hc,rc,s8⟩
end
end
end Go.TM
section
namespace Go.Y
open Go.Proofs.YtjlalnifmgppdaaGreatDoor
open Go.ChangeShapes Go.WideShapes Go.RowKit
theorem UT:UseTy Tryz.prog 3 29 28 22 31 23 33 24 26 where
 int:=by kernel_rfl
 int1:=by kernel_rfl
 bytes:=⟨of_decide_eq_true (by kernel_rfl),of_decide_eq_true (by kernel_rfl),of_decide_eq_true (by kernel_rfl),of_decide_eq_true (by kernel_rfl)⟩
 ints:=by kernel_rfl
 ints1:=by kernel_rfl
 span:=⟨_,Tryz.underlying28,rfl⟩
 span2:=by kernel_rfl
 spans:=by kernel_rfl
 spans1:=by kernel_rfl
 paper:=⟨_,Tryz.underlying31,rfl⟩
 paper4:=by kernel_rfl
 papers:=by kernel_rfl
 papers1:=by kernel_rfl
 req:=⟨_,Tryz.underlying33,rfl⟩
 req3:=by kernel_rfl
 reqs:=by kernel_rfl
 reqs1:=by kernel_rfl
 file:=⟨_,Tryz.underlying26,rfl⟩
 file7:=by kernel_rfl
def partsN : String := "touchmark/use.parts"
theorem gParts:Tryz.prog.globalNamed partsN=some 0:=by kernel_rfl
theorem tParts:(Tryz.prog.globals[0]?).map (·.type)=some 187:=by kernel_rfl
theorem cells98:Tryz.prog.cellsOf 187=4:=by kernel_rfl
theorem array4{α:Type}:∀ {l:List α},l.length=4->∃ a b c d,l=[a,b,c,d]
 | [a,b,c,d],_=>⟨a,b,c,d,rfl⟩
theorem parts_of_laid{l:List (String×DataW Unit)}{W:World}(h:laidMetH Tryz.prog l W)(hm:(partsN,Rows.laid_touchmark_use_parts)∈l):Parts (getW W):=by
 obtain⟨g,t,cs,fuel,p,hg,ht,hv,hd⟩:=laidMetH.funcs h (n:=partsN) hm;obtain rfl:=Option.some.inj (gParts.symm.trans hg);obtain rfl:=Option.some.inj (tParts.symm.trans ht);obtain⟨xs,m,_,hx,hl,hn,hel⟩:=DataW.trod_array Tryz.underlying187 hd;rw[cells98]at hl;have hcell:∀ j:Nat,W.cell? ⟨0,j,none⟩=cs[j]?:=World.var?_cell gParts hv;obtain⟨x0,x1,x2,x3,rfl⟩:=array4 hn;obtain⟨v0,v1,v2,v3,hc⟩:=array4 hl;have e1:Tryz.prog.cellsOf 109=1:=by kernel_rfl
 have ec:∀ j:Nat,cs[j]?=[v0,v1,v2,v3][j]?:=fun j=>by rw[<- hc];simp
 simp only[Prod.mk.injEq]at hx;obtain⟨hx,_⟩:=hx;simp only[DataW.funcsOut,DataW.funcsOutAll,List.map_cons,List.map_nil,DataW.agg.injEq,List.cons.injEq,beq_self_eq_true,if_true,and_true]at hx;obtain⟨h0,h1,h2,h3⟩:=hx;have k0:=hel 0 (by decide);have k1:=hel 1 (by decide);have k2:=hel 2 (by decide);have k3:=hel 3 (by decide);rw[hc,e1]at k0 k1 k2 k3;obtain⟨d0,q0⟩:=x0;obtain⟨d1,q1⟩:=x1;obtain⟨d2,q2⟩:=x2;obtain⟨d3,q3⟩:=x3;simp only at h0 h1 h2 h3;subst h0;subst h1;subst h2;subst h3;have r0:v0=.func (.func 197) #[] #[]:=func_of_trod (P:=Tryz.prog) Tryz.underlying109 (by kernel_rfl) k0;have r1:v1=.func (.func 198) #[] #[]:=func_of_trod (P:=Tryz.prog) Tryz.underlying109 (by kernel_rfl) k1;have r2:v2=.func (.func 199) #[] #[]:=func_of_trod (P:=Tryz.prog) Tryz.underlying109 (by kernel_rfl) k2;have r3:v3=.func (.func 200) #[] #[]:=func_of_trod (P:=Tryz.prog) Tryz.underlying109 (by kernel_rfl) k3;intro j hj;refine getW_cell ?_;rw[hcell,ec]
 match j,hj with
 | 0,_=>simp[r0]
 | 1,_=>simp[r1]
 | 2,_=>simp[r2]
 | 3,_=>simp[r3]
def noUse:Value:=.agg #[.int .i64 0,.int .i64 0,.int .i64 0,.int .i64 0,.slice none 0 0,.slice none 0 0,.slice none 0 0]
theorem FT:DatTy Tryz.prog 3 36 9 29 22 35 38 133 87 101 88 173 89 91 39 41 where
 unit:=by kernel_rfl
 unit1:=by kernel_rfl
 str:=by kernel_rfl
 str1:=by kernel_rfl
 bytes:=⟨of_decide_eq_true (by kernel_rfl),of_decide_eq_true (by kernel_rfl),of_decide_eq_true (by kernel_rfl),of_decide_eq_true (by kernel_rfl)⟩
 cal:=⟨_,Tryz.underlying35,rfl⟩
 cal2:=by kernel_rfl
 term:=⟨_,Tryz.underlying38,rfl⟩
 term2:=by kernel_rfl
 paper:=⟨_,Tryz.underlying133,rfl⟩
 paper2:=by kernel_rfl
 papers:=by kernel_rfl
 papers1:=by kernel_rfl
 claim:=⟨_,Tryz.underlying101,rfl⟩
 claim3:=by kernel_rfl
 claims:=by kernel_rfl
 claims1:=by kernel_rfl
 due:=⟨_,Tryz.underlying173,rfl⟩
 due6:=by kernel_rfl
 dues:=by kernel_rfl
 dues1:=by kernel_rfl
 app:=⟨_,Tryz.underlying91,rfl⟩
 app4:=by kernel_rfl
 apps:=by kernel_rfl
 apps1:=by kernel_rfl
 file:=⟨_,Tryz.underlying41,rfl⟩
 file15:=by kernel_rfl
def noDates:Value:=.agg #[.slice none 0 0,.slice none 0 0,.int .i64 0,.int .i64 0,.int .i64 0,.int .i64 0,.int .i64 0,.int .i64 0,.int .i64 0,.int .i64 0,.int .i64 0,.int .i64 0,.int .i64 0,.int .i64 0,.slice none 0 0]
end Go.Y
namespace Go.Y.Tre
open Go.Proofs.YtjlalnifmgppdaaGreatDoor
open Go.ChangeShapes Go.WideShapes Go.RowKit
theorem own:ownKnob Tryz.prog.godebug=none:=by kernel_rfl
theorem lo:laidOutB Tryz.prog=true:=by kernel_rfl
theorem und5:Tryz.prog.underlying 5=some (.int .u8):=by kernel_rfl
theorem wf_u8{n:Int}(h:(Lit.int .u8 n).wf=true):0<=n/\n<=255:=by simpa[Lit.wf,IntKind.min,IntKind.max,IntKind.signed,IntKind.bits] using h
theorem laid_at{P:Program}{w:World}{n:String}{d:DataW Unit}:∀ {l:List (String×DataW Unit)} {ps:List MemPlace},DataW.LaidVars P w l ps->(n,d)∈l->∃ g t cs fuel p,P.globalNamed n=some g/\(P.globals[g]?).map (·.type)=some t/\w.var? P n=some cs/\DataW.trod (fun _=>()) P w 0 (fun _=>true) false fuel t cs.toList=some (d,p)
 | [],_,_,h=>by simp at h
 | (m,e)::r,ps,h,hm=>by
  obtain⟨g,t,cs,fuel,p,q,h1,h2,h3,h4,h5,_⟩:=h;rcases List.mem_cons.1 hm with h6|h6
  ·cases h6;exact⟨g,t,cs,fuel,p,h1,h2,h3,h4⟩
  ·exact laid_at h5 h6
def lensN : String := "touchmark/dates.lengths"
theorem gLens:Tryz.prog.globalNamed lensN=some 1:=by kernel_rfl
theorem tLens:(Tryz.prog.globals[1]?).map (·.type)=some 230:=by kernel_rfl
theorem lens_of_laid{l:List (String×DataW Unit)}{W:World}(h:laidMetH Tryz.prog l W)(hm:(lensN,Rows.laid_touchmark_dates_lengths)∈l):Lens (getW W):=by
 obtain⟨ps,hL,_⟩:=(laidMetH_iff.1 h).1;obtain⟨g',t',cs',fuel',p',hg',ht',hv',hd'⟩:=laid_at hL (List.mem_filter.2 ⟨hm,rfl⟩);obtain rfl:=Option.some.inj (gLens.symm.trans hg');obtain rfl:=Option.some.inj (tLens.symm.trans ht');obtain⟨xs,m,_,hx,hl,hn,hel⟩:=DataW.trod_array Tryz.underlying230 hd';have e1:Tryz.prog.cellsOf 3=1:=by kernel_rfl
 have hcell:∀ j:Nat,W.cell? ⟨1,j,none⟩=cs'[j]?:=World.var?_cell gLens hv';have hx:(Rows.laid_touchmark_dates_lengths:DataW Unit)=.agg (xs.map (·.1)):=(Prod.mk.inj hx).1;intro j hj;refine getW_cell ?_;rw[hcell];have hi:=hel j (by omega);rw[e1]at hi;cases hxj:xs[j]? with
 | none=>have:=List.getElem?_eq_none_iff.1 hxj;omega
 | some y =>
  rw[hxj]at hi;obtain⟨n,e2,e3,_⟩:=DataW.trod_int Tryz.underlying3 hi;have hy:(xs.map (·.1))[j]?=some (.lit (.int .i64 n)):=by rw[List.getElem?_map,hxj,e3];rfl
  have hlist:∀ i:Nat,i<12->∀ z:DataW Unit,(xs.map (·.1))[i]?=some z->z=.lit (.int .i64 (Te.lens.getD i 0)):=by
   intro i hi12 z hz;have:(DataW.agg (xs.map (·.1)):DataW Unit)=Rows.laid_touchmark_dates_lengths:=hx.symm;unfold Rows.laid_touchmark_dates_lengths at this;injection this with this;rw[this]at hz
   match i,hi12 with
   | 0,_=>cases hz;rfl
   | 1,_=>cases hz;rfl
   | 2,_=>cases hz;rfl
   | 3,_=>cases hz;rfl
   | 4,_=>cases hz;rfl
   | 5,_=>cases hz;rfl
   | 6,_=>cases hz;rfl
   | 7,_=>cases hz;rfl
   | 8,_=>cases hz;rfl
   | 9,_=>cases hz;rfl
   | 10,_=>cases hz;rfl
   | 11,_=>cases hz;rfl
  have hn':=hlist j hj _ hy;injection hn' with hn';injection hn' with _ hn';have hc:(cs'.toList.drop (j*1)).take 1=[.int .i64 n]:=e2;have:cs'.toList[j]?=some (.int .i64 n):=by
   have h2:((cs'.toList.drop (j*1)).take 1)[0]?=some (.int .i64 n):=by rw[hc];rfl
   rw[List.getElem?_take,if_pos (by omega),List.getElem?_drop]at h2;simpa using h2
  rw[<- Array.getElem?_toList,this,hn']
end Go.Y.Tre
end
namespace Go.TM
section
variable {P:Program} {E:Halt->Cells->Prop} {h:Cells}
theorem boT_und{t:TypeId}(ht:isBoolT P t=true):P.underlying t=some .bool:=by
 unfold isBoolT at ht;split at ht
 ·assumption
 ·cases ht
theorem boT_agg{t:TypeId}(ht:isBoolT P t=true):isAggT P t=false:=by
 unfold isAggT;rw[boT_und ht]
theorem lwp_partB{Q:Value->Cells->Prop}{t:TypeId}{cs:Array Value}{o:Nat}{v:Value}(ht:isBoolT P t=true)(hv:cs[o]?=some v)(hq:Q v h):Sem.lwp P (part t cs o) Q E h:=by
 unfold part;rw[lwp_bind,lwp_isAgg_false (boT_und ht) (boT_agg ht)];simp only[Bool.false_eq_true,if_false,hv];exact hq
theorem lwp_equalB{Q:Bool->Cells->Prop}{t:TypeId}{d:Nat}{a b:Bool}(ht:isBoolT P t=true)(hq:Q (a==b) h):Sem.lwp P (Op.equalIn (d+1) t (.bool a) (.bool b)) Q E h:=by
 unfold Op.equalIn;rw[lwp_bind,lwp_underlying (boT_und ht)];exact hq
section
variable {X:XP} {Q:Leaf->LH->Prop}
theorem CV.frame(hX:XOK X){v:Value}{args:Array Value}{h:LH}{A:Value->LH->Prop}(c:CV X P v args h A){k:Cells}(d:Disj h.get k):CV X P v args (h.add k) fun r h₂=>∃ h',Disj h'.get k/\h₂=h'.add k/\A r h':=by
 intro main R hR fr cs hk;have hcv:=c main (fun g h=>Disj h.get k->R g (h.add k)) (hR.frame hX k) fr cs ?_
 ·refine Sem.lwp_mono _ (lwp_frame _ hcv d) ?_ ?_
  ·rintro nx h₂ ⟨h',d',rfl,hN⟩;cases nx<;>first|exact hN.elim|exact hN d'
  ·rintro e' h₂ ⟨_,_,_,hf⟩;exact hf.elim
 ·intro v h' j dj' hQ dk;have d1:Disj h'.get k:=dk.of_add_left;have d2:Disj j k:=Disj.of_add_right dj' dk;have e1:(h'.add j).add k=(h'.add k).add j:=by unfold LH.add;simp only;rw[Cells.add_swap d2]
  rw[e1];exact hk v (h'.add k) j (Disj.add dj' d2.symm) ⟨h',d1,rfl,hQ⟩
end
end
section
variable {P:Program} {E:Halt->Cells->Prop} {h:Cells}
theorem str_beq(a b:ByteArray):(a==b)=true↔a=b:=by
 obtain⟨x⟩:=a;obtain⟨y⟩:=b;show (x==y)=true↔_;rw[beq_iff_eq];constructor
 ·rintro rfl;rfl
 ·intro e;cases e;rfl
def isBas(P:Program)(t:TypeId)(v:Value):Prop:=(P.underlying t=some (.int .i64)/\∃ n,v=.int .i64 n)\/(P.underlying t=some .bool/\∃ b,v=.bool b)\/(P.underlying t=some .string/\∃ s,v=.string s)
theorem isBas.agg{t:TypeId}{v:Value}(b:isBas P t v):∃ d,P.underlying t=some d/\isAggT P t=false:=by
 rcases b with⟨hu,_⟩|⟨hu,_⟩|⟨hu,_⟩<;>exact⟨_,hu,by unfold isAggT;rw[hu]⟩
theorem lwp_partF{Q:Value->Cells->Prop}{t:TypeId}{cs:Array Value}{o:Nat}{v:Value}(b:isBas P t v)(hv:cs[o]?=some v)(hq:Q v h):Sem.lwp P (part t cs o) Q E h:=by
 obtain⟨d,hu,ha⟩:=b.agg;unfold part;rw[lwp_bind,lwp_isAgg_false hu ha];simp only[Bool.false_eq_true,if_false,hv];exact hq
theorem lwp_equalF{Q:Bool->Cells->Prop}{t:TypeId}{d:Nat}{a b:Value}(ha:isBas P t a)(hb:isBas P t b)(hq:∀ c:Bool,(c=true↔a=b)->Q c h):Sem.lwp P (Op.equalIn (d+1) t a b) Q E h:=by
 unfold Op.equalIn;rcases ha with⟨hu,n,rfl⟩|⟨hu,n,rfl⟩|⟨hu,n,rfl⟩<;>rcases hb with⟨hu',m,rfl⟩|⟨hu',m,rfl⟩|⟨hu',m,rfl⟩<;>(rw[hu]at hu';first|cases hu'|skip)
 ·rw[lwp_bind,lwp_underlying hu];exact hq _ (by simp)
 ·rw[lwp_bind,lwp_underlying hu];exact hq _ (by simp)
 ·rw[lwp_bind,lwp_underlying hu];exact hq _ (by rw[str_beq];simp)
theorem lwp_all{α σ:Type}{s0 s1:σ}{body:α->σ->Sem (ForInStep σ)}{c:α->Bool}:∀ {l:List α} {Q:σ->Cells->Prop},(∀ f∈l,∀ {Q:ForInStep σ->Cells->Prop},Q (if c f then .yield s0 else .done s1) h->Sem.lwp P (body f s0) Q E h)->Q (if l.all c then s0 else s1) h->Sem.lwp P (forIn l s0 body) Q E h
 | [],Q,_,hq=>by
  rw[List.forIn_nil];exact hq
 | f::l,Q,hb,hq=>by
  rw[List.forIn_cons,lwp_bind];refine hb f (by simp) ?_;cases hc:c f with
  | true =>
   simp only[if_true];refine lwp_all (fun g hg=>hb g (by simp[hg])) ?_;simpa[hc] using hq
  | false =>
   simp only[Bool.false_eq_true,if_false,lwp_pure];simpa[hc] using hq
inductive FlatAgg(P:Program)(t:TypeId)(vs:List Value):Prop where
 | str (fs : Array Field) (hu : P.underlying t = some (.struct fs)) (hs : P.stoodInHeld t = false) (hl : fs.toList.length = vs.length) (hf : ∀ (i : Nat) f v, fs.toList[i]? = some f -> vs[i]? = some v -> f.name ≠ "_" /\ f.offset = i /\ isBas P f.type v)
 | arr (n:Nat) (el:TypeId) (inf:TypeInfo) (hu:P.underlying t=some (.array n el)) (hi:P.info? el=some inf) (h1:inf.size=1) (hl:vs.length=n) (hf:∀ v∈vs,isBas P el v)
inductive NestT(P:Program)(t:TypeId):Prop where
 | mk (f0 f1 : Field) (fs : Array Field) (inf : TypeInfo) (hl : fs.toList = [f0, f1]) (hu : P.underlying t = some (.struct fs)) (hs : P.stoodInHeld t = false) (n0 : f0.name ≠ "_") (n1 : f1.name ≠ "_") (o0 : f0.offset = 0) (o1 : f1.offset = 1)
   (b0:P.underlying f0.type=some (.int .i64)) (b1:∀ n u,FlatAgg P f1.type [.int .i64 n,.int .i64 u]) (ha:isAggT P f1.type=true) (hi:P.info? f1.type=some inf) (h2:inf.size=2)
def nestV(a n u:Int):Value:=.agg #[.int .i64 a,.int .i64 n,.int .i64 u]
def FKey(P:Program)(t:TypeId)(v:Value):Prop:=isBas P t v\/(∃ vs,v=.agg vs.toArray/\FlatAgg P t vs)\/(NestT P t/\∃ a n u,v=nestV a n u)
theorem NestT.notBas{t:TypeId}{v:Value}(N:NestT P t)(b:isBas P t v):False:=by
 obtain⟨f0,f1,fs,inf,hl,hu,hs,n0,n1,o0,o1,b0,b1,ha,hi,h2⟩:=N;obtain⟨d,hu',hn⟩:=b.agg;unfold isAggT at hn;rw[hu]at hn;cases hn
theorem NestT.notFlat{t:TypeId}{vs:List Value}(N:NestT P t)(b:FlatAgg P t vs):False:=by
 obtain⟨f0,f1,fs,inf,hl,hu,hs,n0,n1,o0,o1,b0,b1,ha,hi,h2⟩:=N;cases b with
 | arr n el inf hu'=>rw[hu]at hu';cases hu'
 | str fs' hu' hs' hl' hf' =>
  rw[hu]at hu';cases hu';rw[hl]at hl' hf';have h1:1<vs.length:=by rw[<- hl'];simp
  obtain⟨_,_,b2⟩:=hf' 1 f1 vs[1] rfl (List.getElem?_eq_getElem h1);obtain⟨d,_,hn⟩:=b2.agg;rw[ha]at hn;cases hn
theorem lwp_partA{Q:Value->Cells->Prop}{t:TypeId}{cs:Array Value}{o:Nat}{inf:TypeInfo}(ha:isAggT P t=true)(hi:P.info? t=some inf)(hq:Q (.agg (cs.extract o (o+inf.size))) h):Sem.lwp P (part t cs o) Q E h:=by
 unfold part;rw[lwp_bind,lwp_isAgg_true ha];simp only[if_true,lwp_bind,lwp_sizeOf hi];exact hq
theorem list_all_eq{α:Type}{a b:List α}(hl:a.length=b.length)(h:∀ (i:Nat) x y,a[i]?=some x->b[i]?=some y->x=y):a=b:=by
 refine List.ext_getElem? fun i=>?_;by_cases hi:i<a.length
 ·have ha:=List.getElem?_eq_getElem hi;have hb:=List.getElem?_eq_getElem (l:=b) (i:=i) (by omega);rw[ha,hb,h i _ _ ha hb]
 ·rw[List.getElem?_eq_none (by omega),List.getElem?_eq_none (by omega)]
open Classical in
theorem lwp_equalA{Q:Bool->Cells->Prop}{t:TypeId}{d:Nat}{ys bs:List Value}(ha:FlatAgg P t ys)(hb:FlatAgg P t bs)(hq:∀ c:Bool,(c=true↔ys=bs)->Q c h):Sem.lwp P (Op.equalIn (d+1+1) t (.agg ys.toArray) (.agg bs.toArray)) Q E h:=by
 cases ha with
 | str fs hu hs hl hf =>
  cases hb with
  | arr n el inf hu'=>rw[hu]at hu';cases hu'
  | str fs' hu' hs' hl' hf' =>
   rw[hu]at hu';cases hu';have key:(fs.toList.all fun f=>decide (ys[f.offset]?=bs[f.offset]?))=true↔ys=bs:=by
    rw[List.all_eq_true];constructor
    ·intro hall;refine list_all_eq (by omega) fun i x y hx hy=>?_;have hi:i<fs.toList.length:=by rw[hl];exact(List.getElem?_eq_some_iff.1 hx).1
     have hfi:=List.getElem?_eq_getElem hi;have h1:=of_decide_eq_true (hall _ (List.mem_of_getElem? hfi));rw[(hf i _ x hfi hx).2.1,hx,hy]at h1;exact Option.some.inj h1
    ·rintro rfl f _;simp
   unfold Op.equalIn;rw[lwp_bind,lwp_underlying hu];simp only[lwp_bind,lwp_program,hs,Bool.false_eq_true,if_false,<- Array.forIn_toList];refine lwp_all (s1:=⟨some false,()⟩) (c:=fun f=>decide (ys[f.offset]?=bs[f.offset]?)) ?_ ?_
   ·intro f hfm Q hQ;obtain⟨i,hi⟩:=List.mem_iff_getElem?.1 hfm;have hil:i<fs.toList.length:=(List.getElem?_eq_some_iff.1 hi).1;have hx:=List.getElem?_eq_getElem (l:=ys) (i:=i) (by omega);have hy:=List.getElem?_eq_getElem (l:=bs) (i:=i) (by omega);obtain⟨n1,o1,b1⟩:=hf i f _ hi hx;obtain⟨_,_,b2⟩:=hf' i f _ hi hy;rw[if_pos n1];simp only[lwp_bind];refine lwp_partF b1 (by rw[o1];simpa using hx) (lwp_partF b2 (by rw[o1];simpa using hy) (lwp_equalF b1 b2 fun c hc=>?_));rw[o1,hx,hy]at hQ;cases c with
    | true =>
     have:ys[i]=bs[i]:=hc.1 rfl;simp only[this,decide_true,if_true]at hQ;simpa[lwp_pure] using hQ
    | false =>
     have:¬ ys[i]=bs[i]:=fun e=>by cases hc.2 e
     have h2:¬ some ys[i]=some bs[i]:=fun e=>this (Option.some.inj e);simp only[h2,decide_false,Bool.false_eq_true,if_false]at hQ;simpa[lwp_pure] using hQ
   ·cases hall:(fs.toList.all fun f=>decide (ys[f.offset]?=bs[f.offset]?)) with
    | true=>simpa[lwp_pure] using hq true (by simpa[hall] using key)
    | false=>simpa[lwp_pure] using hq false (by simpa[hall] using key)
 | arr n el inf hu hi h1 hl hf =>
  cases hb with
  | str fs' hu'=>rw[hu]at hu';cases hu'
  | arr n' el' inf' hu' hi' h1' hl' hf' =>
   rw[hu]at hu';cases hu';rw[hi]at hi';cases hi';have key:((List.range' 0 n).all fun i=>decide (ys[i]?=bs[i]?))=true↔ys=bs:=by
    rw[List.all_eq_true];constructor
    ·intro hall;refine list_all_eq (by omega) fun i x y hx hy=>?_;have hi:i<n:=by rw[<- hl];exact(List.getElem?_eq_some_iff.1 hx).1
     have h1:=of_decide_eq_true (hall i (by simp[hi]));rw[hx,hy]at h1;exact Option.some.inj h1
    ·rintro rfl f _;simp
   unfold Op.equalIn;rw[lwp_bind,lwp_underlying hu];simp only[lwp_bind,lwp_sizeOf hi,h1,Nat.mul_one,Std.Legacy.Range.forIn_eq_forIn_range'];have hr:List.range' 0 ([:n]:Std.Legacy.Range).size=List.range' 0 n:=by simp[Std.Legacy.Range.size]
   have hr':([:n]:Std.Legacy.Range).start=0/\([:n]:Std.Legacy.Range).step=1:=⟨rfl,rfl⟩
   refine lwp_all (s1:=⟨some false,()⟩) (c:=fun i=>decide (ys[i]?=bs[i]?)) ?_ ?_
   ·intro i him Q hQ;have hin:i<n:=by
     have:=him;simp[Std.Legacy.Range.size]at this;omega
    have hx:=List.getElem?_eq_getElem (l:=ys) (i:=i) (by omega);have hy:=List.getElem?_eq_getElem (l:=bs) (i:=i) (by omega);have b1:=hf _ (List.mem_of_getElem? hx);have b2:=hf' _ (List.mem_of_getElem? hy);simp only[lwp_bind];refine lwp_partF (v:=ys[i]) b1 ?_ ?_
    ·rw[List.getElem?_toArray];exact hx
    refine lwp_partF (v:=bs[i]) b2 ?_ ?_
    ·rw[List.getElem?_toArray];exact hy
    refine lwp_equalF b1 b2 fun c hc=>?_;rw[hx,hy]at hQ;cases c with
    | true =>
     have:ys[i]=bs[i]:=hc.1 rfl;simp only[this,decide_true,if_true]at hQ;simpa[lwp_pure] using hQ
    | false =>
     have:¬ ys[i]=bs[i]:=fun e=>by cases hc.2 e
     have h2:¬ some ys[i]=some bs[i]:=fun e=>this (Option.some.inj e);simp only[h2,decide_false,Bool.false_eq_true,if_false]at hQ;simpa[lwp_pure] using hQ
   ·have hall':(List.range' ([:n]:Std.Legacy.Range).start ([:n]:Std.Legacy.Range).size ([:n]:Std.Legacy.Range).step)=List.range' 0 n:=by simp[Std.Legacy.Range.size]
    rw[hall'];cases hall:((List.range' 0 n).all fun i=>decide (ys[i]?=bs[i]?)) with
    | true=>simpa[lwp_pure] using hq true (by simpa[hall] using key)
    | false=>simpa[lwp_pure] using hq false (by simpa[hall] using key)
theorem agg_inj{ys bs:List Value}:Value.agg ys.toArray=.agg bs.toArray↔ys=bs:=by
 constructor
 ·intro e;injection e with e;simpa using e
 ·rintro rfl;rfl
theorem nestV_inj{a n u a' n' u':Int}:nestV a n u=nestV a' n' u'↔a=a'/\n=n'/\u=u':=by
 unfold nestV;simp
theorem lwp_equalN{Q:Bool->Cells->Prop}{t:TypeId}{d:Nat}{a n u a' n' u':Int}(N:NestT P t)(hq:∀ c:Bool,(c=true↔(a=a'/\n=n'/\u=u'))->Q c h):Sem.lwp P (Op.equalIn (d+1+1+1) t (nestV a n u) (nestV a' n' u')) Q E h:=by
 obtain⟨f0,f1,fs,inf,hl,hu,hs,n0,n1,o0,o1,b0,b1,ha,hi,h2⟩:=N;unfold nestV Op.equalIn;rw[lwp_bind,lwp_underlying hu];simp only[lwp_bind,lwp_program,hs,Bool.false_eq_true,if_false,<- Array.forIn_toList,hl,List.forIn_cons,List.forIn_nil];rw[if_pos n0];simp only[lwp_bind];refine lwp_partF (v:=.int .i64 a) (.inl ⟨b0,a,rfl⟩) (by rw[o0];rfl) (lwp_partF (v:=.int .i64 a') (.inl ⟨b0,a',rfl⟩) (by rw[o0];rfl) (lwp_equalF (.inl ⟨b0,a,rfl⟩) (.inl ⟨b0,a',rfl⟩) fun c hc=>?_));cases c with
 | false =>
  have hne:¬ a=a':=fun e=>by have:=hc.2 (by rw[e]);cases this
  simp only[Bool.not_false,if_true,lwp_pure];exact hq false (by simp[hne])
 | true =>
  have he:a=a':=by have:=hc.1 rfl;simpa using this
  simp only[Bool.not_true,Bool.false_eq_true,if_false,lwp_pure,lwp_bind];rw[if_pos n1];simp only[lwp_bind];refine lwp_partA ha hi (lwp_partA ha hi ?_);rw[o1,h2];have ex:∀ x y z:Value,(#[x,y,z]:Array Value).extract 1 (1+2)=[y,z].toArray:=fun _ _ _=>rfl;rw[ex,ex];refine lwp_equalA (d:=d) (b1 n u) (b1 n' u') fun c hc=>?_;cases c with
  | false =>
   have hne:¬ (n=n'/\u=u'):=fun e=>by have:=hc.2 (by rw[e.1,e.2]);cases this
   simp only[Bool.not_false,if_true,lwp_pure];exact hq false (by simp[he];simpa using hne)
  | true =>
   have:=hc.1 rfl;simp only[Bool.not_true,Bool.false_eq_true,if_false,lwp_pure,lwp_bind];exact hq true (by simp at this;simp[he,this])
theorem lwp_equalK{Q:Bool->Cells->Prop}{t:TypeId}{a b:Value}(ha:FKey P t a)(hb:FKey P t b)(hq:∀ c:Bool,(c=true↔a=b)->Q c h):Sem.lwp P (Op.equal t a b) Q E h:=by
 have hmd:Op.maxDepth=9998+1+1:=rfl;unfold Op.equal;rw[hmd];rcases ha with ha|⟨ys,rfl,ha⟩|⟨N,a0,n0,u0,rfl⟩<;>rcases hb with hb|⟨bs,rfl,hb⟩|⟨N',a1,n1,u1,rfl⟩
 ·exact lwp_equalF ha hb hq
 ·obtain⟨d,hu,hn⟩:=ha.agg;cases hb<;>(unfold isAggT at hn;rename_i hu';first|(rw[‹P.underlying t=some (.struct _)›]at hn;cases hn)|(rw[‹P.underlying t=some (.array _ _)›]at hn;cases hn))
 ·exact(N'.notBas ha).elim
 ·obtain⟨d,hu,hn⟩:=hb.agg;cases ha<;>(unfold isAggT at hn;first|(rw[‹P.underlying t=some (.struct _)›]at hn;cases hn)|(rw[‹P.underlying t=some (.array _ _)›]at hn;cases hn))
 ·exact lwp_equalA ha hb fun c hc=>hq c (by rw[agg_inj];exact hc)
 ·exact(N'.notFlat ha).elim
 ·exact(N.notBas hb).elim
 ·exact(N.notFlat hb).elim
 ·exact lwp_equalN (d:=9997) N fun c hc=>hq c (by rw[nestV_inj];exact hc)
theorem lwp_checkKeyA{Q:Unit->Cells->Prop}{e:Bool}{d:Nat}{kt:TypeId}{vs:List Value}(hf:FlatAgg P kt vs)(hq:Q () h):Sem.lwp P (Instr.checkKey e (d+1+1) kt (.agg vs.toArray)) Q E h:=by
 have one:∀ {Q:Unit->Cells->Prop} {d:Nat} {t:TypeId} {v:Value},isBas P t v->Q () h->Sem.lwp P (Instr.checkKey e (d+1) t v) Q E h:=by
  intro Q d t v hb hq;unfold Instr.checkKey;rcases hb with⟨hu,n,rfl⟩|⟨hu,n,rfl⟩|⟨hu,n,rfl⟩<;>(rw[lwp_bind,lwp_underlying hu];exact hq)
 rw[Instr.checkKey];cases hf with
 | str fs hu hs hl hf =>
  rw[lwp_bind,lwp_underlying hu];simp only[lwp_bind,<- Array.forIn_toList];refine lwp_all (s1:=()) (c:=fun _=>true) ?_ (by simpa[lwp_pure] using hq);intro f hfm Q hQ;obtain⟨i,hi⟩:=List.mem_iff_getElem?.1 hfm;have hil:i<fs.toList.length:=(List.getElem?_eq_some_iff.1 hi).1;have hx:=List.getElem?_eq_getElem (l:=vs) (i:=i) (by omega);obtain⟨n1,o1,b1⟩:=hf i f _ hi hx;rw[if_pos n1];simp only[lwp_bind];refine lwp_partF (v:=vs[i]) b1 (by rw[o1];simpa using hx) (one b1 ?_);simpa[lwp_pure] using hQ
 | arr n el inf hu hi h1 hl hf =>
  rw[lwp_bind,lwp_underlying hu];simp only[lwp_bind,Std.Legacy.Range.forIn_eq_forIn_range'];refine lwp_all (s1:=()) (c:=fun _=>true) ?_ (by simpa[lwp_pure] using hq);intro i him Q hQ;have hin:i<n:=by
   have:=him;simp[Std.Legacy.Range.size]at this;omega
  have hx:=List.getElem?_eq_getElem (l:=vs) (i:=i) (by omega);have b1:=hf _ (List.mem_of_getElem? hx);simp only[lwp_bind,lwp_sizeOf hi,h1,Nat.mul_one];refine lwp_partF (v:=vs[i]) b1 ?_ ?_
  ·rw[List.getElem?_toArray];exact hx
  refine one b1 ?_;simpa[lwp_pure] using hQ
theorem lwp_checkKeyK{Q:Unit->Cells->Prop}{e:Bool}{kt:TypeId}{v:Value}(hk:FKey P kt v)(hq:Q () h):Sem.lwp P (Instr.checkKey e 10000 kt v) Q E h:=by
 have one:∀ {Q:Unit->Cells->Prop} {d:Nat} {t:TypeId} {v:Value},isBas P t v->Q () h->Sem.lwp P (Instr.checkKey e (d+1) t v) Q E h:=by
  intro Q d t v hb hq;unfold Instr.checkKey;rcases hb with⟨hu,n,rfl⟩|⟨hu,n,rfl⟩|⟨hu,n,rfl⟩<;>(rw[lwp_bind,lwp_underlying hu];exact hq)
 rcases hk with hb|⟨vs,rfl,hf⟩|⟨N,a,n,u,rfl⟩
 ·exact one (d:=9999) hb hq
 ·exact lwp_checkKeyA (d:=9998) hf hq
 ·obtain⟨f0,f1,fs,inf,hl,hu,hs,n0,n1,o0,o1,b0,b1,ha,hi,h2⟩:=N;rw[show (10000:Nat)=9999+1 from rfl,nestV,Instr.checkKey];rw[lwp_bind,lwp_underlying hu];simp only[lwp_bind,<- Array.forIn_toList,hl,List.forIn_cons,List.forIn_nil];rw[if_pos n0];simp only[lwp_bind];refine lwp_partF (v:=.int .i64 a) (.inl ⟨b0,a,rfl⟩) (by rw[o0];rfl) (one (d:=9998) (.inl ⟨b0,a,rfl⟩) ?_);simp only[lwp_pure,lwp_bind];rw[if_pos n1];simp only[lwp_bind];refine lwp_partA ha hi ?_;rw[o1,h2];have ex:∀ x y z:Value,(#[x,y,z]:Array Value).extract 1 (1+2)=[y,z].toArray:=fun _ _ _=>rfl;rw[ex];refine lwp_checkKeyA (d:=9997) (b1 n u) ?_;simpa[lwp_pure] using hq
theorem sameNow_iff{kd:TypeDesc}{a b:Value}{c:Bool}(h:Instr.sameNow kd a b=some c):c=true↔a=b:=by
 unfold Instr.sameNow at h;split at h
 ·split at h
  ·rename_i e;cases h;subst e;simp
  ·cases h
 ·cases h;simp[str_beq]
 ·cases h;simp
 ·cases h
theorem findNow_spec{kd:TypeDesc}{k:Value}:∀ (es:List MapEntry) (i:Nat) (r:Option (Nat×Value)),Instr.findNow kd k es i=some r ->
  (∃ j e,es[j]?=some e/\e.key=k/\r=some (i+j,e.val))\/((∀ e∈es,e.key≠k)/\r=none)
 | [],i,r,h=>by cases h;exact .inr ⟨fun e he=>by simp at he,rfl⟩
 | e::es,i,r,h=>by
  unfold Instr.findNow at h;split at h
  ·rename_i hs;cases h;exact .inl ⟨0,e,rfl,((sameNow_iff hs).1 rfl).symm,rfl⟩
  ·rename_i hs;have hne:e.key≠k:=fun hh=>by have:=(sameNow_iff hs).2 hh.symm;cases this
   rcases findNow_spec es (i+1) r h with⟨j,e',h1,h2,h3⟩|⟨h1,h2⟩
   ·exact .inl ⟨j+1,e',by simpa using h1,h2,by rw[h3];congr 2;omega⟩
   ·refine .inr ⟨fun e' he'=>?_,h2⟩;rcases List.mem_cons.1 he' with rfl|he'
    ·exact hne
    ·exact h1 e' he'
  ·cases h
theorem lwp_findAskingK{Q:Option (Nat×Value)->Cells->Prop}{kt:TypeId}{k:Value}(hk:FKey P kt k):∀ (es:List MapEntry) (i:Nat),(∀ e∈es,FKey P kt e.key) ->
  (∀ j e,es[j]?=some e->e.key=k->Q (some (i+j,e.val)) h)->((∀ e∈es,e.key≠k)->Q none h)->Sem.lwp P (Instr.findAsking kt k es i) Q E h
 | [],i,_,_,h2=>h2 fun e he=>by simp at he
 | e::es,i,hes,h1,h2=>by
  unfold Instr.findAsking;rw[lwp_bind];refine lwp_equalK hk (hes e (by simp)) fun c hc=>?_;cases c with
  | true =>
   simp only[if_true,lwp_pure];have:=h1 0 e rfl (hc.1 rfl).symm;simpa using this
  | false =>
   have hne:e.key≠k:=fun hh=>by have:=hc.2 hh.symm;cases this
   simp only[Bool.false_eq_true,if_false];refine lwp_findAskingK hk es (i+1) (fun e' he'=>hes e' (by simp[he'])) (fun j e' he' hk'=>?_) fun hno=>h2 fun e' he'=>?_
   ·have:=h1 (j+1) e' (by simpa using he') hk';rw[show i+1+j=i+(j+1) by omega];exact this
   ·rcases List.mem_cons.1 he' with rfl|he'
    ·exact hne
    ·exact hno e' he'
theorem FKey.und{kt:TypeId}{k:Value}(hk:FKey P kt k):∃ d,P.underlying kt=some d:=by
 rcases hk with hb|⟨vs,rfl,hf⟩|⟨N,_⟩
 ·obtain⟨d,hu,_⟩:=hb.agg;exact⟨d,hu⟩
 ·cases hf<;>exact⟨_,‹P.underlying kt=some _›⟩
 ·obtain⟨f0,f1,fs,inf,hl,hu,_⟩:=N;exact⟨_,hu⟩
theorem lwp_findKeyK{Q:Option (Nat×Value)->Cells->Prop}{kt:TypeId}{k:Value}{es:List MapEntry}(hk:FKey P kt k)(hes:∀ e∈es,FKey P kt e.key)(h1:∀ j e,es[j]?=some e->e.key=k->Q (some (j,e.val)) h)(h2:(∀ e∈es,e.key≠k)->Q none h):Sem.lwp P (Instr.findKey kt k es) Q E h:=by
 unfold Instr.findKey;obtain⟨d,hu⟩:=hk.und;rw[lwp_bind,lwp_underlying hu];cases hr:Instr.findNow d k es 0 with
 | some r =>
  simp only[lwp_pure];rcases findNow_spec es 0 r hr with⟨j,e,g1,g2,g3⟩|⟨g1,g2⟩
  ·rw[g3];have:=h1 j e g1 g2;simpa using this
  ·rw[g2];exact h2 g1
 | none =>
  exact lwp_findAskingK hk es 0 hes (fun j e he hke=>by have:=h1 j e he hke;simpa using this) h2
theorem sameBits_bas{t:TypeId}{v:Value}(b:isBas P t v)(d:Nat):Instr.sameBits d v v=true:=by
 rcases b with⟨_,n,rfl⟩|⟨_,n,rfl⟩|⟨_,n,rfl⟩<;>unfold Instr.sameBits<;>simp[str_beq]
theorem sameBits_all:∀ {l:List Value},(∀ v∈l,Instr.sameBits 9999 v v=true)->((l.zip l).all fun (x,y)=>Instr.sameBits 9999 x y)=true
 | [],_=>rfl
 | v::l,hl=>by
  simp only[List.zip_cons_cons,List.all_cons,Bool.and_eq_true];exact⟨hl v (by simp),sameBits_all fun w hw=>hl w (by simp[hw])⟩
theorem sameBits_flat{kt:TypeId}{k:Value}(hk:FKey P kt k):Instr.sameBits 10000 k k=true:=by
 rcases hk with hb|⟨vs,rfl,hf⟩|⟨_,a,n,u,rfl⟩
 ·exact sameBits_bas hb _
 rotate_left
 ·rw[show (10000:Nat)=9999+1 from rfl];unfold nestV Instr.sameBits;simp[Instr.sameBits]
 ·rw[show (10000:Nat)=9999+1 from rfl];unfold Instr.sameBits;simp only[beq_self_eq_true,Bool.true_and];refine sameBits_all fun v hv=>?_;cases hf with
  | str fs hu hs hl hf =>
   obtain⟨i,hi⟩:=List.mem_iff_getElem?.1 (show v∈vs by simpa using hv);have hil:i<vs.length:=(List.getElem?_eq_some_iff.1 hi).1;exact sameBits_bas (hf i _ v (List.getElem?_eq_getElem (by omega)) hi).2.2 _
  | arr n el inf hu hi h1 hl hf=>exact sameBits_bas (hf v (by simpa using hv)) _
theorem lwp_lookupK{Q:Value->Cells->Prop}{t kt et:TypeId}{s b:Nat}{z:Value}{m:Nat}{es:Array MapEntry}{k:Value}{ok:Bool}(hu:P.underlying t=some (.map kt et))(hi:(P.info? et).map (fun i=>(i.size,i.bytes,i.zero))=some (s,b,some z))(hm:MapAt h m es)(hk:FKey P kt k)(hes:∀ e∈es.toList,FKey P kt e.key)
 (h1:∀ e∈es.toList,e.key=k->Q (if ok then .tuple #[e.val,.bool true] else e.val) h)(h2:(∀ e∈es.toList,e.key≠k)->Q (if ok then .tuple #[z,.bool false] else z) h):Sem.lwp P (Instr.lookup t (.map (some m)) k ok) Q E h:=by
 obtain⟨inf,g1,_,_,g4⟩:=info_of hi;obtain⟨c,hmc⟩:=hm;unfold Instr.lookup;rw[lwp_bind,lwp_underlying hu];simp only[lwp_bind];refine⟨_,_,hmc,trivial,?_⟩;show Sem.lwp P (_ >>= _) Q E h;rw[lwp_bind,lwp_pure,lwp_bind];refine lwp_checkKeyK hk ?_;rw[lwp_bind];refine lwp_findKeyK hk hes (fun j e he hek=>?_) fun hno=>?_
 ·simp only[lwp_pure,lwp_bind];have:=h1 e (List.mem_of_getElem? he) hek;cases ok<;>exact this
 ·simp only[lwp_bind,lwp_zeroValue g1 g4,lwp_pure];have:=h2 hno;cases ok<;>exact this
variable {X:XP} {Q:Leaf->LH->Prop}
theorem str_list(a b:ByteArray):(a.toList==b.toList)=true↔a=b:=by
 rw[beq_iff_eq,ByteArray.toList_eq,ByteArray.toList_eq];obtain⟨x⟩:=a;obtain⟨y⟩:=b;constructor
 ·intro e;have:x=y:=by apply Array.ext';simpa using e
  rw[this]
 ·intro e;cases e;rfl
theorem t_eqStr{h:LH}{K:Value->T}{t:TypeId}{x y:Operand}{a b:ByteArray}(hu:P.underlying t=some .string)(hk:∀ c:Bool,(c=true↔a=b)->(K (.bool c)).wp X P Q h) :
  (T.sem false (Sem.bind (eqGuard .eql t x y (.string a) (.string b)) fun _=>binOp .eql t (.string a) (.string b)) K).wp X P Q h:=by
 refine t_sem (A:=fun w h'=>h'=h.get/\(K w).wp X P Q h) (Sem.lwp_bind _ _ ?_) (by rintro w h' ⟨rfl,hw⟩;exact hw);unfold eqGuard;simp only[Bool.not_true,Bool.false_eq_true,if_false,lwp_pure];unfold binOp;show Sem.lwp P (Op.stringOp .eql a b) _ _ _;unfold Op.stringOp;rw[lwp_pure];exact⟨rfl,hk _ (str_list a b)⟩
theorem t_lenStr{h:LH}{K:Value->T}{t t':TypeId}{s:ByteArray}(hu:P.underlying t=some .string)(hk:(K (.int .i64 (s.size:Int))).wp X P Q h):(T.sem false (Builtin.len_ #[t] t' #[.string s]) K).wp X P Q h:=by
 refine t_sem (A:=fun w h'=>h'=h.get/\(K w).wp X P Q h) ?_ (by rintro w h' ⟨rfl,hw⟩;exact hw);unfold Builtin.len_;change Sem.lwp P (underlying t >>= _) _ _ _;rw[lwp_bind,lwp_underlying hu];exact⟨rfl,hk⟩
/-! ### Flat types, told by a look -/
inductive Bk where
 | i|b|s
def basB(P:Program)(t:TypeId)(k:Bk):Bool:=match P.underlying t,k with
 | some (.int .i64),.i=>true
 | some .bool,.b=>true
 | some .string,.s=>true
 | _,_=>false
def BasV:Bk->Value->Prop
 | .i,v=>∃ n,v=.int .i64 n
 | .b,v=>∃ n,v=.bool n
 | .s,v=>∃ n,v=.string n
theorem basB_is{t:TypeId}{k:Bk}{v:Value}(h:basB P t k=true)(hv:BasV k v):isBas P t v:=by
 unfold basB at h;split at h
 ·rename_i hu;exact .inl ⟨hu,hv⟩
 ·rename_i hu;exact .inr (.inl ⟨hu,hv⟩)
 ·rename_i hu;exact .inr (.inr ⟨hu,hv⟩)
 ·cases h
def flatGo(P:Program):List Field->List Bk->Nat->Bool
 | [],[],_=>true
 | f :: fs, k :: ks, i => f.name != "_" && Nat.beq f.offset i && basB P f.type k && flatGo P fs ks (i + 1)
 | _,_,_=>false
def flatB(P:Program)(t:TypeId)(ks:List Bk):Bool:=match P.underlying t with
 | some (.struct fs)=>flatGo P fs.toList ks 0&&!P.stoodInHeld t
 | _=>false
theorem flatGo_at : ∀ {fs : List Field} {ks : List Bk} {i : Nat}, flatGo P fs ks i = true -> fs.length = ks.length /\ ∀ (j : Nat) f k, fs[j]? = some f -> ks[j]? = some k -> f.name ≠ "_" /\ f.offset = i + j /\ basB P f.type k = true
 | [],[],i,_=>⟨rfl,fun j f k h=>by simp at h⟩
 | f::fs,k::ks,i,h=>by
  unfold flatGo at h;simp only[Bool.and_eq_true,bne_iff_ne]at h;obtain⟨⟨⟨h1,h2⟩,h3⟩,h4⟩:=h;obtain⟨g1,g2⟩:=flatGo_at h4;refine⟨by simp[g1],fun j f' k' hf hk=>?_⟩;cases j with
  | zero=>simp at hf hk;subst hf;subst hk;exact⟨h1,nbeq_true h2,h3⟩
  | succ j =>
   obtain⟨a,b,c⟩:=g2 j f' k' (by simpa using hf) (by simpa using hk);exact⟨a,by omega,c⟩
 | [],k::ks,i,h=>by cases h
 | f::fs,[],i,h=>by cases h
theorem flat_of{t:TypeId}{ks:List Bk}(h:flatB P t ks=true){vs:List Value}(hl:vs.length=ks.length)(hv:∀ (i:Nat) k v,ks[i]?=some k->vs[i]?=some v->BasV k v):FlatAgg P t vs:=by
 unfold flatB at h;split at h
 ·rename_i fs hu;simp only[Bool.and_eq_true,Bool.not_eq_true']at h;obtain⟨h1,h2⟩:=h;obtain⟨g1,g2⟩:=flatGo_at h1;refine .str fs hu h2 (by omega) fun i f v hf hvi=>?_;have hik:i<ks.length:=by have:=(List.getElem?_eq_some_iff.1 hf).1;omega
  have hk:=List.getElem?_eq_getElem hik;obtain⟨a,b,c⟩:=g2 i f _ hf hk;exact⟨a,by omega,basB_is c (hv i _ v hk hvi)⟩
 ·cases h
theorem flat_ints{t:TypeId}{vs:List Int}(h:flatB P t (vs.map fun _=>Bk.i)=true):FlatAgg P t (vs.map fun n=>Value.int .i64 n):=by
 refine flat_of h (by simp) fun i k v hk hv=>?_;rw[List.getElem?_map]at hk hv;cases hx:vs[i]? with
 | none=>rw[hx]at hk;cases hk
 | some n=>rw[hx]at hk hv;cases hk;cases hv;exact⟨n,rfl⟩
def nestB(P:Program)(t:TypeId):Bool:=match P.underlying t with
 | some (.struct fs)=>match fs.toList with
  | [a, b] => a.name != "_" && b.name != "_" && Nat.beq a.offset 0 && Nat.beq b.offset 1 && basB P a.type .i && flatB P b.type [.i, .i] && isAggT P b.type && (match P.info? b.type with | some i => Nat.beq i.size 2 | none => false) && !P.stoodInHeld t
  | _=>false
 | _=>false
theorem nest_of{t:TypeId}(h:nestB P t=true):NestT P t:=by
 unfold nestB at h;split at h
 ·rename_i fs hu;split at h
  ·rename_i a b hl;simp only[Bool.and_eq_true,Bool.not_eq_true',bne_iff_ne,ne_eq]at h;obtain⟨⟨⟨⟨⟨⟨⟨⟨h1,h2⟩,h3⟩,h4⟩,h5⟩,h6⟩,h7⟩,h8⟩,h9⟩:=h;split at h8
   ·rename_i i hi;have b0:P.underlying a.type=some (.int .i64):=by
     rcases basB_is h5 (v:=.int .i64 0) ⟨0,rfl⟩ with⟨hh,_⟩|⟨_,_,hh⟩|⟨_,_,hh⟩
     ·exact hh
     ·cases hh
     ·cases hh
    exact .mk a b fs i hl hu h9 h1 h2 (nbeq_true h3) (nbeq_true h4) b0 (fun n u=>flat_ints (vs:=[n,u]) h6) h7 hi (nbeq_true h8)
   ·cases h8
  ·cases h
 ·cases h
end
section
variable {P:Program} {E:Halt->Cells->Prop} {κ:Type} [DecidableEq κ] {enc:κ->Value}
def updO(f:κ->Option Value)(k:κ)(v:Value):κ->Option Value:=fun x=>if x=k then some v else f x
structure MapO(enc:κ->Value)(es:Array MapEntry)(f:κ->Option Value):Prop where
 key:∀ e∈es.toList,∃ k,e.key=enc k/\f k=some e.val
 has:∀ k v,f k=some v->∃ e∈es.toList,e.key=enc k
 once:(es.toList.map (·.key)).Nodup
omit [DecidableEq κ] in
theorem MapO.nil:MapO enc #[] (fun _=>none):=⟨fun e he=>by simp at he,fun k v h=>by simp at h,by simp⟩
omit [DecidableEq κ] in
theorem MapO.none{es:Array MapEntry}{f:κ->Option Value}{k:κ}(M:MapO enc es f)(hno:∀ e∈es.toList,e.key≠enc k):f k=none:=by
 cases h:f k with
 | none=>rfl
 | some v =>
  obtain⟨e,he,hk⟩:=M.has k v h;exact absurd hk (hno e he)
theorem nodup_ix{α:Type}{l:List α}(h:l.Nodup){i j:Nat}{x:α}(hi:l[i]?=some x)(hj:l[j]?=some x):i=j:=by
 obtain⟨h1,h2⟩:=List.getElem?_eq_some_iff.1 hi;obtain⟨h3,h4⟩:=List.getElem?_eq_some_iff.1 hj;have hp:=List.pairwise_iff_getElem.1 h;rcases Nat.lt_trichotomy i j with e|e|e
 ·exact absurd (h2.trans h4.symm) (hp i j h1 h3 e)
 ·exact e
 ·exact absurd (h4.trans h2.symm) (hp j i h3 h1 e)
theorem modify_at{es:Array MapEntry}{f:MapEntry->MapEntry}(j:Nat):∀ i:Nat,(es.modify j f).toList[i]?=if i=j then (es.toList[i]?).map f else es.toList[i]?:=by
 intro i;rw[Array.getElem?_toList,Array.getElem?_modify,Array.getElem?_toList];by_cases hij:j=i
 ·subst hij;simp
 ·rw[if_neg hij,if_neg (Ne.symm hij)]
theorem MapO.modify(inj:∀ a b,enc a=enc b->a=b){es:Array MapEntry}{f:κ->Option Value}(M:MapO enc es f){j:Nat}{e0:MapEntry}{k:κ}{v:Value}(he:es.toList[j]?=some e0)(hk:e0.key=enc k) :
  MapO enc (es.modify j fun e=>{ e with key:=enc k,val:=v }) (updO f k v):=by
 have keys:(es.modify j fun e=>{ e with key:=enc k,val:=v }).toList.map (·.key)=es.toList.map (·.key):=by
  refine List.ext_getElem? fun i=>?_;simp only[List.getElem?_map];rw[modify_at];by_cases e:i=j
  ·subst e;rw[if_pos rfl,he];simp[hk]
  ·rw[if_neg e]
 refine⟨fun e2 he2=>?_,fun k' v' h'=>?_,by rw[keys];exact M.once⟩
 ·obtain⟨i,hi⟩:=List.mem_iff_getElem?.1 he2;rw[modify_at]at hi;by_cases e:i=j
  ·subst e;rw[if_pos rfl,he]at hi;cases hi;exact⟨k,rfl,by simp[updO]⟩
  ·rw[if_neg e]at hi;obtain⟨k',h1,h2⟩:=M.key e2 (List.mem_of_getElem? hi);refine⟨k',h1,?_⟩;have hne:k'≠k:=by
    rintro rfl;exact e (nodup_ix M.once (i:=i) (j:=j) (x:=enc k') (by rw[List.getElem?_map,hi];simp[h1]) (by rw[List.getElem?_map,he];simp[hk]))
   simp[updO,hne,h2]
 ·have hmem:∀ e2∈es.toList,∃ e3∈(es.modify j fun e=>{ e with key:=enc k,val:=v }).toList,e3.key=e2.key:=fun e2 he2=>by
   have:e2.key∈es.toList.map (·.key):=List.mem_map.2 ⟨e2,he2,rfl⟩;rw[<- keys]at this;obtain⟨e3,h3,h4⟩:=List.mem_map.1 this;exact⟨e3,h3,h4⟩
  unfold updO at h';split at h'
  ·rename_i e;subst e;obtain⟨e3,h3,h4⟩:=hmem e0 (List.mem_of_getElem? he);exact⟨e3,h3,h4.trans hk⟩
  ·obtain⟨e2,h1,h2⟩:=M.has k' v' h';obtain⟨e3,h3,h4⟩:=hmem e2 h1;exact⟨e3,h3,h4.trans h2⟩
theorem MapO.push(inj:∀ a b,enc a=enc b->a=b){es:Array MapEntry}{c:Nat}{f:κ->Option Value}(M:MapO enc es f){k:κ}{v:Value}(hno:∀ e∈es.toList,e.key≠enc k) :
  MapO enc (es.push { key:=enc k,val:=v,born:=c }) (updO f k v):=by
 refine⟨fun e2 he2=>?_,fun k' v' h'=>?_,?_⟩
 ·rw[Array.toList_push,List.mem_append,List.mem_singleton]at he2;rcases he2 with he2|rfl
  ·obtain⟨k',h1,h2⟩:=M.key e2 he2;have hne:k'≠k:=by rintro rfl;exact hno e2 he2 h1
   exact⟨k',h1,by simp[updO,hne,h2]⟩
  ·exact⟨k,rfl,by simp[updO]⟩
 ·unfold updO at h';split at h'
  ·rename_i e;subst e;exact⟨_,by rw[Array.toList_push,List.mem_append,List.mem_singleton];exact .inr rfl,rfl⟩
  ·obtain⟨e2,h1,h2⟩:=M.has k' v' h';exact⟨e2,by rw[Array.toList_push];exact List.mem_append_left _ h1,h2⟩
 ·rw[Array.toList_push,List.map_append,List.nodup_append];refine⟨M.once,by simp,fun a ha b hb=>?_⟩;obtain⟨e,he,rfl⟩:=List.mem_map.1 ha;simp at hb;subst hb;exact hno e he
omit [DecidableEq κ] in
theorem MapO.keys{kt:TypeId}{es:Array MapEntry}{f:κ->Option Value}(M:MapO enc es f)(hf:∀ x,FKey P kt (enc x)):∀ e∈es.toList,FKey P kt e.key:=fun e he=>by
 obtain⟨x,h1,_⟩:=M.key e he;rw[h1];exact hf x
variable {X:XP} {Q:Leaf->LH->Prop}
omit [DecidableEq κ] in
theorem t_getO{h:LH}{K:Value->T}{t kt et:TypeId}{s b c m:Nat}{z:Value}{es:Array MapEntry}{f:κ->Option Value}{kv:Value}{ok:Bool}(k:κ)(hkv:kv=enc k)(inj:∀ a b,enc a=enc b->a=b)(hu:P.underlying t=some (.map kt et))(hi:(P.info? et).map (fun i=>(i.size,i.bytes,i.zero))=some (s,b,some z))
 (hm:h.get m=some (true,.map es c))(M:MapO enc es f)(hf:∀ x,FKey P kt (enc x))(h1:∀ v,f k=some v->(K (if ok then .tuple #[v,.bool true] else v)).wp X P Q h)(h2:f k=none->(K (if ok then .tuple #[z,.bool false] else z)).wp X P Q h) :
  (T.sem false (Instr.lookup t (.map (some m)) kv ok) K).wp X P Q h:=by
 subst hkv;refine t_sem (A:=fun v h'=>h'=h.get/\(K v).wp X P Q h) (lwp_lookupK hu hi ⟨c,hm⟩ (hf k) (M.keys hf) (fun e he hek=>?_) fun hno=>⟨rfl,h2 (M.none hno)⟩) (by rintro v h' ⟨rfl,hw⟩;exact hw);obtain⟨k',h3,h4⟩:=M.key e he;have:k'=k:=inj _ _ (h3.symm.trans hek);subst this;exact⟨rfl,h1 _ h4⟩
theorem lwp_putO{h:Cells}{Q:Unit->Cells->Prop}{t kt et:TypeId}{c m:Nat}{es:Array MapEntry}{f:κ->Option Value}{k:κ}{v:Value}(inj:∀ a b,enc a=enc b->a=b)(hu:P.underlying t=some (.map kt et))(hm:h m=some (true,.map es c))(M:MapO enc es f)(hf:∀ x,FKey P kt (enc x))
 (hq:∀ es' c',MapO enc es' (updO f k v)->Q () (h.upd m (true,.map es' c'))):Sem.lwp P (Instr.mapUpdate t (.map (some m)) (enc k) v) Q E h:=by
 unfold Instr.mapUpdate;rw[lwp_bind,lwp_underlying hu];simp only[lwp_bind];refine⟨_,_,hm,trivial,?_⟩;show Sem.lwp P (_ >>= _) _ E h;rw[lwp_bind];refine lwp_checkKeyK (hf k) ?_;rw[lwp_bind];refine lwp_findKeyK (hf k) (M.keys hf) (fun j e he hek=>?_) fun hno=>?_
 ·have he':es[j]?=some e:=by rw[<- Array.getElem?_toList];exact he
  simp only[lwp_bind,Instr.keyThatStays,he',Option.map_some,Option.getD_some,hek,sameBits_flat (hf k),if_true,lwp_pure];exact⟨⟨_,hm,trivial⟩,hq _ _ (M.modify inj he hek)⟩
 ·exact⟨⟨_,hm,trivial⟩,hq _ _ (M.push inj hno)⟩
theorem t_putO{h:LH}{K:Value->T}{t kt et:TypeId}{c m:Nat}{es:Array MapEntry}{f:κ->Option Value}{kv v:Value}(k:κ)(hkv:kv=enc k)(inj:∀ a b,enc a=enc b->a=b)(hu:P.underlying t=some (.map kt et))(hm:h.get m=some (true,.map es c))(M:MapO enc es f)(hf:∀ x,FKey P kt (enc x))
 (hq:∀ es' c',MapO enc es' (updO f k v)->(K (.tuple #[])).wp X P Q { h with get:=h.get.upd m (true,.map es' c') }):(T.sem false (Sem.bind (Instr.mapUpdate t (.map (some m)) kv v) fun _=>pure (.tuple #[])) K).wp X P Q h:=by
 subst hkv;exact t_sem (A:=fun w h'=>w=.tuple #[]/\(K (.tuple #[])).wp X P Q { h with get:=h' }) (Sem.lwp_bind _ _ (lwp_putO inj hu hm M hf fun es' c' M'=>by rw[lwp_pure];exact⟨rfl,hq es' c' M'⟩)) (by rintro w h' ⟨rfl,hw⟩;exact hw)
end
end Go.TM
section
namespace Go.Y
attribute [local irreducible] T.wp CV FWK
def indexF(x:Int):Nat->List Int->Int
 | _,[]=>-1
 | i,y::l=>if x==y then i else indexF x (i+1) l
theorem indexF_ge(x:Int):∀ (l:List Int) (i:Nat),decide (indexF x i l>=0)=l.contains x:=by
 intro l
 induction l with
 | nil=>intro i;rfl
 | cons y l ih =>
  intro i;rw[indexF,List.contains_cons];split
  ·rename_i h;rw[h];simp
  ·rename_i h;have h':(x==y)=false:=by simpa using h
   rw[ih,h',Bool.false_or]
theorem c106{h:LH}{p:Option Addr}{n c:Nat}{l:List Int}(hl:Sl IntE 1 h.get p n l)(x:Int):Pu Tryz.prog 109 #[.slice p n c,x] h (.int .i64 (indexF x 0 l)):=by
 refine w106 _ _ _ _ X0_ok ?_;unfold n106;have hn:=hl.1;have hb:=hl.2.1;refine t_loop (fun m vs h'=>h'=h/\∃ i:Nat,vs=[.int .i64 0,.int .i64 i]/\i<=n/\m=n-i/\indexF x 0 l=indexF x i (l.drop i)) ⟨rfl,0,rfl,Nat.zero_le _,rfl,rfl⟩ ?_;rintro Y m vs _ hY ⟨rfl,i,rfl,hi,rfl,hc⟩;refine yJ (fun e1=>?_) (fun e1=>?_)
 ·obtain⟨y,a,hx,ha,e2⟩:=hl.at (i:=i) (by omega);unfold IntE at e2;refine gZ ?_;rw[drop_of hx,indexF]at hc;refine t_cond (fun e3=>?_) (fun e3=>?_)
  ·refine gZ ?_;refine t_ret ⟨?_,rfl⟩;rw[hc,if_pos e3]
  ·refine t_again (hY (n-(i+1)) _ _ (by omega) ⟨rfl,i+1,?_,by omega,rfl,?_⟩)
   ·rw[wrap_id (by omega) (by omega)];rfl
   ·rw[hc,if_neg (by simp[e3])]
 ·refine gZ ?_;refine t_ret ⟨?_,rfl⟩;rw[hc,List.drop_eq_nil_of_le (by omega)];rfl
theorem c100{h:LH}{p:Option Addr}{n c:Nat}{l:List Int}(hl:Sl IntE 1 h.get p n l)(x:Int):Pu Tryz.prog 63 #[.slice p n c,x] h (.bool (l.contains x)):=by
 refine w100 _ _ _ _ X0_ok ?_;unfold n100;refine t_pu (c106 hl x) ?_;refine gZ ?_;refine t_ret ⟨?_,rfl⟩;rw[indexF_ge]
theorem c80{h:LH}{z:Addr}{d:Int}(hz:h.get.cell? z=some (.int .i64 d))(a b:Int):Pu Tryz.prog 75 #[.agg #[a,b],.pointer (some z)] h (.bool (isIn d a b)):=by
 refine w80 _ _ _ X0_ok ?_;unfold n80;refine gZ ?_;refine t_pu (c81 _ _ _) ?_;refine gZ ?_;exact t_ret ⟨rfl,rfl⟩
def placeF{α:Type}(f:α->Bool):Nat->List α->Int
 | _,[]=>-1
 | i,y::l=>if f y then i else placeF f (i+1) l
theorem placeF_ge{α:Type}(f:α->Bool):∀ (l:List α) (i:Nat),decide (placeF f i l>=0)=l.any f:=by
 intro l
 induction l with
 | nil=>intro i;rfl
 | cons y l ih =>
  intro i;rw[placeF,List.any_cons];split
  ·rename_i h;rw[h];simp
  ·rename_i h;have h':f y=false:=by simpa using h
   rw[ih,h',Bool.false_or]
theorem c98{h:LH}{p:Option Addr}{n c:Nat}{l:List Span}{fv:Value}{g:Span->Bool}(hl:Sl SpanE 2 h.get p n l)(hf:∀ x h',h.le h'->CV X0 Tryz.prog fv #[.agg #[.int .i64 x.first,.int .i64 x.last]] h' fun r h''=>h'.le h''/\r=.bool (g x)) :
  Gr Tryz.prog 110 #[.slice p n c,fv] h fun r _=>r=.int .i64 (placeF g 0 l):=by
 refine w98 _ _ _ _ X0_ok ?_;unfold n98;have hn:=hl.1;have hb:=hl.2.1;refine t_loop (fun m vs h'=>h.le h'/\∃ i:Nat,vs=[.int .i64 0,.int .i64 i]/\i<=n/\m=n-i/\placeF g 0 l=placeF g i (l.drop i)) ⟨LH.le_refl _,0,rfl,Nat.zero_le _,rfl,rfl⟩ ?_;rintro Y m vs h₁ hY ⟨hle,i,rfl,hi,rfl,hc⟩;refine yJ (fun e1=>?_) (fun e1=>?_)
 ·obtain⟨x,a,hx,ha,e2,e4⟩:=(hl.le SpanE.grow hle.1).at (i:=i) (by omega);refine gZ ?_;refine t_callv (hf x h₁ hle) ?_;rintro _ h₂ ⟨hle2,rfl⟩;refine gZ ?_;rw[drop_of hx,placeF]at hc;refine t_cond (fun e3=>?_) (fun e3=>?_)
  ·refine gZ ?_;refine t_ret ⟨LH.le_trans hle hle2,?_⟩;rw[hc,if_pos e3]
  ·refine t_again (hY (n-(i+1)) _ _ (by omega) ⟨LH.le_trans hle hle2,i+1,?_,by omega,rfl,?_⟩)
   ·rw[wrap_id (by omega) (by omega)];rfl
   ·rw[hc,if_neg (by simp[e3])]
 ·refine gZ ?_;refine t_ret ⟨hle,?_⟩;rw[hc,List.drop_eq_nil_of_le (by omega)];rfl
theorem c79{h:LH}{p:Option Addr}{n c:Nat}{l:List Span}{fv:Value}{g:Span->Bool}(hl:Sl SpanE 2 h.get p n l)(hf:∀ x h',h.le h'->CV X0 Tryz.prog fv #[.agg #[.int .i64 x.first,.int .i64 x.last]] h' fun r h''=>h'.le h''/\r=.bool (g x)) :
  Gr Tryz.prog 65 #[.slice p n c,fv] h fun r _=>r=.bool (l.any g):=by
 refine w79 _ _ _ _ X0_ok ?_;unfold n79;refine t_gr (c98 hl hf) ?_;rintro _ h' hle rfl;refine gZ ?_;refine t_ret ⟨hle,?_⟩;rw[placeF_ge]
def Asks(v:Value)(h:LH)(u:UseFile)(g:Int):Prop:=numbersF u=0->∀ (f:FileC) h',h.le h'->FileR h'.get f u->CV X0 Tryz.prog v #[fileV f u] h' fun r h''=>h'.le h''/\r=.int .i64 g
theorem Asks.le{v:Value}{h h':LH}{u:UseFile}{g:Int}(hl:h.le h')(a:Asks v h u g):Asks v h' u g:=fun hn f h2 hl2=>a hn f h2 (LH.le_trans hl hl2)
theorem c82{h:LH}{f:FileC}{u:UseFile}{z:Addr}{d:Int}(hz:h.get.cell? z=some (.int .i64 d)):Pu Tryz.prog 77 #[fileV f u,.pointer (some z)] h (.int .i64 (if isDay d then 0 else 1)):=by
 refine w82 _ _ _ _ _ _ _ _ _ _ _ _ _ _ X0_ok ?_;unfold n82;refine gZ ?_;refine t_pu (c84 _) ?_;refine gZ ?_;refine t_pu (c83 _ _) ?_;refine gZ ?_;refine t_ret ⟨?_,rfl⟩;unfold isDay;cases isIn d 0 2000<;>rfl
theorem c85{h:LH}{f:FileC}{u:UseFile}(hl:IsI (u.lands-1)){z:Addr}{d:Int}(hz:h.get.cell? z=some (.int .i64 d)):Pu Tryz.prog 80 #[fileV f u,.pointer (some z)] h (.int .i64 (if isIn d 0 (u.lands-1) then 0 else 6)):=by
 refine w85 _ _ _ _ _ _ _ _ _ _ _ _ _ _ X0_ok ?_;unfold n85;refine gZ ?_;refine t_pu (c86 (f:=f) hl _) ?_;refine gZ ?_;refine t_pu (c83 _ _) ?_;refine gZ ?_;refine t_ret ⟨?_,rfl⟩;cases isIn d 0 (u.lands-1)<;>rfl
theorem c87{h:LH}{f:FileC}{u:UseFile}(hl:IsI (u.items-1)){z:Addr}{d:Int}(hz:h.get.cell? z=some (.int .i64 d)):Pu Tryz.prog 82 #[fileV f u,.pointer (some z)] h (.int .i64 (if isIn d 0 (u.items-1) then 0 else 6)):=by
 refine w87 _ _ _ _ _ _ _ _ _ _ _ _ _ _ X0_ok ?_;unfold n87;refine gZ ?_;rw[wrap_id hl.1 hl.2];refine t_pu (c81 _ _ _) ?_;refine gZ ?_;refine t_pu (c83 _ _) ?_;refine gZ ?_;refine t_ret ⟨?_,rfl⟩;cases isIn d 0 (u.items-1)<;>rfl
def dayQ(d:Int):Int:=if isDay d then 0 else 1
def landQ(u:UseFile)(d:Int):Int:=if isIn d 0 (u.lands-1) then 0 else 6
def itemQ(u:UseFile)(d:Int):Int:=if isIn d 0 (u.items-1) then 0 else 6
theorem c54{h:LH}(u:UseFile)(d:Int):Gr Tryz.prog 45 #[d] h fun r h'=>(∃ fn a b,r=Value.func fn a b)/\Asks r h' u (dayQ d):=by
 refine w54 _ X0_ok ?_;unfold n54;refine t_new fun r hr=>?_;have hz:Cells.cell? (h.get.upd r (true,.cells #[.int .i64 d] 3 (0,0))) ⟨r,0,none⟩=some (.int .i64 d):=cell_upd rfl;refine t_ret ⟨LH.upd_le hr,⟨_,_,_,rfl⟩,fun hn f h' hle _=>?_⟩;exact cv_fw X0_ok (by rfl) (pu_gr (c82 (Cells.cell?_le hle.1 hz)))
theorem c58{h:LH}(u:UseFile)(d:Int):Gr Tryz.prog 47 #[d] h fun r h'=>(∃ fn a b,r=Value.func fn a b)/\Asks r h' u (landQ u d):=by
 refine w58 _ X0_ok ?_;unfold n58;refine t_new fun r hr=>?_;have hz:Cells.cell? (h.get.upd r (true,.cells #[.int .i64 d] 3 (0,0))) ⟨r,0,none⟩=some (.int .i64 d):=cell_upd rfl;refine t_ret ⟨LH.upd_le hr,⟨_,_,_,rfl⟩,fun hn f h' hle _=>?_⟩;exact cv_fw X0_ok (by rfl) (pu_gr (c85 (num_lands hn) (Cells.cell?_le hle.1 hz)))
theorem c59{h:LH}(u:UseFile)(d:Int):Gr Tryz.prog 48 #[d] h fun r h'=>(∃ fn a b,r=Value.func fn a b)/\Asks r h' u (itemQ u d):=by
 refine w59 _ X0_ok ?_;unfold n59;refine t_new fun r hr=>?_;have hz:Cells.cell? (h.get.upd r (true,.cells #[.int .i64 d] 3 (0,0))) ⟨r,0,none⟩=some (.int .i64 d):=cell_upd rfl;refine t_ret ⟨LH.upd_le hr,⟨_,_,_,rfl⟩,fun hn f h' hle _=>?_⟩;exact cv_fw X0_ok (by rfl) (pu_gr (c87 (num_items hn) (Cells.cell?_le hle.1 hz)))
end Go.Y
end
namespace Go.TM
section
variable {P:Program}
theorem spawn_wk{f:FuncId}{first args cap hargs:Array Value}{hc:Cells}{s:Script}(hne:s≠[])(ha:(first++args)++cap=hargs)(c:FWK XW P .deferred f hargs ⟨hc,[],[],s⟩ fun _ _=>False) :
  Wk P (G (baseOf P [deferOf (.func (.func f) first cap) args]) []) ⟨hc,[],[],s⟩:=by
 obtain⟨⟨fn,hf,hb,hname⟩,hrun⟩:=c;have hgo:=hrun false _ (wk_closed P) [baseOf P []] (.inr ⟨rfl,rfl⟩) (fun _ _ _ _ _ _ _ hq=>hq.elim) rfl hne;have hbn:fn.body.isNone=false:=by cases h:fn.body<;>simp_all
 refine .step (N:=fun g h=>g=G (Frame.enter P f hargs .deferred) [baseOf P []]/\h=⟨hc,[],[],s⟩) hne ?_ ?_
 ·intro w hfit;refine⟨_,w,#[],hc,?_,Tr.refl hfit,by simp,rfl,rfl⟩;have hcall:(callFunc f hargs).runT P w #[]=(.ok (.enter f hargs) w,#[]):=by
   show ((program).bind _).runT P w #[]=_;simp only[program,Sem.bind,Sem.runT,hf,hname,hbn,Bool.false_eq_true,if_false];rfl
  have h1:(callFunc f hargs).run P w=.ok (.enter f hargs) w:=by rw[<- Sem.runT_fst _ _ _ #[],hcall]
  have h2:(callFunc f hargs).events P w #[]=#[]:=by show ((callFunc f hargs).runT P w #[]).2=_;rw[hcall]
  have hinv:invoke (deferOf (.func (.func f) first cap) args).target (deferOf (.func (.func f) first cap) args).args=callFunc f hargs:=by rw[<- ha];rfl
  have hnil:((deferOf (.func (.func f) first cap) args).target matches .nil)=false:=rfl;have hcd:∀ fr cs,callDeferred P fr cs none (deferOf (.func (.func f) first cap) args) w=.go (G (Frame.enter P f hargs .deferred) (fr::cs)) w (seen P fr.fn #[]):=by
   intro fr cs;unfold callDeferred;simp only[hinv,hnil,Bool.false_and,Bool.false_eq_true,if_false,hcall];rfl
  show unwind P false (baseOf P [deferOf (.func (.func f) first cap) args]) [] none w=_;unfold unwind;simp only[baseOf,deferOf];exact hcd _ _
 ·rintro _ _ ⟨rfl,rfl⟩;exact hgo
theorem spawnW{f:FuncId}{first args cap hargs:Array Value}{h:LH}{Q:LH->Prop}(F:Nat->Bool)(hc:Cells)(s:Script)(hne:s≠[])(ha:(first++args)++cap=hargs)(hhc:∀ r x,hc r=some x->x.1=false/\freezeC F h.get r=some x)
 (hgu:[]∉h.pend)(hch:∀ y∈s,y.1∈h.chans)(c:FWK XW P .deferred f hargs ⟨hc,[],[],s⟩ fun _ _=>False)(hQ:Q { h with get:=freezeC F h.get,pend:=h.pend++[s] }):SpawnW XT P (.func (.func f) first cap) args h Q:=by
 intro main R hR fr cs _ _ hst k d hk;obtain⟨rfl,_,h2,_,_⟩:=hR.2;refine h2 fr cs (h.add k) (fun r=>F r&&(h.get r).isSome) hc _ s ⟨hst⟩ ?_ hne hgu hch (spawn_wk hne ha c) ?_
 ·intro r x hx;obtain⟨a,b⟩:=hhc r x hx;refine⟨a,?_⟩;show freezeC _ (h.get.add k) r=_;rw[freezeC_add];exact Cells.add_left b
 ·have e:freezeC (fun r=>F r&&(h.get r).isSome) (h.add k).get=(freezeC F h.get).add k:=freezeC_add F h.get k;rw[e];refine hk { h with get:=freezeC F h.get,pend:=h.pend++[s] } ?_ hQ;intro r;rcases d r with hr|hr
  ·left;simp only[freezeC,hr]
  ·exact .inr hr
theorem drop_add{a k:Cells}{c:Nat}(hk:k c=none):dropC (a.add k) c=(dropC a c).add k:=by
 funext r;unfold dropC Cells.add;by_cases e:r=c
 ·subst e;simp[hk]
 ·simp[e]
theorem upd_add{a k:Cells}{c:Nat}{x:Bool×Obj}:(a.add k).upd c x=(a.upd c x).add k:=by
 funext r;unfold Cells.upd Cells.add;by_cases e:r=c<;>simp[e]
theorem Disj.drop{a k:Cells}(d:Disj a k)(c:Nat):Disj (dropC a c) k:=by
 intro r;rcases d r with hr|hr
 ·left;unfold dropC;split
  ·rfl
  ·exact hr
 ·exact .inr hr
theorem SpawnW.opened{v:Value}{args:Array Value}{h:LH}{Q:LH->Prop}(hgu:[]∉h.pend)(c s:Nat)(hs:h.get c=some (true,.chan 0 #[] false s s false))(hS:SpawnW XT P v args { h with get:=dropC h.get c,chans:=c::h.chans } Q):SpawnW XT P v args h Q:=by
 intro main R hR fr cs hat hstk hst k d hk;have hkc:k c=none:=by
  rcases d c with h'|h'
  ·rw[hs]at h';cases h'
  ·exact h'
 refine hR.2.2.2.2.1 _ (h.add k) c s hgu (Cells.add_left hs) ?_;have:=hS main R hR fr cs hat hstk hst k (d.drop c) hk;unfold LH.add at this ⊢;simp only[drop_add hkc];exact this
theorem commW_recv{last:Bool}{cases:Array CommCase}{shape:CommShape}{h:LH}{Q:Value->LH->Prop}(recv:∀ (k:Nat) (cc:CommCase),cases[k]?=some cc->∃ c z,cc=rcase c z/\c∈h.chans)(some_:h.pend≠[])
 (heads:∀ s∈h.pend,∃ (c:Nat) (φ:Value->Cells->Prop) (s':Script) (k:Nat) (z:Value),s=(c,φ)::s'/\cases[k]?=some (rcase c z))
 (hQ:∀ pre φ s post (k:Nat) c v hv z,h.pend=pre++((c,φ)::s)::post->cases[k]?=some (rcase c z)->Disj h.get hv->(∀ r x,hv r=some x->x.1=true)->φ v hv ->
   Q (commResult cases shape (k:Nat) v true) { h with get:=h.get.add hv,pend:=pre++cons' s post }):CommW XT P last cases shape h Q:=by
 intro main R hR fr cs _ _ _ hst k d hk;obtain⟨rfl,h1,_,_,_⟩:=hR.2;refine h1 fr cs cases shape (h.add k) ⟨hst,recv,some_,heads⟩ ?_;intro pre φ s post j c v hv z hp hcase hd hown hφ;have d1:Disj h.get hv:=hd.of_add_left;have d2:Disj k hv:=Disj.of_add_right d hd;have e:((h.get.add hv).add k)=((h.get.add k).add hv):=Cells.add_swap d2.symm;have:=hk _ { h with get:=h.get.add hv,pend:=pre++cons' s post } (Disj.add d d2.symm) (hQ pre φ s post j c v hv z hp hcase d1 hown hφ);unfold LH.add at this;simp only[e]at this;exact this
theorem CommW.closed{last:Bool}{cases:Array CommCase}{shape:CommShape}{h:LH}{Q:Value->LH->Prop}
 (hC:CommW XT P last cases shape h fun v h'=>Q v h'\/∃ c∈h'.chans,h'.pend=[]/\∀ s,h'.get c=none->Q v { h' with get:=h'.get.upd c (true,.chan 0 #[] false s s false),chans:=h'.chans.filter (·≠c) }):CommW XT P last cases shape h Q:=by
 intro main R hR fr cs hat hstk hl hst k d hk;refine hC main R hR fr cs hat hstk hl hst k d ?_;rintro v h' d' (hq|⟨c,hc,hp,hq⟩)
 ·exact hk v h' d' hq
 ·refine hR.2.2.2.2.2 _ (h'.add k) c hc hp ?_;intro hcn s;have hhc:h'.get c=none:=by
   cases hx:h'.get c with
   | none=>rfl
   | some x=>rw[show (h'.add k).get c=some x from Cells.add_left hx]at hcn;cases hcn
  have hkc:k c=none:=by
   have:=hcn;rw[show (h'.add k).get c=k c from Cells.add_right hhc]at this;exact this
  have d2:Disj (h'.get.upd c (true,.chan 0 #[] false s s false)) k:=by
   intro r;by_cases e:r=c
   ·right;rw[e];exact hkc
   ·rw[Cells.upd_ne _ _ e];exact d' r
  have:=hk v _ d2 (hq s hhc);unfold LH.add at this ⊢;simp only[upd_add];exact this
theorem commW_send{last:Bool}{c:Nat}{v z:Value}{φ:Value->Cells->Prop}{s:Script}{h:LH}{hv hr:Cells}{Q:Value->LH->Prop}(todo:h.todo=(c,φ)::s)(get:h.get=hv.add hr)(disj:Disj hv hr)(own:∀ r x,hv r=some x->x.1=true)
 (val:φ v hv)(hl:s=[]->last=true)(hQ:s≠[]->Q undef { h with get:=hr,todo:=s }):CommW XW P last #[scase c v z] .send h Q:=by
 intro main R hR fr cs hat hstk hlast hst k d hk;obtain⟨rfl,h1⟩:=hR.2;have hs:Sends P fr cs h c z v φ s hv hr:=⟨hat,hst,todo,get,disj,own,val⟩
 exact h1 fr cs (h.add k) c z v φ s hv (hr.add k) hstk (hs.frame d) (fun e=>hlast (hl e)) fun hne=>hk undef { h with get:=hr,todo:=s } (hs.rest d) (hQ hne)
end
section
variable {P:Program} {X:XP} {Q:Leaf->LH->Prop} {h:LH}
theorem t_spawn{v:Value}{args:Array Value}{k:T}(hs:SpawnW X P v args h fun h'=>k.wp X P Q h'):(T.spawn v args k).wp X P Q h:=hs
theorem t_comm{last:Bool}{cases:Array CommCase}{shape:CommShape}{k:Value->T}(hc:CommW X P last cases shape h fun v h'=>(k v).wp X P Q h'):(T.comm last cases shape k).wp X P Q h:=hc
theorem t_makeChan{t el:TypeId}{d:ChanDir}{s b:Nat}{z:Option Value}{K:Value->T}(hu:P.underlying t=some (.chan d el))(hi:(P.info? el).map (fun i=>(i.size,i.bytes,i.zero))=some (s,b,z))
 (hk:∀ r,h.get r=none->(K (.chan (some r))).wp X P Q { h with get:=h.get.upd r (true,.chan 0 #[] false 0 0 false) }):(T.sem false (Instr.makeChan t (.int .i64 0)) K).wp X P Q h:=by
 obtain⟨inf,g1,_,_,_⟩:=info_of hi;refine t_sem (A:=fun v h'=>∃ r,h.get r=none/\v=.chan (some r)/\h'=h.get.upd r (true,.chan 0 #[] false 0 0 false)) ?_ (by rintro v h' ⟨r,hr,rfl,rfl⟩;exact hk r hr);unfold Instr.makeChan;have e:IntKind.i64.max=9223372036854775807:=rfl;simp only[asInt,asIntOf,lwp_bind,lwp_pure,lwp_underlying hu,lwp_typeInfo g1];rw[if_neg (by rw[e];omega)];rw[lwp_bind];intro r hr;exact⟨r,hr,rfl,rfl⟩
theorem t_close{ts:Array TypeId}{ty:TypeId}{c s:Nat}{K:Value->T}(hc:h.get c=some (true,.chan 0 #[] false s s false))(hk:(K (.tuple #[])).wp X P Q { h with get:=h.get.upd c (true,.chan 0 #[] true s s false) }):(T.sem false (Builtin.close_ ts ty #[.chan (some c)]) K).wp X P Q h:=by
 refine t_sem (A:=fun v h'=>v=.tuple #[]/\h'=h.get.upd c (true,.chan 0 #[] true s s false)) ?_ (by rintro v h' ⟨rfl,rfl⟩;exact hk);change Sem.lwp P (getObj c >>= _) _ _ _;rw[lwp_bind];exact⟨_,_,hc,trivial,⟨_,hc,trivial⟩,rfl,rfl⟩
theorem t_eqNil{t el:TypeId}{x y:Operand}{a:Option Addr}{n c:Nat}{K:Value->T}(hu:P.underlying t=some (.slice el))(hk:(K (.bool a.isNone)).wp X P Q h) :
  (T.sem false (Sem.bind (eqGuard .eql t x y (.slice a n c) (.slice none 0 0)) fun _=>binOp .eql t (.slice a n c) (.slice none 0 0)) K).wp X P Q h:=by
 refine t_sem (A:=fun w h'=>w=.bool a.isNone/\h'=h.get) (Sem.lwp_bind _ _ ?_) (by rintro w h' ⟨rfl,rfl⟩;exact hk);unfold eqGuard;simp only[Bool.not_true,Bool.false_eq_true,if_false,lwp_pure];unfold binOp Op.equal;have hmd:Op.maxDepth=9999+1:=rfl;rw[lwp_bind,hmd,Op.equalIn,lwp_bind,lwp_underlying hu];cases a<;>exact⟨rfl,rfl⟩
theorem t_neNil{t el:TypeId}{x y:Operand}{a:Option Addr}{n c:Nat}{K:Value->T}(hu:P.underlying t=some (.slice el))(hk:(K (.bool a.isSome)).wp X P Q h) :
  (T.sem false (Sem.bind (eqGuard .neq t x y (.slice a n c) (.slice none 0 0)) fun _=>binOp .neq t (.slice a n c) (.slice none 0 0)) K).wp X P Q h:=by
 refine t_sem (A:=fun w h'=>w=.bool a.isSome/\h'=h.get) (Sem.lwp_bind _ _ ?_) (by rintro w h' ⟨rfl,rfl⟩;exact hk);unfold eqGuard;simp only[Bool.not_true,Bool.false_eq_true,if_false,lwp_pure];unfold binOp Op.equal;have hmd:Op.maxDepth=9999+1:=rfl;rw[lwp_bind,hmd,Op.equalIn,lwp_bind,lwp_underlying hu];cases a<;>exact⟨rfl,rfl⟩
theorem t_build0{K:Value->T}{t el:TypeId}{s b:Nat}{z:Option Value}(hu:P.underlying t=some (.slice el))(hi:(P.info? el).map (fun i=>(i.size,i.bytes,i.zero))=some (s,b,z))
 (hk:∀ r,h.get r=none->(K (.slice (some ⟨r,0,none⟩) 0 0)).wp X P Q { h with get:=h.get.upd r (true,.cells #[] el (0,0)) }):(T.sem false (Instr.buildSlice t 0 #[]) K).wp X P Q h:=by
 obtain⟨inf,g1,_,_,_⟩:=info_of hi;refine t_sem (A:=fun v h'=>∃ r,h.get r=none/\v=.slice (some ⟨r,0,none⟩) 0 0/\h'=h.get.upd r (true,.cells #[] el (0,0))) ?_ (by rintro v h' ⟨r,hr,rfl,rfl⟩;exact hk r hr);unfold Instr.buildSlice;simp only[lwp_bind,lwp_underlying hu,lwp_sizeOf g1,Nat.zero_mul,lwp_pure];rw[if_neg (by omega)];simp only[if_true,lwp_bind,lwp_pure];have hf:Instr.fill (fun i=>some (i*inf.size,inf.size)) (Array.map (fun x=>(#[]:Array Value)[x%(#[]:Array Value).size]!) (Array.range 0)) (#[]:Array (Nat×Value)).toList=some #[]:=by simp[Instr.fill]
 rw[hf];simp only[lwp_bind];exact lwp_newRow fun r hr=>⟨r,hr,rfl,rfl⟩
end
section
theorem Addr.add_add'(a:Addr)(x y:Nat):(a.add x).add y=a.add (x+y):=by
 unfold Addr.add;by_cases h1:x=0
 ·subst h1;simp
 ·by_cases h2:y=0
  ·subst h2;simp[h1]
  ·simp[h1,h2];omega
def ToldE{α:Type}(E:Cells->Addr->α->Prop)(Enc:α->List Value->Prop)(k:Nat)(h:Cells):Prop:=∀ a x,E h a x->∃ ws,Enc x ws/\ws.length=k/\(∀ (j:Nat) w,ws[j]?=some w->h.cell? (a.add j)=some w)/\∀ w∈ws,isOne w=true
theorem flat{α:Type}{E:Cells->Addr->α->Prop}{Enc:α->List Value->Prop}{k:Nat}{h:Cells}(he:ToldE E Enc k h){b:Addr}{n:Nat}{l:List α}(s:Sl E k h (some b) n l):∀ i,i<=l.length->∃ vs,Rows Enc vs (l.take i)/\vs.length=i*k/\(∀ (t:Nat) v,vs[t]?=some v->h.cell? (b.add t)=some v)/\∀ v∈vs,isOne v=true:=by
 intro i
 induction i with
 | zero=>intro _;exact⟨[],.nil,by simp,fun t v hv=>by simp at hv,fun v hv=>by simp at hv⟩
 | succ i ih =>
  intro hi;obtain⟨vs,h1,h2,h3,h4⟩:=ih (by omega);obtain⟨x,a,hx,ha,hE⟩:=s.at (i:=i) (by rw[s.1];omega);cases ha;obtain⟨ws,w1,w2,w3,w4⟩:=he _ _ hE;refine⟨vs++ws,?_,by rw[List.length_append,h2,w2,Nat.add_mul];omega,fun t v hv=>?_,fun v hv=>?_⟩
  ·rw[List.take_add_one,hx];exact h1.snoc w1
  ·by_cases ht:t<vs.length
   ·rw[List.getElem?_append_left ht]at hv;exact h3 t v hv
   ·rw[List.getElem?_append_right (by omega)]at hv;have:=w3 _ v hv;rw[Addr.add_add']at this;rw[show t=i*k+(t-vs.length) by omega];exact this
  ·rcases List.mem_append.1 hv with hv|hv
   ·exact h4 v hv
   ·exact w4 v hv
theorem Rows.append{α:Type}{Enc:α->List Value->Prop}{vs:List Value}{l:List α}(r:Rows Enc vs l){ws:List Value}{l':List α}(r':Rows Enc ws l'):Rows Enc (vs++ws) (l++l'):=by
 induction r' with
 | nil=>simpa using r
 | snoc r' he ih=>rw[<- List.append_assoc,<- List.append_assoc];exact ih.snoc he
section
variable {P:Program} {X:XP} {Q:Leaf->LH->Prop}
theorem t_append0{h:LH}{k:Value->T}{ts:Array TypeId}{ty sT xT el xe:TypeId}{s by_:Nat}{z:Option Value}{p q:Option Addr}{n c mc:Nat}(h0:ts[0]?=some sT)(h1:ts[1]?=some xT)(hu:P.underlying sT=some (.slice el))(hx:P.underlying xT=some (.slice xe))
 (hi:(P.info? el).map (fun i=>(i.size,i.bytes,i.zero))=some (s,by_,z))(hnc:n<=c)(hk:(k (.slice p n c)).wp X P Q h):(T.sem false (Builtin.append_ ts ty #[.slice p n c,.slice q 0 mc]) k).wp X P Q h:=by
 obtain⟨inf,g1,_,_,_⟩:=info_of hi;refine t_sem (A:=fun v h'=>v=.slice p n c/\h'=h.get) ?_ (by rintro v h' ⟨rfl,rfl⟩;exact hk);unfold Builtin.append_;rw[h0,h1];simp only[List.getElem?_toArray,List.getElem?_cons_zero,List.getElem?_cons_succ];simp only[lwp_bind,lwp_underlying hu,lwp_sizeOf g1,lwp_underlying hx,lwp_pure,Bool.false_eq_true,if_false,Bool.not_false,if_true,Builtin.lenOf,Nat.add_zero,if_pos hnc];cases q with
 | none =>
  simp only[Builtin.firstCells,lwp_pure];cases p with
  | none=>exact⟨rfl,rfl⟩
  | some a=>exact⟨rfl,rfl⟩
 | some b =>
  simp only[Builtin.firstCells,Nat.zero_mul];refine lwp_loads (l:=[]) rfl (fun t v hv=>by simp at hv) ?_;cases p with
  | none=>exact⟨rfl,rfl⟩
  | some a=>exact⟨rfl,rfl⟩
theorem OwnRow.le_cap{el:TypeId}{k:Nat}{h:Cells}{p:Option Addr}{n c:Nat}{vs:List Value}(o:OwnRow el k h p n c vs):n<=c:=by
 rcases o.2 with⟨_,h1,h2⟩|⟨_,_,_,_,_,h,_⟩
 ·omega
 ·exact h
theorem t_copy{α:Type}{E:Cells->Addr->α->Prop}{Enc:α->List Value->Prop}{h h₀:LH}{k:Value->T}{ts:Array TypeId}{ty sT xT el xe:TypeId}{s by_:Nat}{z:Value}{p q:Option Addr}{n c m mc:Nat}{l l1:List α}(h0:ts[0]?=some sT)(h1:ts[1]?=some xT)(hu:P.underlying sT=some (.slice el))(hx:P.underlying xT=some (.slice xe))
 (hi:(P.info? el).map (fun i=>(i.size,i.bytes,i.zero))=some (s,by_,some z))(hsz:z.cells.size=s)(hb:by_<=1024)(hn:n+m<=2^30)(g:Growing Enc el s h₀.get h.get p n c l)(hle:h₀.le h)(src:Sl E s h.get q m l1)(he:ToldE E Enc s h.get)
 (hk:∀ p' c' h',h₀.le h'->(∀ r y,(∀ a,p=some a->a.block≠r)->h.get r=some y->h'.get r=some y)->Growing Enc el s h₀.get h'.get p' (n+m) c' (l++l1)->(k (.slice p' (n+m) c')).wp X P Q h'):(T.sem false (Builtin.append_ ts ty #[.slice p n c,.slice q m mc]) k).wp X P Q h:=by
 obtain⟨vs,o,r⟩:=g.row;by_cases hm:m=0
 ·subst hm;have hl1:l1=[]:=List.eq_nil_of_length_eq_zero src.1.symm;subst hl1;refine t_append0 h0 h1 hu hx hi o.le_cap ?_;have:=hk p c h hle (fun r y _ hy=>hy) (by rw[List.append_nil];exact g);exact this
 ·obtain⟨x,b,_,hb',_⟩:=src.at (i:=0) (by omega);subst hb';obtain⟨ws,w1,w2,w3,w4⟩:=flat he src l1.length (Nat.le_refl _);rw[List.take_length]at w1;have hm':=src.1;refine t_append h0 h1 hu hx hi hsz hb hn o (by rw[w2,hm']) w3 w4 (by omega) fun p' c' h' a b c=>?_;obtain⟨l1',l2'⟩:=after_append hle.1 g.new b c;exact hk p' c' _ ⟨l1',hle.2⟩ (fun r y hr hy=>b r y hy hr) ⟨⟨vs++ws,a,r.append w1⟩,l2'⟩
theorem t_build0G{α:Type}{Enc:α->List Value->Prop}{h h₀:LH}{K:Value->T}{t el:TypeId}{s b:Nat}{z:Option Value}(hu:P.underlying t=some (.slice el))(hi:(P.info? el).map (fun i=>(i.size,i.bytes,i.zero))=some (s,b,z))(hle:h₀.le h)
 (hk:∀ r h',h.get r=none->h.le h'->Growing Enc el s h₀.get h'.get (some ⟨r,0,none⟩) 0 0 []->(K (.slice (some ⟨r,0,none⟩) 0 0)).wp X P Q h'):(T.sem false (Instr.buildSlice t 0 #[]) K).wp X P Q h:=by
 refine t_build0 hu hi fun r hr=>?_;refine hk r _ hr (LH.upd_le hr) ⟨⟨[],⟨by simp,.inr ⟨r,#[],rfl,Cells.upd_self _ _ _,by simp,Nat.le_refl _,fun j v hv=>by simp at hv⟩⟩,.nil⟩,fun a ha=>?_⟩;cases ha;cases hx:h₀.get r with
 | none=>rfl
 | some x=>rw[hle.1 _ _ hx]at hr;cases hr
end
end
section
structure Kp(m:Nat)(h h':LH):Prop where
 get:∀ r x,r≠m->h.get r=some x->h'.get r=some x
 rest:h'.chans=h.chans/\h'.pend=h.pend/\h'.todo=h.todo
theorem Kp.refl(m:Nat)(h:LH):Kp m h h:=⟨fun _ _ _ hx=>hx,rfl,rfl,rfl⟩
theorem Kp.trans{m:Nat}{a b c:LH}(h1:Kp m a b)(h2:Kp m b c):Kp m a c:=⟨fun r x hr hx=>h2.get r x hr (h1.get r x hr hx),h2.rest.1.trans h1.rest.1,h2.rest.2.1.trans h1.rest.2.1,h2.rest.2.2.trans h1.rest.2.2⟩
theorem Kp.of_le{m:Nat}{h h':LH}(hl:h.le h'):Kp m h h':=⟨fun r x _ hx=>hl.1 r x hx,hl.2.1,hl.2.2.1,hl.2.2.2⟩
def IsMap(h:Cells)(m:Nat):Prop:=∃ b es c,h m=some (b,.map es c)
theorem IsMap.cell{h:Cells}{m:Nat}(i:IsMap h m){a:Addr}{v:Value}(hc:h.cell? a=some v):a.block≠m:=by
 rintro rfl;obtain⟨b,es,c,hb⟩:=i;unfold Cells.cell? at hc;rw[hb]at hc;cases hc
theorem Kp.rd{m:Nat}{h h':LH}(k:Kp m h h')(i:IsMap h.get m):Rd h.get h'.get:=by
 intro a v hc;have hne:=i.cell hc;unfold Cells.cell? at hc ⊢;cases hb:h.get a.block with
 | none=>rw[hb]at hc;cases hc
 | some x=>rw[k.get _ x hne hb];rw[hb]at hc;exact hc
theorem Kp.le_of{m:Nat}{h h1 h':LH}(hl:h.le h1)(hm:h.get m=none)(k:Kp m h1 h'):h.le h':=by
 refine⟨fun r x hx=>?_,k.rest.1.trans hl.2.1,k.rest.2.1.trans hl.2.2.1,k.rest.2.2.trans hl.2.2.2⟩;refine k.get r x (fun e=>?_) (hl.1 r x hx);rw[e,hm]at hx;cases hx
theorem Kp.upd{m:Nat}{h:LH}{x:Bool×Obj}:Kp m h { h with get:=h.get.upd m x }:=⟨fun r y hr hy=>by show h.get.upd m x r=_;rw[Cells.upd_ne _ _ hr];exact hy,rfl,rfl,rfl⟩
def HoldsO{κ:Type}(enc:κ->Value)(h:Cells)(m:Nat)(F:κ->Option Value):Prop:=∃ es c,h m=some (true,.map es c)/\MapO enc es F
theorem HoldsO.isMap{κ:Type}{enc:κ->Value}{h:Cells}{m:Nat}{F:κ->Option Value}(x:HoldsO enc h m F):IsMap h m:=by
 obtain⟨es,c,h1,_⟩:=x;exact⟨_,_,_,h1⟩
theorem HoldsO.le{κ:Type}{enc:κ->Value}{h h':Cells}{m:Nat}{F:κ->Option Value}(hl:h.le h')(x:HoldsO enc h m F):HoldsO enc h' m F:=by
 obtain⟨es,c,h1,h2⟩:=x;exact⟨es,c,hl _ _ h1,h2⟩
structure DfAt(h:Cells)(a:Addr)(f:DFileC)(x:DFile):Prop where
 g0:h.cell? (a.add 0)=some (.slice f.cal.p0 f.cal.n0 f.cal.c0)
 g1:h.cell? (a.add 1)=some (.slice f.cal.p1 f.cal.n1 f.cal.c1)
 g2:h.cell? (a.add 2)=some (.int .i64 x.kinds)
 g3:h.cell? (a.add 3)=some (.int .i64 x.mend.n)
 g4:h.cell? (a.add 4)=some (.int .i64 x.mend.unit)
 g5:h.cell? (a.add 5)=some (.int .i64 x.reach.n)
 g6:h.cell? (a.add 6)=some (.int .i64 x.reach.unit)
 g7:h.cell? (a.add 7)=some (.int .i64 x.late.n)
 g8:h.cell? (a.add 8)=some (.int .i64 x.late.unit)
 g9:h.cell? (a.add 9)=some (.int .i64 x.ask.n)
 g10:h.cell? (a.add 10)=some (.int .i64 x.ask.unit)
 g11:h.cell? (a.add 11)=some (.int .i64 x.most.n)
 g12:h.cell? (a.add 12)=some (.int .i64 x.most.unit)
 g13:h.cell? (a.add 13)=some (.int .i64 x.items)
 g14:h.cell? (a.add 14)=some (.slice f.p f.n f.c)
theorem DfAt.rd{h h':Cells}{a:Addr}{f:DFileC}{x:DFile}(hl:Rd h h')(r:DfAt h a f x):DfAt h' a f x :=
 ⟨hl _ _ r.g0,hl _ _ r.g1,hl _ _ r.g2,hl _ _ r.g3,hl _ _ r.g4,hl _ _ r.g5,hl _ _ r.g6,hl _ _ r.g7,hl _ _ r.g8,hl _ _ r.g9,hl _ _ r.g10,hl _ _ r.g11,hl _ _ r.g12,hl _ _ r.g13,hl _ _ r.g14⟩
theorem DfAt.le{h h':Cells}{a:Addr}{f:DFileC}{x:DFile}(hl:h.le h')(r:DfAt h a f x):DfAt h' a f x:=r.rd (Rd.of_le hl)
theorem cell_blk{h:Cells}{b i:Nat}{m:Bool}{cs:Array Value}{el:TypeId}{fz:Nat×Nat}{v:Value}(hb:h b=some (m,.cells cs el fz))(hv:cs[i]?=some v):h.cell? ⟨b,i,none⟩=some v:=by
 unfold Cells.cell?;rw[hb];exact hv
theorem dfAt_of{h:Cells}{r:Nat}{el:TypeId}{m:Bool}{fz:Nat×Nat}{cs:Array Value}{f:DFileC}{x:DFile}(hb:h r=some (m,.cells cs el fz))(hc:∀ (i:Nat) v,(dfCells f x)[i]?=some v->cs[i]?=some v):DfAt h ⟨r,0,none⟩ f x:=by
 constructor<;>(rw[add_plain];exact cell_blk hb (hc _ _ rfl))
theorem DfAt.nest{h:Cells}{a:Addr}{f:DFileC}{x:DFile}(r:DfAt h a f x):h.cell? ((a.add 0).add 0)=some (.slice f.cal.p0 f.cal.n0 f.cal.c0)/\h.cell? ((a.add 0).add 1)=some (.slice f.cal.p1 f.cal.n1 f.cal.c1)/\h.cell? ((a.add 3).add 0)=some (.int .i64 x.mend.n)/\h.cell? ((a.add 3).add 1)=some (.int .i64 x.mend.unit) /\
  h.cell? ((a.add 5).add 0)=some (.int .i64 x.reach.n)/\h.cell? ((a.add 5).add 1)=some (.int .i64 x.reach.unit)/\h.cell? ((a.add 7).add 0)=some (.int .i64 x.late.n)/\h.cell? ((a.add 7).add 1)=some (.int .i64 x.late.unit) /\
  h.cell? ((a.add 9).add 0)=some (.int .i64 x.ask.n)/\h.cell? ((a.add 9).add 1)=some (.int .i64 x.ask.unit)/\h.cell? ((a.add 11).add 0)=some (.int .i64 x.most.n)/\h.cell? ((a.add 11).add 1)=some (.int .i64 x.most.unit):=by
 simp only[Addr.add_add'];exact⟨r.g0,r.g1,r.g3,r.g4,r.g5,r.g6,r.g7,r.g8,r.g9,r.g10,r.g11,r.g12⟩
section
variable {X:XP} {P:Program} {Q:Leaf->LH->Prop}
theorem t_newG{h:LH}{el:TypeId}{cs:Array Value}{k:Nat->T}(hk:∀ r h1,h.le h1->h.get r=none->h1.get r=some (true,.cells cs el (0,0))->Kp r h h1->(k r).wp X P Q h1):(T.new el cs k).wp X P Q h :=
 t_new fun r hr=>hk r _ (LH.upd_le hr) hr (Cells.upd_self _ _ _) Kp.upd
theorem t_makeMapG{h:LH}{K:Value->T}{t:TypeId}(hk:∀ r h1,h.le h1->h.get r=none->h1.get r=some (true,.map #[] 0)->(K (.map (some r))).wp X P Q h1):(T.sem false (Instr.makeMap t none) K).wp X P Q h :=
 t_makeMap fun r hr=>hk r _ (LH.upd_le hr) hr (Cells.upd_self _ _ _)
theorem t_storeG{h:LH}{k:T}{b i:Nat}{cs:Array Value}{el:TypeId}{v v₀:Value}(hb:h.get b=some (true,.cells cs el (0,0)))(h1:isOne v=true)(hv:cs[i]?=some v₀)(hk:∀ h1:LH,Kp b h h1->h1.get b=some (true,.cells (cs.setIfInBounds i v) el (0,0))->k.wp X P Q h1):(T.store ⟨b,i,none⟩ v k).wp X P Q h:=by
 refine t_store h1 ⟨_,hb⟩ (cell_blk hb hv) (by simp[Cells.frozen?,hb]) (hk _ ⟨fun r x hr hx=>?_,rfl,rfl,rfl⟩ ?_)
 ·show h.get.setCell _ _ r=_;unfold Cells.setCell;rw[if_neg hr];exact hx
 ·show h.get.setCell _ _ b=_;unfold Cells.setCell;rw[if_pos rfl,hb];rfl
end
end
end Go.TM
namespace Go.Y
section
attribute [local irreducible] T.wp CV FWK
theorem p98{h:LH}{p:Option Addr}{n c:Nat}{l:List Span}{fv:Value}{g:Span->Bool}(hl:Sl SpanE 2 h.get p n l)(hf:∀ x:Span,CV X0 Tryz.prog fv #[.agg #[.int .i64 x.first,.int .i64 x.last]] h fun r h'=>r=.bool (g x)/\h'=h) :
  Pu Tryz.prog 110 #[.slice p n c,fv] h (.int .i64 (placeF g 0 l)):=by
 refine w98 _ _ _ _ X0_ok ?_;unfold n98;have hn:=hl.1;have hb:=hl.2.1;refine t_loop (fun m vs h'=>h'=h/\∃ i:Nat,vs=[.int .i64 0,.int .i64 i]/\i<=n/\m=n-i/\placeF g 0 l=placeF g i (l.drop i)) ⟨rfl,0,rfl,Nat.zero_le _,rfl,rfl⟩ ?_;rintro Y m vs _ hY ⟨rfl,i,rfl,hi,rfl,hc⟩;refine yJ (fun e1=>?_) (fun e1=>?_)
 ·obtain⟨x,a,hx,ha,e2,e4⟩:=hl.at (i:=i) (by omega);refine gZ ?_;refine t_callv (hf x) ?_;rintro _ _ ⟨rfl,rfl⟩;refine gZ ?_;rw[drop_of hx,placeF]at hc;refine t_cond (fun e3=>?_) (fun e3=>?_)
  ·refine gZ ?_;refine t_ret ⟨?_,rfl⟩;rw[hc,if_pos e3]
  ·refine t_again (hY (n-(i+1)) _ _ (by omega) ⟨rfl,i+1,?_,by omega,rfl,?_⟩)
   ·rw[wrap_id (by omega) (by omega)];rfl
   ·rw[hc,if_neg (by simp[e3])]
 ·refine gZ ?_;refine t_ret ⟨?_,rfl⟩;rw[hc,List.drop_eq_nil_of_le (by omega)];rfl
theorem p79{h:LH}{p:Option Addr}{n c:Nat}{l:List Span}{fv:Value}{g:Span->Bool}(hl:Sl SpanE 2 h.get p n l)(hf:∀ x:Span,CV X0 Tryz.prog fv #[.agg #[.int .i64 x.first,.int .i64 x.last]] h fun r h'=>r=.bool (g x)/\h'=h) :
  Pu Tryz.prog 65 #[.slice p n c,fv] h (.bool (l.any g)):=by
 refine w79 _ _ _ _ X0_ok ?_;unfold n79;refine t_pu (p98 hl hf) ?_;refine gZ ?_;refine t_ret ⟨?_,rfl⟩;rw[placeF_ge]
theorem c1117{h:LH}{z:Addr}{day:Int}(hz:h.get.cell? z=some (.int .i64 day))(a b:Int):Pu Tryz.prog 158 #[.agg #[a,b],.pointer (some z)] h (.bool (isIn day a b)):=by
 refine w1117 _ _ _ X0_ok ?_;unfold n1117;refine gZ ?_;refine t_pu (c1102 _ _ _) ?_;refine gZ ?_;exact t_ret ⟨rfl,rfl⟩
def boxC(z:Nat)(el:TypeId)(v:Value):Cells:=oneC z (.cells #[v] el (0,0))
theorem box_cell{h:LH}{z:Nat}{el:TypeId}{v:Value}(hz:h.get z=none):(h.add (boxC z el v)).get.cell? ⟨z,0,none⟩=some v:=by
 have:(h.add (boxC z el v)).get z=some (true,.cells #[v] el (0,0)):=add_oneC_get hz;unfold Cells.cell?;simp only[this];rfl
theorem box_own{h:LH}{z:Nat}{el:TypeId}{v:Value}(hz:h.get z=none):(h.add (boxC z el v)).get z=some (true,.cells #[v] el (0,0)):=add_oneC_get hz
theorem box_store{h:LH}{z:Nat}{el:TypeId}{v w:Value}(hz:h.get z=none):{ h.add (boxC z el v) with get:=(h.add (boxC z el v)).get.setCell ⟨z,0,none⟩ w }=h.add (boxC z el w):=by
 have hg:(h.add (boxC z el v)).get.setCell ⟨z,0,none⟩ w=(h.add (boxC z el w)).get:=by
  funext r;unfold Cells.setCell;by_cases e:r=z
  ·subst e;rw[box_own hz,if_pos rfl,box_own hz];rfl
  ·rw[if_neg e];show h.get.add (boxC z el v) r=h.get.add (boxC z el w) r;unfold Cells.add boxC oneC;simp only[if_neg e]
 show (⟨(h.add (boxC z el v)).get.setCell ⟨z,0,none⟩ w,_,_,_⟩ : LH)=_;rw[hg];rfl
theorem LH.le_add(h:LH)(k:Cells):h.le (h.add k):=⟨fun _ _ hx=>Cells.add_left hx,rfl,rfl,rfl⟩
theorem t_storeBox{X:XP}{P:Program}{Q:Leaf->LH->Prop}{h:LH}{k:T}{z:Nat}{el:TypeId}{v w:Value}(hz:h.get z=none)(h1:isOne w=true)(hk:k.wp X P Q (h.add (boxC z el w))):(T.store (Addr.add ⟨z,0,none⟩ 0) w k).wp X P Q (h.add (boxC z el v)):=by
 have e:Addr.add ⟨z,0,none⟩ 0=⟨z,0,none⟩:=by rw[add_plain]
 rw[e];refine t_store h1 ⟨_,box_own hz⟩ (box_cell hz) (by simp[Cells.frozen?,box_own hz]) ?_;rw[box_store hz];exact hk
def NextDay(c:Te.Cal)(s:Int)(xs:List Value)(s':Int):Prop:=∃ d,s<=d/\d<=36524/\(∀ e,s<=e->e<d->Te.openB c e=false)/\Te.openB c d=true/\xs=[.int .i64 d]/\s'=d+1
def NoDay(c:Te.Cal)(s:Int):Prop:=∀ e,s<=e->e<=36524->Te.openB c e=false
theorem open_is(c:CalD)(d:Int):Te.openB c.cal d = !(c.closed.contains ((d+5)%7)||c.closures.any fun s=>isIn d s.first s.last):=by
 unfold Te.openB CalD.cal isIn;simp only[List.any_map];rfl
theorem hands1116{h₀:LH}{zc zd:Nat}{el:TypeId}{f:CalC}{c:CalD}(hc0:h₀.get.cell? (Addr.add (Addr.add ⟨zc,0,none⟩ 0) 0)=some (.slice f.p0 f.n0 f.c0))(hc1:h₀.get.cell? (Addr.add (Addr.add ⟨zc,0,none⟩ 0) 1)=some (.slice f.p1 f.n1 f.c1))(hr:CalR h₀.get f c){day:Int}(hd:0<=day/\day<=36524) :
  HandsF X0 Tryz.prog (.func (.func 157) #[] #[.pointer (some ⟨zd,0,none⟩),.pointer (some ⟨zc,0,none⟩)]) h₀ (boxC zd el (.int .i64 day)) (NextDay c.cal) (NoDay c.cal) day:=by
 intro y J E hJ hE hyield h hle hJ0 hdk;refine cv_fw X0_ok (by rfl) (?_:FW X0 Tryz.prog 157 #[y,.pointer (some ⟨zd,0,none⟩),.pointer (some ⟨zc,0,none⟩)] (h.add (boxC zd el (.int .i64 day))) _);refine w1116 _ _ _ X0_ok ?_;unfold n1116;refine t_loop (fun mm vs h'=>vs=[]/\∃ (n s:Int) (hm:LH),h'=hm.add (boxC zd el (.int .i64 n))/\hm.get zd=none/\h₀.le hm/\s<=n/\0<=n/\n<=36525/\(∀ e,s<=e->e<n->Te.openB c.cal e=false)/\J s hm/\mm=(36525-n).toNat)
  ⟨rfl,day,day,h,rfl,oneC_none hdk,hle,by omega,by omega,by omega,fun e h1 h2=>by omega,hJ0,rfl⟩ ?_
 rintro Y mm vs _ hY ⟨rfl,n,s,hm,rfl,hz,hle1,hsn,hn0,hn1,hcl,hJs,rfl⟩;have lem:=LH.le_add hm (boxC zd el (.int .i64 n));have hdm:Disj hm.get (boxC zd el (.int .i64 n)):=disj_oneC hz;have hz0:=box_cell (el:=el) (v:=.int .i64 n) hz;have b0:=Cells.cell?_le (LH.le_trans hle1 lem).1 hc0;have b1:=Cells.cell?_le (LH.le_trans hle1 lem).1 hc1;have hr1:=hr.le (LH.le_trans hle1 lem).1;have ew:wrap .i64 (n+1)=n+1:=wrap_id (by omega) (by omega);have e5:wrap .i64 (n+5)=n+5:=wrap_id (by omega) (by omega);have e7:Int.tmod (n+5) 7=(n+5)%7:=Int.tmod_eq_emod_of_nonneg (by omega);have shut:n<=36524->Te.openB c.cal n=false->Y [] (hm.add (boxC zd el (.int .i64 (n+1)))):=fun hn2 ho =>
  hY (36525-(n+1)).toNat _ _ (by omega) ⟨rfl,n+1,s,hm,rfl,hz,hle1,by omega,by omega,by omega,fun e h1 h2=>by
   by_cases e9:e=n
   ·rw[e9];exact ho
   ·exact hcl e h1 (by omega),hJs,rfl⟩
 refine gZ ?_;refine t_pu (c1077 n) ?_;refine yI (fun g1=>?_) (fun g1=>?_)
 ·have hin:n<=36524:=by
   unfold isIn at g1;simp only[Bool.and_eq_true,decide_eq_true_eq]at g1;exact g1.2
  refine gZ ?_;rw[e5,e7];refine t_pu (c100 hr1.closed _) ?_;refine yI (fun g2=>?_) (fun g2=>?_)
  ·refine gZ ?_;rw[ew];refine t_storeBox hz rfl ?_;exact t_again (shut hin (by rw[open_is,g2];rfl))
  ·refine gZ ?_;refine t_pu (p79 hr1.closures (g:=fun s=>isIn n s.first s.last) (fun x=>?_)) ?_
   ·exact CV.mono (cv_fw X0_ok (by rfl) (c1117 hz0 x.first x.last)) (by rintro v h' ⟨rfl,rfl⟩;exact⟨rfl,rfl⟩)
   refine yI (fun g3=>?_) (fun g3=>?_)
   ·refine gZ ?_;have ho:Te.openB c.cal n=true:=by
     rw[open_is,g2,Bool.false_or];exact g3
    have hcv:=CV.frame X0_ok (hyield s hm [.int .i64 n] (n+1) hle1 ⟨n,hsn,hin,hcl,ho,rfl,rfl⟩ hJs) hdm;refine t_callv hcv ?_;rintro b h₂ ⟨h',hd',rfl,hle2,⟨rfl,hJ2⟩|⟨rfl,hE2⟩⟩
    ·have hz':h'.get zd=none:=oneC_none hd';have hz2:=box_cell (el:=el) (v:=.int .i64 n) hz';refine yF ?_;refine gZ ?_;rw[ew];refine t_storeBox hz' rfl ?_;exact t_again (hY (36525-(n+1)).toNat _ _ (by omega) ⟨rfl,n+1,n+1,h',rfl,hz',hle2,by omega,by omega,by omega,fun e h1 h2=>by omega,hJ2,rfl⟩)
    ·refine yT ?_;refine gI ?_;refine gZ ?_;exact t_ret ⟨LH.le_trans hle2 (LH.le_add _ _),.inr (hE _ _ hE2 hd')⟩
   ·refine gZ ?_;rw[ew];refine t_storeBox hz rfl ?_;refine t_again (shut hin ?_);rw[open_is];have:(c.closures.any fun s=>isIn n s.first s.last)=true:=by simpa using g3
    rw[this,Bool.or_true];rfl
 ·have hout:n=36525:=by
   unfold isIn at g1;simp only[Bool.and_eq_false_iff,decide_eq_false_iff_not]at g1;omega
  refine gH ?_;refine gZ ?_;refine t_ret ⟨LH.le_trans hle1 lem,.inl ⟨s,fun e h1 h2=>hcl e h1 (by omega),hJ _ _ _ hJs hdm⟩⟩
theorem next_first{c:Te.Cal}:∀ (k:Nat) (s d:Int),s+k=36525->s<=d->d<=36524->(∀ e,s<=e->e<d->Te.openB c e=false)->Te.openB c d=true->Te.nextGo c k s=d
 | 0,s,d,h1,h2,h3,_,_=>by omega
 | k+1,s,d,h1,h2,h3,h4,h5=>by
  rw[Te.nextGo];by_cases e:s=d
  ·subst e;rw[if_pos h5]
  ·rw[if_neg (by rw[h4 s (by omega) (by omega)];simp)];exact next_first k (s+1) d (by omega) (by omega) h3 (fun e h6 h7=>h4 e (by omega) h7) h5
theorem next_none{c:Te.Cal}:∀ (k:Nat) (s:Int),s+k=36525->NoDay c s->Te.nextGo c k s=36524
 | 0,_,_,_=>rfl
 | k+1,s,h1,h2=>by
  rw[Te.nextGo,if_neg (by rw[h2 s (by omega) (by omega)];simp)];exact next_none k (s+1) (by omega) fun e h3 h4=>h2 e (by omega) h4
theorem c1079{h:LH}{f:CalC}{c:CalD}(hr:CalR h.get f c){day:Int}(hd:0<=day/\day<=36524):Gr Tryz.prog 107 #[calV f,day] h fun r _=>r=.int .i64 (Te.nextT c.cal day):=by
 refine w1079 _ _ _ _ _ _ _ X0_ok ?_;unfold n1079;refine t_call (A:=fun r h'=>∃ zc zd:Nat,∃ hm:LH,r=.func (.func 157) #[] #[.pointer (some ⟨zd,0,none⟩),.pointer (some ⟨zc,0,none⟩)]/\h.le hm/\hm.get.cell? (Addr.add (Addr.add ⟨zc,0,none⟩ 0) 0)=some (.slice f.p0 f.n0 f.c0)/\hm.get.cell? (Addr.add (Addr.add ⟨zc,0,none⟩ 0) 1)=some (.slice f.p1 f.n1 f.c1)/\hm.get zd=none/\h'=hm.add (boxC zd 3 (.int .i64 day))) ?_ ?_
 ·refine w1104 _ _ _ _ _ _ _ X0_ok ?_;unfold n1104;refine t_new fun zc hzc=>?_;refine t_new fun zd hzd=>?_;refine t_ret ⟨zc,zd,_,rfl,LH.upd_le hzc,?_,?_,hzd,?_⟩
  ·rw[add_plain,add_plain];exact cell_upd rfl
  ·rw[add_plain,add_plain];exact cell_upd rfl
  ·unfold LH.add;congr 1;funext r;unfold Cells.upd Cells.add boxC oneC;by_cases e:r=zd
   ·subst e;simp only[if_pos rfl];have:(if r=zc then some (true,Obj.cells #[Value.slice f.p0 f.n0 f.c0,.slice f.p1 f.n1 f.c1] 163 (0,0)) else h.get r)=none:=hzd;rw[this]
   ·simp only[if_neg e];generalize (if r=zc then _ else h.get r)=o;cases o<;>rfl
 ·rintro _ _ ⟨zc,zd,hm,rfl,hle,e0,e1,hz,rfl⟩;refine t_eachF (μ:=fun s:Int=>(36525-s).toNat) ?_ (hm:=hm) (k₀:=boxC zd 3 (.int .i64 day)) rfl (disj_oneC hz) (LH.le_refl hm) (hands1116 e0 e1 (hr.le hle.1) hd) (fun s vs h'=>s=day/\vs=[.int .i64 0]) ⟨rfl,rfl⟩ ?_ ?_
  ·rintro s xs s' ⟨d,h1,h2,_,_,_,rfl⟩;omega
  ·rintro s vs h' hfin hl ⟨rfl,rfl⟩;refine gZ ?_;refine t_ret ⟨LH.le_trans hle hl,?_⟩;rw[Te.nextT,next_none _ _ (by omega) hfin]
  ·rintro s xs s' vs h' ⟨d,h1,h2,h3,h4,rfl,rfl⟩ hl ⟨rfl,rfl⟩ Y hY;refine gZ ?_;refine t_retnE hl ?_;refine gZ ?_;refine t_ret ⟨LH.le_trans hle hl,?_⟩;rw[Te.nextT,next_first _ _ d (by omega) h1 h2 h3 h4]
end
section
attribute [local irreducible] T.wp CV FWK
def De(f:FuncId)(args:Array Value)(h:LH)(d m:Nat)(fc:FileC)(u:UseFile)(V:Value->LH->Prop):Prop:=FW X0 Tryz.prog f args h fun r h'=>Mv m h h'/\Desk h'.get d m fc u/\V r h'
theorem t_de{X:XP}{Q:Leaf->LH->Prop}{h:LH}{f:FuncId}{args:Array Value}{d m:Nat}{fc:FileC}{u:UseFile}{k:Value->T}{V:Value->LH->Prop}(c:De f args h d m fc u V)(hk:∀ v h',Mv m h h'->Desk h'.get d m fc u->V v h'->(k v).wp X Tryz.prog Q h'):(T.call false f args k).wp X Tryz.prog Q h :=
 t_call (FW.top c) fun v h' ha=>hk v h' ha.1 ha.2.1 ha.2.2
theorem two119:twoInts Tryz.prog 156=true:=by kernel_rfl
theorem two30:twoInts Tryz.prog 28=true:=by kernel_rfl
theorem i64_3:isI64 Tryz.prog 3=true:=by kernel_rfl
theorem Desk.updMap{h:Cells}{d m:Nat}{f:FileC}{u:UseFile}(k:Desk h d m f u){es':Array MapEntry}{c:Nat}(he:∀ e∈es'.toList,∃ day:Int,e.key=.agg #[.int .i64 day,.int .i64 u.idle]/\e.val=.agg #[.int .i64 (window u day).first,.int .i64 day]):Rd h (h.upd m (true,.map es' c))/\Desk (h.upd m (true,.map es' c)) d m f u:=by
 have hr:Rd h (h.upd m (true,.map es' c)):=by
  intro a v hc;have hne:a.block≠m:=by
   intro e;obtain⟨es,c,hm⟩:=k.isMap;unfold Cells.cell? at hc;rw[e,hm]at hc;cases hc
  unfold Cells.cell? at hc ⊢;rw[Cells.upd_ne _ _ hne];exact hc
 exact⟨hr,k.file.rd hr,k.rep.rd hr,fun j hj=>hr _ _ (k.counts j hj),hr _ _ k.mapp,_,_,Cells.upd_self _ _ _,he⟩
theorem Mv.updMap{m:Nat}{h:LH}{es':Array MapEntry}{c:Nat}:Mv m h { h with get:=h.get.upd m (true,.map es' c) } :=
 ⟨fun r x hr hx=>by show Cells.upd _ _ _ r=_;rw[Cells.upd_ne _ _ hr];exact hx,fun _ _ _=>⟨es',c,Cells.upd_self _ _ _⟩,rfl,rfl,rfl⟩
theorem c55{h:LH}{d m:Nat}{f:FileC}{u:UseFile}(k:Desk h.get d m f u)(hid:1<=u.idle/\u.idle<=2000)(day:Int)(hd:0<=day/\day<=2000) :
  De 46 #[.pointer (some ⟨d,0,none⟩),.int .i64 day] h d m f u fun r _=>r=.agg #[.int .i64 (window u day).first,day]:=by
 refine w55 _ _ X0_ok ?_;unfold n55;obtain⟨f0,f1,f2,f3,f4,f5,f6⟩:=k.file;have hmp:=k.mapp;obtain⟨es,c,hm,hes⟩:=k.map;have hkey:∀ e∈es.toList,IsKey Tryz.prog 156 e.key:=fun e he=>by obtain⟨dy,h1,_⟩:=hes e he;exact .inr ⟨two119,dy,u.idle,h1⟩
 have hkey':IsKey Tryz.prog 156 (.agg #[day,.int .i64 u.idle]):=.inr ⟨two119,_,_,rfl⟩;have found:∀ e∈es.toList,e.key=.agg #[day,.int .i64 u.idle]->e.val=.agg #[.int .i64 (window u day).first,day]:=by
  intro e he hk;obtain⟨dy,h1,h2⟩:=hes e he;rw[hk]at h1;simp only[Value.agg.injEq,Array.mk.injEq,List.cons.injEq,Value.int.injEq,and_true,true_and]at h1;rw[h2,h1]
 refine gZ ?_;refine t_blk (fun vs h'=>vs=[.int .i64 0,.int .i64 0]/\h=h') ?_ ?_
 ·refine gZ ?_;refine t_both ?_ ?_
  ·refine t_lookup und111 inf30 ⟨c,hm⟩ hkey' hkey (fun e he hk=>?_) fun hno=>?_
   ·rw[found e he hk];simp only[if_true];refine yT ?_;refine gZ ?_;exact t_ret ⟨Mv.refl,k,rfl⟩
   ·simp only[if_true];refine yF ?_;exact t_again ⟨rfl,rfl⟩
  ·refine gZ ?_;refine t_lookup und111 inf30 ⟨c,hm⟩ hkey' hkey (fun e he hk=>?_) fun hno=>?_
   ·rw[found e he hk];simp only[if_true];refine yT ?_;refine gZ ?_;exact t_ret ⟨Mv.refl,k,rfl⟩
   ·simp only[if_true];refine yF ?_;exact t_again ⟨rfl,rfl⟩
 ·rintro vs _ ⟨rfl,rfl⟩;refine gZ ?_;refine t_loop (fun mm vs h'=>h=h'/\∃ (x:Nat) (n:Int),vs=[.int .i64 (u.idle-n),.int .i64 x,.int .i64 day]/\x<=2000/\0<=n/\n<u.idle/\x=mm/\firstDay (counts u) u.idle day.toNat 0=firstDay (counts u) u.idle x n)
   ⟨rfl,day.toNat,0,by simp;omega,by omega,by omega,by omega,rfl,rfl⟩ ?_
  rintro Y mm vs _ hY ⟨rfl,x,n,rfl,hx,hn0,hn1,rfl,hc⟩;have fin:∀ (w:Int),w=(window u day).first->∀ {K:Value->T} {Q:Leaf->LH->Prop},(∀ h',Mv m h h'->Desk h'.get d m f u->(K undef).wp X0 Tryz.prog Q h')->(T.sem false (Sem.bind (Instr.mapUpdate 151 (.map (some m)) (.agg #[day,.int .i64 u.idle]) (.agg #[.int .i64 w,day])) fun _=>pure (.tuple #[])) K).wp X0 Tryz.prog Q h:=by
   intro w hw K Q hK;refine t_mapUpdate und111 ⟨c,hm⟩ hkey' hkey fun es' c' h1 _ _=>hK _ Mv.updMap (Desk.updMap k fun e he=>?_).2;rcases h1 e he with⟨h1,h2⟩|h1
   ·exact⟨day,h1,by rw[h2,hw]⟩
   ·exact hes e h1
  refine yJ (fun e1=>?_) (fun e1=>?_)
  ·have hcell:h.get.cell? ((Addr.add ⟨d,0,none⟩ 7).add ((x:Int).toNat*1))=some (.bool (counts u x)):=by
    have h7:0+7+(x:Int).toNat*1=7+x:=by omega
    rw[add_plain,add_plain,h7];exact k.counts x (by omega)
   obtain⟨y,rfl⟩ : ∃ y,x=y+1:=⟨x-1,by omega⟩
   refine gZ ?_;rw[firstDay]at hc;refine t_cond (fun e2=>?_) (fun e2=>?_)
   ·have hin:(if counts u ((y+1:Nat):Int)=true then n+1 else n)=n+1:=if_pos e2;simp only[hin]at hc;rw[wrap_id (by omega) (by omega)];refine t_cond (fun e3=>?_) (fun e3=>?_)
    ·refine gZ ?_;have e3':u.idle-n-1=0:=by simpa using e3
     rw[if_pos (by omega)]at hc;refine fin _ (by rw[window];exact hc.symm) fun h' hv hk=>?_;exact t_ret ⟨hv,hk,by rw[window,hc]⟩
    ·have e3':u.idle-n-1≠0:=by simpa using e3
     rw[if_neg (by omega)]at hc;refine t_again (hY y _ _ (by omega) ⟨rfl,y,n+1,?_,by omega,by omega,by omega,rfl,hc⟩);have a1:u.idle-n-1=u.idle-(n+1):=by omega
     have a2:((y+1:Nat):Int)-1=(y:Int):=by omega
     rw[wrap_id (by omega) (by omega),a1,a2]
   ·have hin:(if counts u ((y+1:Nat):Int)=true then n+1 else n)=n:=if_neg (by rw[e2];simp);simp only[hin]at hc;refine t_cond (fun e3=>?_) (fun e3=>?_)
    ·exfalso;have e3':u.idle-n=0:=by simpa using e3
     omega
    ·rw[if_neg (by omega)]at hc;refine t_again (hY y _ _ (by omega) ⟨rfl,y,n,?_,by omega,by omega,by omega,rfl,hc⟩);have a2:((y+1:Nat):Int)-1=(y:Int):=by omega
     rw[wrap_id (by omega) (by omega),a2]
  ·refine gZ ?_;obtain rfl:x=0:=by omega
   rw[firstDay]at hc;refine fin _ (by rw[window];exact hc.symm) fun h' hv hk=>?_;exact t_ret ⟨hv,hk,by rw[window,hc];rfl⟩
end
section
attribute [local irreducible] T.wp CV FWK
def AskSl(h:LH)(p:Option Addr)(n:Nat)(u:UseFile)(l:List Int):Prop :=
 n=l.length/\l.length<4611686018427387904/\∀ i g,l[i]?=some g->∃ a v,p=some a/\h.get.cell? (a.add (i*1))=some v/\Asks v h u g
def deskOf(f:FileC)(u:UseFile)(m:Nat):Array Value:=match buildV Tryz.prog 154 [(0,fileV f u),(2,.map (some m))] with
 | some (.agg cs)=>cs
 | _=>#[]
theorem deskOf_build(f:FileC)(u:UseFile)(m:Nat):buildV Tryz.prog 154 [(0,fileV f u),(2,.map (some m))]=some (.agg (deskOf f u m)):=by kernel_rfl
theorem deskOf_size(f:FileC)(u:UseFile)(m:Nat):(deskOf f u m).size=2009:=by kernel_rfl
theorem deskOf_0(f:FileC)(u:UseFile)(m:Nat):(deskOf f u m)[0]?=some (.int .i64 u.items):=by kernel_rfl
theorem deskOf_1(f:FileC)(u:UseFile)(m:Nat):(deskOf f u m)[1]?=some (.int .i64 u.lands):=by kernel_rfl
theorem deskOf_2(f:FileC)(u:UseFile)(m:Nat):(deskOf f u m)[2]?=some (.int .i64 u.from_):=by kernel_rfl
theorem deskOf_3(f:FileC)(u:UseFile)(m:Nat):(deskOf f u m)[3]?=some (.int .i64 u.idle):=by kernel_rfl
theorem deskOf_4(f:FileC)(u:UseFile)(m:Nat):(deskOf f u m)[4]?=some (.slice f.p4 f.n4 f.c4):=by kernel_rfl
theorem deskOf_5(f:FileC)(u:UseFile)(m:Nat):(deskOf f u m)[5]?=some (.slice f.p5 f.n5 f.c5):=by kernel_rfl
theorem deskOf_6(f:FileC)(u:UseFile)(m:Nat):(deskOf f u m)[6]?=some (.slice f.p6 f.n6 f.c6):=by kernel_rfl
theorem deskOf_m(f:FileC)(u:UseFile)(m:Nat):(deskOf f u m)[2008]?=some (.map (some m)):=by kernel_rfl
attribute [irreducible] deskOf
def openF(u:UseFile)(l:List Int):Int:=if checkF u≠0 then checkF u else firstF (fun _ x=>x) 0 l
def Opened(h h':LH)(f:FileC)(u:UseFile)(g:Int)(r:Value):Prop :=
 h.le h'/\((g≠0/\r=.tuple #[.pointer none,.int .i64 g])\/(g=0/\∃ d m,r=.tuple #[.pointer (some ⟨d,0,none⟩),.int .i64 0]/\h.get d=none/\h.get m=none/\Desk h'.get d m f u))
theorem setCell_upd{h:Cells}{r i:Nat}{m:Bool}{cs:Array Value}{el:TypeId}{v:Value}(hr:h r=some (m,.cells cs el (0,0))):h.setCell ⟨r,i,none⟩ v=h.upd r (m,.cells (cs.setIfInBounds i v) el (0,0)):=by
 funext b;unfold Cells.setCell Cells.upd;by_cases e:b=r
 ·subst e;simp[hr]
 ·simp[e]
theorem frozen_plain{h:Cells}{r i:Nat}{m:Bool}{cs:Array Value}{el:TypeId}(hr:h r=some (m,.cells cs el (0,0))):h.frozen? ⟨r,i,none⟩=false:=by
 simp[Cells.frozen?,hr]
theorem c53{h:LH}{f:FileC}{u:UseFile}{p:Option Addr}{n c:Nat}{l:List Int}(hp:Parts h.get)(hu:FileR h.get f u)(hw:AskSl h p n u l) :
  FW X0 Tryz.prog 44 #[fileV f u,.slice p n c] h fun r h'=>Opened h h' f u (openF u l) r:=by
 refine w53 _ _ _ _ _ _ _ _ _ _ _ _ _ _ _ _ X0_ok ?_;unfold n53;refine t_gr (c26 hp hu) ?_;rintro _ h₁ le1 rfl;refine yI (fun e0=>?_) (fun e0=>?_)
 ·have e0':checkF u≠0:=by simpa using e0
  refine t_ret ⟨le1,.inl ⟨?_,?_⟩⟩
  ·rw[openF,if_pos e0'];exact e0'
  ·rw[openF,if_pos e0']
 have e0':checkF u=0:=by simpa using e0
 have hn0:=check_num e0';have ho:openF u l=firstF (fun _ x=>x) 0 l:=by rw[openF,if_neg (by simp[e0'])]
 have hn:=hw.1;have hb:=hw.2.1;refine t_loop (fun mm vs h'=>h.le h'/\∃ i:Nat,vs=[.pointer none,.int .i64 0,.int .i64 i]/\i<=n/\mm=n-i/\openF u l=firstF (fun _ x=>x) i (l.drop i)) ⟨le1,0,rfl,Nat.zero_le _,rfl,ho⟩ ?_;rintro Y mm vs h₂ hY ⟨hle,i,rfl,hi,rfl,hc⟩;refine yJ (fun e1=>?_) (fun e1=>?_)
 ·obtain⟨g,hg⟩ : ∃ g,l[i]?=some g:=⟨l[i]'(by omega),List.getElem?_eq_getElem (by omega)⟩
  obtain⟨a,v,ha,hv,hask⟩:=hw.2.2 i g hg;have hv2:=Cells.cell?_le hle.1 hv;refine gT (by omega) (gS2 ha (t_loadV hv2 ?_));refine t_callv (hask hn0 f h₂ hle (hu.le hle.1)) ?_;rintro _ h₃ ⟨le3,rfl⟩;refine gZ ?_;rw[drop_of hg,firstF]at hc;refine t_cond (fun e2=>?_) (fun e2=>?_)
  ·have e2':g≠0:=by simpa using e2
   refine gZ ?_;rw[if_pos e2']at hc;exact t_ret ⟨LH.le_trans hle le3,.inl ⟨by rw[hc];exact e2',by rw[hc]⟩⟩
  ·have e2':g=0:=by simpa using e2
   rw[if_neg (by simp[e2'])]at hc;refine t_again (hY (n-(i+1)) _ _ (by omega) ⟨LH.le_trans hle le3,i+1,?_,by omega,rfl,hc⟩);rw[wrap_id (by omega) (by omega)];rfl
 ·refine gZ ?_;rw[List.drop_eq_nil_of_le (by omega),firstF]at hc;refine t_makeMap fun m hm=>?_;refine gZ ?_;have le4:h₂.le _:=LH.upd_le (x:=(true,.map #[] 0)) hm;refine t_struct (deskOf_build f u m) ?_;refine t_new fun d hd=>?_;have le5:LH.le _ _:=LH.upd_le (x:=(true,.cells (deskOf f u m) 154 (0,0))) hd;have hdm:d≠m:=by
   rintro rfl;change Cells.upd _ _ _ d=none at hd;rw[Cells.upd_self]at hd;cases hd
  have hd0:h.get d=none:=by
   cases hx:h.get d with
   | none=>rfl
   | some x=>rw[(LH.le_trans hle le4).1 _ _ hx]at hd;cases hd
  have hm0:h.get m=none:=by
   cases hx:h.get m with
   | none=>rfl
   | some x=>rw[hle.1 _ _ hx]at hm;cases hm
  refine t_loop (fun mm vs h'=>∃ (i:Nat) (cs:Array Value),vs=[.int .i64 i]/\i<=2001/\mm=2001-i/\h₂.le h'/\h'.get m=some (true,.map #[] 0)/\h'.get d=some (true,.cells cs 154 (0,0))/\cs.size=2009/\(∀ j,j<7\/j=2008->cs[j]?=(deskOf f u m)[j]?)/\∀ j:Nat,j<i->cs[7+j]?=some (.bool (counts u j)))
   (n:=2001) ⟨0,deskOf f u m,rfl,by omega,by omega,LH.le_trans le4 le5,?_,Cells.upd_self _ _ _,deskOf_size _ _ _,fun _ _=>rfl,fun j hj=>by omega⟩ ?_
  ·show Cells.upd _ _ _ m=_;rw[Cells.upd_ne _ _ (Ne.symm hdm)];exact Cells.upd_self _ _ _
  rintro Y2 mm2 vs2 h₆ hY2 ⟨j,cs,rfl,hj,rfl,le6,hm6,hd6,hsz,hfix,hcnt⟩;refine yJ (fun e5=>?_) (fun e5=>?_)
  ·refine t_new fun r1 hr1=>?_;have hr1d:r1≠d:=by rintro rfl;rw[hd6]at hr1;cases hr1
   have hr1m:r1≠m:=by rintro rfl;rw[hm6]at hr1;cases hr1
   have le7:h₆.le _:=LH.upd_le (x:=(true,.cells #[.int .i64 0] 3 (0,0))) hr1;have own1:(h₆.get.upd r1 (true,.cells #[.int .i64 0] 3 (0,0))) r1=some (true,.cells #[.int .i64 0] 3 (0,0)):=Cells.upd_self _ _ _;refine t_store rfl ⟨_,own1⟩ (v₀:=.int .i64 0) (by show Cells.cell? _ _=_;exact cell_upd rfl) (frozen_plain (i:=0) own1) ?_;have hset:(h₆.get.upd r1 (true,.cells #[.int .i64 0] 3 (0,0))).setCell ⟨r1,0,none⟩ (.int .i64 j)=h₆.get.upd r1 (true,.cells #[.int .i64 j] 3 (0,0)):=by
    rw[setCell_upd own1];funext b;unfold Cells.upd;by_cases e:b=r1<;>simp[e]
   have hset':(h₆.get.upd r1 (true,.cells #[.int .i64 0] 3 (0,0))).setCell (Addr.add ⟨r1,0,none⟩ 0) (.int .i64 j)=h₆.get.upd r1 (true,.cells #[.int .i64 j] 3 (0,0)):=hset;simp only[hset'];have le8:h₆.le { h₆ with get:=h₆.get.upd r1 (true,.cells #[.int .i64 j] 3 (0,0)) }:=LH.upd_le hr1;have hz:Cells.cell? (h₆.get.upd r1 (true,.cells #[.int .i64 j] 3 (0,0))) ⟨r1,0,none⟩=some (.int .i64 j):=cell_upd rfl;refine gL0 hz ?_;refine gS2 rfl ?_;refine t_gr (c79 (g:=fun x=>isIn j x.first x.last) (hu.le (LH.le_trans (LH.le_trans hle le6) le8).1).excuses fun x h' hl'=>cv_fw X0_ok (by rfl) (pu_gr (c80 (Cells.cell?_le hl'.1 hz) _ _))) ?_;rintro _ h₉ le9 rfl;have hz9:=Cells.cell?_le le9.1 hz;have hd9:=(LH.le_trans le8 le9).1 _ _ hd6;refine gZ ?_;have hcl:h₉.get.cell? ⟨d,7+j,none⟩=some (cs[7+j]'(by omega)):=by
    simp only[Cells.cell?,hd9];simp[show 7+j<cs.size by omega]
   have ha7:Addr.add (Addr.add (Addr.add ⟨d,0,none⟩ 7) ((j:Int).toNat*1)) 0=⟨d,7+j,none⟩:=by
    have h7:0+7+(j:Int).toNat*1+0=7+j:=by omega
    rw[add_plain,add_plain,add_plain,h7]
   refine t_store rfl ?_ (v₀:=cs[7+j]'(by omega)) ?_ ?_ ?_
   ·rw[ha7];exact⟨_,hd9⟩
   ·rw[ha7];exact hcl
   ·rw[ha7];exact frozen_plain hd9
   rw[ha7,setCell_upd hd9];refine gZ ?_;refine t_again (hY2 (2001-(j+1)) _ _ (by omega) ⟨j+1,_,?_,by omega,rfl,?_,?_,Cells.upd_self _ _ _,by rw[Array.size_setIfInBounds];exact hsz,?_,?_⟩)
   ·rw[wrap_id (by omega) (by omega)];rfl
   ·have:=LH.le_trans (LH.le_trans le6 le8) le9;refine⟨fun b x hb=>?_,this.2⟩;have hbd:b≠d:=by
     rintro rfl;rw[le4.1 _ _ hb]at hd;cases hd
    show Cells.upd _ _ _ b=_;rw[Cells.upd_ne _ _ hbd];exact this.1 _ _ hb
   ·show Cells.upd _ _ _ m=_;rw[Cells.upd_ne _ _ (Ne.symm hdm)];exact(LH.le_trans le8 le9).1 _ _ hm6
   ·intro i hi;rw[Array.getElem?_setIfInBounds_ne (by omega)];exact hfix i hi
   ·intro i hi;by_cases e:i=j
    ·subst e;rw[Array.getElem?_setIfInBounds_self,if_pos (by omega)];congr 2;simp only[counts,List.not_any_eq_all_not]
    ·rw[Array.getElem?_setIfInBounds_ne (by omega)];exact hcnt i (by omega)
  ·refine gZ ?_;have hcell:∀ i v,cs[i]?=some v->h₆.get.cell? (Addr.add ⟨d,0,none⟩ i)=some v:=by
    intro i v hv;rw[add_plain,Nat.zero_add];simp only[Cells.cell?,hd6];simpa using hv
   have hcell':∀ i v,cs[i]?=some v->h₆.get.cell? ⟨d,i,none⟩=some v:=by
    intro i v hv;simp only[Cells.cell?,hd6];simpa using hv
   refine t_ret ⟨LH.le_trans hle le6,.inr ⟨hc,d,m,rfl,hd0,hm0,?_,hu.le (LH.le_trans hle le6).1,?_,?_,?_⟩⟩
   ·exact⟨hcell _ _ ((hfix 0 (by omega)).trans (deskOf_0 _ _ _)),hcell _ _ ((hfix 1 (by omega)).trans (deskOf_1 _ _ _)),hcell _ _ ((hfix 2 (by omega)).trans (deskOf_2 _ _ _)),hcell _ _ ((hfix 3 (by omega)).trans (deskOf_3 _ _ _)),
     hcell _ _ ((hfix 4 (by omega)).trans (deskOf_4 _ _ _)),hcell _ _ ((hfix 5 (by omega)).trans (deskOf_5 _ _ _)),hcell _ _ ((hfix 6 (by omega)).trans (deskOf_6 _ _ _))⟩
   ·intro i hi;exact hcell' _ _ (hcnt i (by omega))
   ·exact hcell' _ _ ((hfix 2008 (.inr rfl)).trans (deskOf_m _ _ _))
   ·exact⟨_,_,hm6,fun e he=>by simp at he⟩
end
section
attribute [local irreducible] T.wp CV FWK
theorem Mv.le_of{m:Nat}{h h₁ h':LH}(hle:h.le h₁)(hm:h.get m=none)(mv:Mv m h₁ h'):h.le h':=by
 refine⟨fun r x hr=>mv.keep r x ?_ (hle.1 r x hr),mv.same.1.trans hle.2.1,mv.same.2.1.trans hle.2.2.1,mv.same.2.2.trans hle.2.2.2⟩;rintro rfl;rw[hm]at hr;cases hr
theorem asks1{h:LH}{X:XP}{Q:Leaf->LH->Prop}{k:Value->T}{u:UseFile}{v0:Value}{g0:Int}(q0:∃ fn a b,v0=Value.func fn a b)(a0:Asks v0 h u g0)(hk:∀ r h',h.le h'->AskSl h' (some ⟨r,0,none⟩) 1 u [g0]->(k (.slice (some ⟨r,0,none⟩) 1 1)).wp X Tryz.prog Q h'):(T.sem false (Instr.buildSlice 150 1 #[(0,v0)]) k).wp X Tryz.prog Q h:=by
 obtain⟨fn0,x0,y0,rfl⟩:=q0;refine t_build und110 inf87 (by decide) (by decide) (cells:=#[.func fn0 x0 y0]) (by kernel_rfl) fun r hr=>?_;have le1:h.le _:=LH.upd_le (x:=(true,.cells #[.func fn0 x0 y0] 109 (0,0))) hr;refine hk r _ le1 ⟨rfl,by show 1<_;omega,?_⟩;intro i g hg;have hc:∀ i v,(#[.func fn0 x0 y0]:Array Value)[i]?=some v->Cells.cell? (h.get.upd r (true,.cells #[.func fn0 x0 y0] 109 (0,0))) (Addr.add ⟨r,0,none⟩ (i*1))=some v:=by
  intro i v hv;rw[add_plain,Nat.zero_add,Nat.mul_one];exact cell_upd hv
 match i,hg with
 | 0,hg=>simp at hg;subst hg;exact⟨_,_,rfl,hc 0 _ rfl,a0.le le1⟩
 | i+1,hg=>simp at hg
theorem asks2{h:LH}{X:XP}{Q:Leaf->LH->Prop}{k:Value->T}{u:UseFile}{v0 v1:Value}{g0 g1:Int}(q0:∃ fn a b,v0=Value.func fn a b)(a0:Asks v0 h u g0)(q1:∃ fn a b,v1=Value.func fn a b)(a1:Asks v1 h u g1)(hk:∀ r h',h.le h'->AskSl h' (some ⟨r,0,none⟩) 2 u [g0,g1]->(k (.slice (some ⟨r,0,none⟩) 2 2)).wp X Tryz.prog Q h'):(T.sem false (Instr.buildSlice 150 2 #[(0,v0),(1,v1)]) k).wp X Tryz.prog Q h:=by
 obtain⟨fn0,x0,y0,rfl⟩:=q0;obtain⟨fn1,x1,y1,rfl⟩:=q1;refine t_build und110 inf87 (by decide) (by decide) (cells:=#[.func fn0 x0 y0,.func fn1 x1 y1]) (by kernel_rfl) fun r hr=>?_;have le1:h.le _:=LH.upd_le (x:=(true,.cells #[.func fn0 x0 y0,.func fn1 x1 y1] 109 (0,0))) hr;refine hk r _ le1 ⟨rfl,by show 2<_;omega,?_⟩;intro i g hg;have hc:∀ i v,(#[.func fn0 x0 y0,.func fn1 x1 y1]:Array Value)[i]?=some v->Cells.cell? (h.get.upd r (true,.cells #[.func fn0 x0 y0,.func fn1 x1 y1] 109 (0,0))) (Addr.add ⟨r,0,none⟩ (i*1))=some v:=by
  intro i v hv;rw[add_plain,Nat.zero_add,Nat.mul_one];exact cell_upd hv
 match i,hg with
 | 0,hg=>simp at hg;subst hg;exact⟨_,_,rfl,hc 0 _ rfl,a0.le le1⟩
 | 1,hg=>simp at hg;subst hg;exact⟨_,_,rfl,hc 1 _ rfl,a1.le le1⟩
 | i+2,hg=>simp at hg
theorem asks3{h:LH}{X:XP}{Q:Leaf->LH->Prop}{k:Value->T}{u:UseFile}{v0 v1 v2:Value}{g0 g1 g2:Int}(q0:∃ fn a b,v0=Value.func fn a b)(a0:Asks v0 h u g0)(q1:∃ fn a b,v1=Value.func fn a b)(a1:Asks v1 h u g1)(q2:∃ fn a b,v2=Value.func fn a b)(a2:Asks v2 h u g2)(hk:∀ r h',h.le h'->AskSl h' (some ⟨r,0,none⟩) 3 u [g0,g1,g2]->(k (.slice (some ⟨r,0,none⟩) 3 3)).wp X Tryz.prog Q h'):(T.sem false (Instr.buildSlice 150 3 #[(0,v0),(1,v1),(2,v2)]) k).wp X Tryz.prog Q h:=by
 obtain⟨fn0,x0,y0,rfl⟩:=q0;obtain⟨fn1,x1,y1,rfl⟩:=q1;obtain⟨fn2,x2,y2,rfl⟩:=q2;refine t_build und110 inf87 (by decide) (by decide) (cells:=#[.func fn0 x0 y0,.func fn1 x1 y1,.func fn2 x2 y2]) (by kernel_rfl) fun r hr=>?_;have le1:h.le _:=LH.upd_le (x:=(true,.cells #[.func fn0 x0 y0,.func fn1 x1 y1,.func fn2 x2 y2] 109 (0,0))) hr;refine hk r _ le1 ⟨rfl,by show 3<_;omega,?_⟩;intro i g hg;have hc:∀ i v,(#[.func fn0 x0 y0,.func fn1 x1 y1,.func fn2 x2 y2]:Array Value)[i]?=some v->Cells.cell? (h.get.upd r (true,.cells #[.func fn0 x0 y0,.func fn1 x1 y1,.func fn2 x2 y2] 109 (0,0))) (Addr.add ⟨r,0,none⟩ (i*1))=some v:=by
  intro i v hv;rw[add_plain,Nat.zero_add,Nat.mul_one];exact cell_upd hv
 match i,hg with
 | 0,hg=>simp at hg;subst hg;exact⟨_,_,rfl,hc 0 _ rfl,a0.le le1⟩
 | 1,hg=>simp at hg;subst hg;exact⟨_,_,rfl,hc 1 _ rfl,a1.le le1⟩
 | 2,hg=>simp at hg;subst hg;exact⟨_,_,rfl,hc 2 _ rfl,a2.le le1⟩
 | i+3,hg=>simp at hg
theorem open_num{u:UseFile}{l:List Int}(h:openF u l=0):numbersF u=0/\checkF u=0:=by
 unfold openF at h;split at h
 ·rename_i h1;exact absurd h h1
 ·rename_i h1;have:checkF u=0:=by simpa using h1
  exact⟨check_num this,this⟩
theorem firstF_zero{l:List Int}:∀ {i:Nat},firstF (fun _ x=>x) i l=0->∀ x∈l,x=0:=by
 induction l with
 | nil=>intro i _ x hx;simp at hx
 | cons y l ih =>
  intro i h x hx;unfold firstF at h;split at h
  ·rename_i h1;exact absurd h h1
  ·rename_i h1;have hy:y=0:=by simpa using h1
   rcases List.mem_cons.1 hx with rfl|hx
   ·exact hy
   ·exact ih h x hx
theorem open_zero{u:UseFile}{l:List Int}(h:openF u l=0):∀ x∈l,x=0:=by
 have h0:=(open_num h).2;unfold openF at h;rw[if_neg (by simp[h0])]at h;exact firstF_zero h
theorem dayQ_zero{d:Int}(h:dayQ d=0):0<=d/\d<=2000:=by
 unfold dayQ at h;split at h
 ·rename_i h1;simpa[isDay,isIn] using h1
 ·cases h
def windowR(u:UseFile)(day:Int):Value:=if openF u [dayQ day]≠0 then .tuple #[.agg #[.int .i64 0,.int .i64 0],.int .i64 (openF u [dayQ day])] else .tuple #[.agg #[.int .i64 (window u day).first,.int .i64 day],.int .i64 0]
theorem c17{h:LH}{f:FileC}{u:UseFile}(hp:Parts h.get)(hu:FileR h.get f u)(day:Int):Gr Tryz.prog 17 #[fileV f u,day] h fun r _=>r=windowR u day:=by
 refine w17 _ _ _ _ _ _ _ _ _ _ _ _ _ _ X0_ok ?_;unfold n17;refine t_gr (c54 u day) ?_;rintro v h₁ le1 ⟨q,a⟩;refine gZ ?_;refine asks1 q a fun r h₂ le2 hs=>?_;refine gZ ?_;have le12:=LH.le_trans le1 le2;refine t_call (c53 (f:=f) (hp.le le12.1) (hu.le le12.1) hs) ?_;rintro v h₃ ⟨le3,⟨hne,rfl⟩|⟨h0,d,m,rfl,hd,hm,k⟩⟩
 ·refine gZ ?_;refine t_cond (fun _=>?_) (fun e=>absurd (by simpa using e) hne);refine t_ret ⟨LH.le_trans le12 le3,?_⟩;show _=windowR u day;rw[windowR,if_pos hne]
 ·refine yF ?_;have hq:=dayQ_zero (open_zero h0 _ (by simp;rfl));refine t_de (c55 k (num_ok (open_num h0).1).2.2.2 day hq) ?_;rintro _ h₄ mv k4 rfl;refine gZ ?_;refine t_ret ⟨LH.le_trans le12 (Mv.le_of le3 hm mv),?_⟩;show _=windowR u day;rw[windowR,if_neg (by simpa using h0)]
end
section
set_option linter.unusedVariables false
variable {X:XP} {h:LH} {A:Value->LH->Prop}
def n15(u_0 u_1 u_2 u_3:Int)(u_4p:Option Addr)(u_4n u_4c:Nat)(u_5p:Option Addr)(u_5n u_5c:Nat)(u_6p:Option Addr)(u_6n u_6c:Nat):T:=.blk (bif decide ((↑u_4n:Int)>20) then .rn [true] else bif decide ((↑u_5n:Int)>20) then .rn [true] else bif decide ((↑u_6n:Int)>20) then .rn [true] else .ag [false]) (fun vs=>.popB vs fun b vs=>.unNil vs (.loop [b,.int .i64 0] (fun vs=>.popB vs fun b vs=>.pi vs fun n vs=>.unNil vs (bif decide (n<(↑u_5n:Int)) then .need (0<=n/\n<(↑u_5n:Int)) (.someA u_5p fun a=>.loadS ((a.add (n.toNat*4)).add 3) fun p n_1 c=>bif decide ((↑n_1:Int)>20) then .rn [true,n] else .ag [b,.int .i64 (wrap .i64 (n+1))]) else .bk [b,n])) (fun vs=>.popB vs fun b vs=>.pi vs fun n vs=>.unNil vs (.loop [b,.int .i64 0] (fun vs=>.popB vs fun b vs=>.pi vs fun n vs=>.unNil vs (bif decide (n<(↑u_6n:Int)) then .need (0<=n/\n<(↑u_6n:Int)) (.someA u_6p fun a=>.loadS ((a.add (n.toNat*3)).add 2) fun p n_1 c=>bif decide ((↑n_1:Int)>20) then .rn [true,n] else .ag [b,.int .i64 (wrap .i64 (n+1))]) else .bk [b,n])) (fun vs=>.popB vs fun b vs=>.pi vs fun n vs=>.unNil vs (.rt (.bool false))) (fun vs=>.popB vs fun b vs=>.pi vs fun n vs=>.unNil vs (.rt (.bool b))) fun x x_1=>.fail)) (fun vs=>.popB vs fun b vs=>.pi vs fun n vs=>.unNil vs (.rt (.bool b))) fun x x_1=>.fail)) (fun vs=>.popB vs fun b vs=>.unNil vs (.rt (.bool b))) fun x x_1=>.fail
theorem w15(u_0 u_1 u_2 u_3:Int)(u_4p:Option Addr)(u_4n u_4c:Nat)(u_5p:Option Addr)(u_5n u_5c:Nat)(u_6p:Option Addr)(u_6n u_6c:Nat):FX X 12 #[.agg #[u_0,u_1,u_2,u_3,.slice u_4p u_4n u_4c,.slice u_5p u_5n u_5c,.slice u_6p u_6n u_6c]] h A (n15 u_0 u_1 u_2 u_3 u_4p u_4n u_4c u_5p u_5n u_5c u_6p u_6n u_6c):=fk [1] [⟨0,[(2,.bool),(3,.int .i64)],[1],[],[],[]⟩,⟨2,[(2,.bool),(4,.int .i64)],[1],[],[],[]⟩] [⟨3,[(2,.bool)],[1],[],[],[]⟩] Tryz.f12
def n25(ap:Option Addr)(an ac:Nat)(bp:Option Addr)(bn bc:Nat):T:=bif (↑an:Int) != (↑bn:Int) then .rt (.bool false) else .loop [false,.int .i64 0] (fun vs=>.popB vs fun b vs=>.pi vs fun n vs=>.unNil vs (bif decide (n<(↑an:Int)) then .need (0<=n/\n<(↑an:Int)) (.someA ap fun a=>.li (a.add (n.toNat*1)) fun n_1=>.need (0<=n/\n<(↑bn:Int)) (.someA bp fun a=>.li (a.add (n.toNat*1)) fun n_2=>bif n_1 != n_2 then .rn [false,n] else .ag [b,.int .i64 (wrap .i64 (n+1))])) else .bk [b,n])) (fun vs=>.popB vs fun b vs=>.pi vs fun n vs=>.unNil vs (.rt (.bool true))) (fun vs=>.popB vs fun b vs=>.pi vs fun n vs=>.unNil vs (.rt (.bool b))) fun x x_1=>.fail
theorem w25(ap:Option Addr)(an ac:Nat)(bp:Option Addr)(bn bc:Nat):FX X 26 #[.slice ap an ac,.slice bp bn bc] h A (n25 ap an ac bp bn bc):=fk [] [⟨0,[(4,.bool),(5,.int .i64)],[],[],[],[]⟩] [] Tryz.f26
def n27(u_0 u_1 u_2 u_3:Int)(u_4p:Option Addr)(u_4n u_4c:Nat)(u_5p:Option Addr)(u_5n u_5c:Nat)(u_6p:Option Addr)(u_6n u_6c:Nat):T:=.blk (.cB 35 #[u_0,.int .i64 0,.int .i64 6] fun b=>bif !b then .rn [.int .i64 1] else .cB 35 #[u_1,.int .i64 1,.int .i64 3] fun b=>bif !b then .rn [.int .i64 1] else .cB 36 #[u_2] fun b=>bif !b then .rn [.int .i64 1] else .cB 35 #[u_3,.int .i64 1,.int .i64 2000] fun b=>bif !b then .rn [.int .i64 1] else .ag [.int .i64 0]) (fun vs=>.pi vs fun n vs=>.unNil vs (.cI 37 #[.slice u_4p u_4n u_4c] fun n=>bif n != 0 then .rt (.int .i64 n) else .cI 38 #[.agg #[u_0,u_1,u_2,u_3,.slice u_4p u_4n u_4c,.slice u_5p u_5n u_5c,.slice u_6p u_6n u_6c]] fun n=>bif n != 0 then .rt (.int .i64 n) else .cI 39 #[.agg #[u_0,u_1,u_2,u_3,.slice u_4p u_4n u_4c,.slice u_5p u_5n u_5c,.slice u_6p u_6n u_6c]] fun n=>.rt (.int .i64 n))) (fun vs=>.pi vs fun n vs=>.unNil vs (.rt (.int .i64 n))) fun x x_1=>.fail
theorem w27(u_0 u_1 u_2 u_3:Int)(u_4p:Option Addr)(u_4n u_4c:Nat)(u_5p:Option Addr)(u_5n u_5c:Nat)(u_6p:Option Addr)(u_6n u_6c:Nat):FX X 13 #[.agg #[u_0,u_1,u_2,u_3,.slice u_4p u_4n u_4c,.slice u_5p u_5n u_5c,.slice u_6p u_6n u_6c]] h A (n27 u_0 u_1 u_2 u_3 u_4p u_4n u_4c u_5p u_5n u_5c u_6p u_6n u_6c):=fk [1] [] [⟨3,[(2,.int .i64)],[1],[],[],[]⟩] Tryz.f13
def n30(ap:Option Addr)(an ac:Nat)(bp:Option Addr)(bn bc:Nat):T:=bif (↑an:Int) != (↑bn:Int) then .rt (.bool false) else .loop [false,.int .i64 0] (fun vs=>.popB vs fun b vs=>.pi vs fun n vs=>.unNil vs (bif decide (n<(↑an:Int)) then .need (0<=n/\n<(↑an:Int)) (.someA ap fun a=>.li ((a.add (n.toNat*4)).add 0) fun n_1=>.li ((a.add (n.toNat*4)).add 1) fun n_2=>.li ((a.add (n.toNat*4)).add 2) fun n_3=>.li ((a.add (n.toNat*4)).add 3) fun n_4=>.need (0<=n/\n<(↑bn:Int)) (.someA bp fun a_1=>.li ((a_1.add (n.toNat*4)).add 0) fun n_5=>.li ((a_1.add (n.toNat*4)).add 1) fun n_6=>.li ((a_1.add (n.toNat*4)).add 2) fun n_7=>.li ((a_1.add (n.toNat*4)).add 3) fun n_8=>.sem false (Sem.bind (eqGuard BinOp.neq 80 (Operand.tmp 20) (Operand.tmp 24) (.agg #[n_1,n_2,n_3,n_4]) (.agg #[n_5,n_6,n_7,n_8])) fun __r=>binOp BinOp.neq 80 (.agg #[n_1,n_2,n_3,n_4]) (.agg #[n_5,n_6,n_7,n_8])) fun v=>.unB v fun b_1=>.need (0<=n/\n<(↑bn:Int)) (.someA bp fun a_2=>.ne (.pointer (some (a_2.add (n.toNat*4)))) (.pointer (some (a_1.add (n.toNat*4)))) (.nds [n,.S bp bn bc] (.need (0<=n/\n<(↑an:Int)) (.someA ap fun a_3=>.ne (.pointer (some (a_3.add (n.toNat*4)))) (.pointer (some (a.add (n.toNat*4)))) (.nds [n,.S ap an ac] (bif b_1 then .rn [false,n] else .ag [b,.int .i64 (wrap .i64 (n+1))])))))))) else .bk [b,n])) (fun vs=>.popB vs fun b vs=>.pi vs fun n vs=>.unNil vs (.rt (.bool true))) (fun vs=>.popB vs fun b vs=>.pi vs fun n vs=>.unNil vs (.rt (.bool b))) fun x x_1=>.fail
theorem w30(ap:Option Addr)(an ac:Nat)(bp:Option Addr)(bn bc:Nat):FX X 27 #[.slice ap an ac,.slice bp bn bc] h A (n30 ap an ac bp bn bc):=fk [] [⟨0,[(4,.bool),(5,.int .i64)],[],[],[],[]⟩] [] Tryz.f27
def n36(u_0 u_1 u_2 u_3:Int)(u_4p:Option Addr)(u_4n u_4c:Nat)(u_5p:Option Addr)(u_5n u_5c:Nat)(u_6p:Option Addr)(u_6n u_6c:Nat):T:=.cB 12 #[.agg #[u_0,u_1,u_2,u_3,.slice u_4p u_4n u_4c,.slice u_5p u_5n u_5c,.slice u_6p u_6n u_6c]] fun b=>bif !b then .cI 13 #[.agg #[u_0,u_1,u_2,u_3,.slice u_4p u_4n u_4c,.slice u_5p u_5n u_5c,.slice u_6p u_6n u_6c]] fun n=>.rt (.bool (n==0)) else .rt (.bool false)
theorem w36(u_0 u_1 u_2 u_3:Int)(u_4p:Option Addr)(u_4n u_4c:Nat)(u_5p:Option Addr)(u_5n u_5c:Nat)(u_6p:Option Addr)(u_6n u_6c:Nat):FX X 4 #[.agg #[u_0,u_1,u_2,u_3,.slice u_4p u_4n u_4c,.slice u_5p u_5n u_5c,.slice u_6p u_6n u_6c]] h A (n36 u_0 u_1 u_2 u_3 u_4p u_4n u_4c u_5p u_5n u_5c u_6p u_6n u_6c):=fk [1] [] [] Tryz.f4
def n42(a b:Int):T:=.rt (.agg #[a,b])
theorem w42(a b:Int):FX X 24 #[a,b] h A (n42 a b):=fk [4] [] [] Tryz.f24
def n52  : T:=.cl 24 #[.int .i64 21,.int .i64 23] fun v=>.unAgg v fun l=>.pi l fun n vs=>.pi vs fun n_1 vs=>.unNil vs (.sem false (Instr.buildSlice 22 1 #[(0,.agg #[n,n_1])]) fun v=>.unS v fun a n c=>.cl 24 #[.int .i64 12,.int .i64 14] fun v=>.unAgg v fun l=>.pi l fun n_2 vs=>.pi vs fun n_3 vs=>.unNil vs (.sem false (Instr.buildSlice 29 2 #[(0,.int .i64 0),(1,.int .i64 1)]) fun v=>.unS v fun a_1 n_4 c_1=>.cl 24 #[.int .i64 19,.int .i64 19] fun v=>.unAgg v fun l=>.pi l fun n_5 vs=>.pi vs fun n_6 vs=>.unNil vs (.sem false (Instr.buildSlice 29 1 #[(0,.int .i64 0)]) fun v=>.unS v fun a_2 n_7 c_2=>.cl 24 #[.int .i64 17,.int .i64 26] fun v=>.unAgg v fun l=>.pi l fun n_8 vs=>.pi vs fun n_9 vs=>.unNil vs (.sem false (Instr.buildSlice 29 1 #[(0,.int .i64 2)]) fun v=>.unS v fun a_3 n_10 c_3=>.cl 24 #[.int .i64 18,.int .i64 18] fun v=>.unAgg v fun l=>.pi l fun n_11 vs=>.pi vs fun n_12 vs=>.unNil vs (.sem false (Instr.buildSlice 29 2 #[(0,.int .i64 0),(1,.int .i64 1)]) fun v=>.unS v fun a_4 n_13 c_4=>.sem false (Instr.buildSlice 23 4 #[(0,.agg #[n_2,n_3,.int .i64 0,.slice a_1 n_4 c_1]),(1,.agg #[n_5,n_6,.int .i64 0,.slice a_2 n_7 c_2]),(2,.agg #[n_8,n_9,.int .i64 0,.slice a_3 n_10 c_3]),(3,.agg #[n_11,n_12,.int .i64 1,.slice a_4 n_13 c_4])]) fun v=>.unS v fun a_5 n_14 c_5=>.sem false (Instr.buildSlice 29 3 #[(0,.int .i64 0),(1,.int .i64 1),(2,.int .i64 2)]) fun v=>.unS v fun a_6 n_15 c_6=>.sem false (Instr.buildSlice 29 2 #[(0,.int .i64 0),(1,.int .i64 2)]) fun v=>.unS v fun a_7 n_16 c_7=>.sem false (Instr.buildSlice 24 2 #[(0,.agg #[.int .i64 20,.int .i64 0,.slice a_6 n_15 c_6]),(1,.agg #[.int .i64 25,.int .i64 0,.slice a_7 n_16 c_7])]) fun v=>.unS v fun a_8 n_17 c_8=>.rt (.agg #[.int .i64 3,.int .i64 2,.int .i64 10,.int .i64 5,.slice a n c,.slice a_5 n_14 c_5,.slice a_8 n_17 c_8]))))))
theorem w52  : FX X 16 #[] h A (n52):=fk [0] [] [] Tryz.f16
def n56(n:Int):T:=.cB 35 #[n,.int .i64 0,.int .i64 2000] fun b=>.rt (.bool b)
theorem w56(n:Int):FX X 36 #[n] h A (n56 n):=fk [] [] [] Tryz.f36
def n66(lp:Option Addr)(ln lc:Nat):T:=bif decide ((↑ln:Int)>4) then .rt (.int .i64 2) else .loop [.int .i64 0,.int .i64 0] (fun vs=>.pi vs fun n vs=>.pi vs fun n_1 vs=>.unNil vs (bif decide (n_1<(↑ln:Int)) then .need (0<=n_1/\n_1<(↑ln:Int)) (.someA lp fun a=>.li ((a.add (n_1.toNat*2)).add 0) fun n_2=>.li ((a.add (n_1.toNat*2)).add 1) fun n_3=>.cB 68 #[.agg #[n_2,n_3],.int .i64 0,.int .i64 2000] fun b=>bif !b then .rn [.int .i64 1,n_1] else .ag [n,.int .i64 (wrap .i64 (n_1+1))]) else .bk [n,n_1])) (fun vs=>.pi vs fun n vs=>.pi vs fun n vs=>.unNil vs (.rt (.int .i64 0))) (fun vs=>.pi vs fun n vs=>.pi vs fun n_1 vs=>.unNil vs (.rt (.int .i64 n))) fun x x_1=>.fail
theorem w66(lp:Option Addr)(ln lc:Nat):FX X 37 #[.slice lp ln lc] h A (n66 lp ln lc):=fk [] [⟨0,[(2,.int .i64),(3,.int .i64)],[],[],[],[]⟩] [] Tryz.f37
def n67(u_0 u_1 u_2 u_3:Int)(u_4p:Option Addr)(u_4n u_4c:Nat)(u_5p:Option Addr)(u_5n u_5c:Nat)(u_6p:Option Addr)(u_6n u_6c:Nat):T:=bif decide ((↑u_5n:Int)>8) then .rt (.int .i64 2) else .loop [.int .i64 0,.int .i64 0] (fun vs=>.pi vs fun n vs=>.pi vs fun n_1 vs=>.unNil vs (bif decide (n_1<(↑u_5n:Int)) then .need (0<=n_1/\n_1<(↑u_5n:Int)) (.someA u_5p fun a=>.li ((a.add (n_1.toNat*4)).add 0) fun n_2=>.li ((a.add (n_1.toNat*4)).add 1) fun n_3=>.li ((a.add (n_1.toNat*4)).add 2) fun n_4=>.loadS ((a.add (n_1.toNat*4)).add 3) fun p n_5 c=>.cB 68 #[.agg #[n_2,n_3],.int .i64 0,.int .i64 2000] fun b=>bif !b then .rn [.int .i64 1,n_1] else .cB 35 #[n_4,.int .i64 0,.int .i64 (wrap .i64 (u_1-1))] fun b=>bif !b then .rn [.int .i64 6,n_1] else .cI 69 #[.slice p n_5 c,u_0] fun n_6=>bif n_6 != 0 then .rn [n_6,n_1] else .ag [n,.int .i64 (wrap .i64 (n_1+1))]) else .bk [n,n_1])) (fun vs=>.pi vs fun n vs=>.pi vs fun n vs=>.unNil vs (.rt (.int .i64 0))) (fun vs=>.pi vs fun n vs=>.pi vs fun n_1 vs=>.unNil vs (.rt (.int .i64 n))) fun x x_1=>.fail
theorem w67(u_0 u_1 u_2 u_3:Int)(u_4p:Option Addr)(u_4n u_4c:Nat)(u_5p:Option Addr)(u_5n u_5c:Nat)(u_6p:Option Addr)(u_6n u_6c:Nat):FX X 38 #[.agg #[u_0,u_1,u_2,u_3,.slice u_4p u_4n u_4c,.slice u_5p u_5n u_5c,.slice u_6p u_6n u_6c]] h A (n67 u_0 u_1 u_2 u_3 u_4p u_4n u_4c u_5p u_5n u_5c u_6p u_6n u_6c):=fk [1,4] [⟨0,[(2,.int .i64),(3,.int .i64)],[1],[],[],[]⟩] [] Tryz.f38
def n68(u_0 u_1 u_2 u_3:Int)(u_4p:Option Addr)(u_4n u_4c:Nat)(u_5p:Option Addr)(u_5n u_5c:Nat)(u_6p:Option Addr)(u_6n u_6c:Nat):T:=bif decide ((↑u_6n:Int)>4) then .rt (.int .i64 2) else .loop [.int .i64 0,.int .i64 0] (fun vs=>.pi vs fun n vs=>.pi vs fun n_1 vs=>.unNil vs (bif decide (n_1<(↑u_6n:Int)) then .need (0<=n_1/\n_1<(↑u_6n:Int)) (.someA u_6p fun a=>.li ((a.add (n_1.toNat*3)).add 0) fun n_2=>.li ((a.add (n_1.toNat*3)).add 1) fun n_3=>.loadS ((a.add (n_1.toNat*3)).add 2) fun p n_4 c=>.cB 36 #[n_2] fun b=>bif !b then .rn [.int .i64 1,n_1] else .blk (bif decide (n_2<u_2) then .nds [.B (decide (n_2<u_2)),u_2,.pp 1 2,n_2,.pp 4 0,.U,.U,.U,.U,.B (decide (n_2<u_2)),u_2,.pp 1 2,n_2,.pp 4 0,.U,.U,.U,.U,.U,.B (decide (n_2<u_2)),u_2,.pp 1 2,n_2,.pp 4 0] (.rn [.int .i64 7]) else bif decide (n_1>0) then .need (0<=wrap .i64 (n_1-1)/\wrap .i64 (n_1-1)<(↑u_6n:Int)) (.someA u_6p fun a=>.li ((a.add ((wrap .i64 (n_1-1)).toNat*3)).add 0) fun n_5=>bif decide (n_2<n_5) then .rn [.int .i64 7] else .ag [n]) else .nds [.U,.U,.U,.U,.B (decide (n_1>0)),n_1] (.nf (decide (n_2<u_2)) false (.nds [.B (decide (n_2<u_2)),u_2,.pp 1 2,n_2,.pp 4 0,.U,.U,.U,.U,.U,.B (decide (n_1>0)),n_1] (.nf (decide (n_2<u_2)) false (.nds [.B (decide (n_2<u_2)),u_2,.pp 1 2,n_2,.pp 4 0] (.ag [n])))))) (fun vs=>.pi vs fun n vs=>.unNil vs (.cB 35 #[n_3,.int .i64 0,.int .i64 (wrap .i64 (u_1-1))] fun b=>bif !b then .rn [.int .i64 6,n_1] else .cI 69 #[.slice p n_4 c,u_0] fun n_5=>bif n_5 != 0 then .rn [n_5,n_1] else .ag [n,.int .i64 (wrap .i64 (n_1+1))])) (fun vs=>.pi vs fun n vs=>.unNil vs (.rn [n,n_1])) fun x x_1=>.fail) else .bk [n,n_1])) (fun vs=>.pi vs fun n vs=>.pi vs fun n vs=>.unNil vs (.rt (.int .i64 0))) (fun vs=>.pi vs fun n vs=>.pi vs fun n_1 vs=>.unNil vs (.rt (.int .i64 n))) fun x x_1=>.fail
theorem w68(u_0 u_1 u_2 u_3:Int)(u_4p:Option Addr)(u_4n u_4c:Nat)(u_5p:Option Addr)(u_5n u_5c:Nat)(u_6p:Option Addr)(u_6n u_6c:Nat):FX X 39 #[.agg #[u_0,u_1,u_2,u_3,.slice u_4p u_4n u_4c,.slice u_5p u_5n u_5c,.slice u_6p u_6n u_6c]] h A (n68 u_0 u_1 u_2 u_3 u_4p u_4n u_4c u_5p u_5n u_5c u_6p u_6n u_6c):=fk [1,4] [⟨0,[(2,.int .i64),(3,.int .i64)],[1],[],[],[]⟩] [⟨11,[(2,.int .i64)],[1,4],[],[],[]⟩] Tryz.f39
def n72(lp:Option Addr)(ln lc:Nat)(below:Int):T:=.loop [.int .i64 0,.int .i64 0] (fun vs=>.pi vs fun n vs=>.pi vs fun n_1 vs=>.unNil vs (bif decide (n_1<(↑ln:Int)) then .need (0<=n_1/\n_1<(↑ln:Int)) (.someA lp fun a=>.li (a.add (n_1.toNat*1)) fun n_2=>.cB 35 #[n_2,.int .i64 0,.int .i64 (wrap .i64 (below-1))] fun b=>bif !b then .rn [.int .i64 6,n_1] else bif decide (n_1>0) then .need (0<=n_1/\n_1<(↑ln:Int)) (.someA lp fun a=>.li (a.add (n_1.toNat*1)) fun n_3=>.need (0<=wrap .i64 (n_1-1)/\wrap .i64 (n_1-1)<(↑ln:Int)) (.someA lp fun a=>.li (a.add ((wrap .i64 (n_1-1)).toNat*1)) fun n_4=>bif decide (n_3<=n_4) then .rn [.int .i64 7,n_1] else .ag [n,.int .i64 (wrap .i64 (n_1+1))])) else .nds [.U,.U,.U,.U,.U,.B (decide (n_1>0)),n_1,.U,.U,.U,.U,.U,.B (decide (n_1>0)),n_1] (.ag [n,.int .i64 (wrap .i64 (n_1+1))])) else .bk [n,n_1])) (fun vs=>.pi vs fun n vs=>.pi vs fun n vs=>.unNil vs (.rt (.int .i64 0))) (fun vs=>.pi vs fun n vs=>.pi vs fun n_1 vs=>.unNil vs (.rt (.int .i64 n))) fun x x_1=>.fail
theorem w72(lp:Option Addr)(ln lc:Nat)(below:Int):FX X 69 #[.slice lp ln lc,below] h A (n72 lp ln lc below):=fk [] [⟨0,[(4,.int .i64),(5,.int .i64)],[],[],[],[]⟩] [] Tryz.f69
def n93(x_0 x_1 first last:Int):T:=bif decide (first<=x_0) then bif decide (x_0<=x_1) then .rt (.bool (decide (x_1<=last))) else .rt (.bool false) else .rt (.bool false)
theorem w93(x_0 x_1 first last:Int):FX X 68 #[.agg #[x_0,x_1],first,last] h A (n93 x_0 x_1 first last):=fk [3] [] [] Tryz.f68
end
section
attribute [local irreducible] T.wp CV FWK
theorem c49{h:LH}(n a b:Int):Pu Tryz.prog 35 #[n,a,b] h (.bool (isIn n a b)):=by
 refine w49 _ _ _ X0_ok ?_;unfold n49;refine t_if (fun e=>?_) (fun e=>?_)<;>refine t_ret ⟨?_,rfl⟩<;>simp[isIn,e]
theorem c56{h:LH}(n:Int):Pu Tryz.prog 36 #[n] h (.bool (isDay n)):=by
 refine w56 _ X0_ok ?_;unfold n56;refine t_pu (c49 _ _ _) ?_;refine gZ ?_;exact t_ret ⟨rfl,rfl⟩
theorem c93{h:LH}(a b x y:Int):Pu Tryz.prog 68 #[.agg #[a,b],x,y] h (.bool (decide (x<=a)&&(decide (a<=b)&&decide (b<=y)))):=by
 refine w93 _ _ _ _ X0_ok ?_;unfold n93;refine t_if (fun e=>?_) (fun e=>?_)
 ·refine t_if (fun e'=>?_) (fun e'=>?_)<;>refine t_ret ⟨?_,rfl⟩<;>simp[e,e']
 ·refine t_ret ⟨?_,rfl⟩;simp[e]
theorem inside_span(x:Span):(decide ((0:Int)<=x.first)&&(decide (x.first<=x.last)&&decide (x.last<=2000)))=isSpan x:=by
 unfold isSpan isDay isIn;rw[Bool.eq_iff_iff];simp only[Bool.and_eq_true,decide_eq_true_eq];omega
theorem c72{h:LH}{below:Int}{p:Option Addr}{n c:Nat}{l:List Int}(hl:Sl IntE 1 h.get p n l)(hb:IsI (below-1)):Pu Tryz.prog 69 #[.slice p n c,below] h (.int .i64 (risesF l below)):=by
 refine w72 _ _ _ _ X0_ok ?_;unfold n72;have hn:=hl.1;have hbn:=hl.2.1;have hw:wrap .i64 (below-1)=below-1:=wrap_id hb.1 hb.2;refine t_loop (fun mm vs h'=>h=h'/\∃ i:Nat,vs=[.int .i64 0,.int .i64 i]/\i<=n/\mm=n-i/\risesF l below=firstF (riseF l below) i (l.drop i)) ⟨rfl,0,rfl,Nat.zero_le _,rfl,rfl⟩ ?_;rintro Y mm vs _ hY ⟨rfl,i,rfl,hi,rfl,hc⟩;refine yJ (fun e=>?_) (fun e=>?_)
 ·obtain⟨x,a,hx,ha,e1⟩:=hl.at (i:=i) (by omega);unfold IntE at e1;rw[drop_of hx,firstF]at hc;refine gZ ?_;refine t_pu (c49 _ _ _) ?_;refine gZ ?_;rw[hw];have next:riseF l below i x=0->Y [.int .i64 0,.int .i64 (wrap .i64 ((i:Int)+1))] h:=by
   intro hz;rw[if_neg (by simp[hz])]at hc;refine hY (n-(i+1)) _ _ (by omega) ⟨rfl,i+1,?_,by omega,rfl,hc⟩;rw[wrap_id (by omega) (by omega)];rfl
  have stop:∀ z:Int,z≠0->riseF l below i x=z->risesF l below=z:=by
   intro z hz hr;rw[if_pos (by rw[hr];exact hz),hr]at hc;exact hc
  refine t_cond (fun b=>?_) (fun b=>?_)
  ·refine gZ ?_;have b':isIn x 0 (below-1)=false:=by simpa using b
   exact t_ret ⟨by rw[stop 6 (by omega) (by rw[riseF,if_pos b'])],rfl⟩
  ·have b':¬ isIn x 0 (below-1)=false:=by simp at b;simp[b]
   refine t_if (fun e2=>?_) (fun e2=>?_)
   ·obtain⟨y,a2,hy,ha2,e3⟩:=hl.at (i:=i-1) (by omega);unfold IntE at e3;rw[ha]at ha2;cases ha2;have hwi:wrap .i64 ((i:Int)-1)=((i-1:Nat):Int):=by rw[wrap_id (by omega) (by omega)];omega
    have hg:l.getD (i-1) 0=y:=by simp[List.getD,hy]
    rw[hwi];refine yJ (fun e4=>?_) (fun e4=>?_)
    ·refine gZ ?_;exact t_ret ⟨by rw[stop 7 (by omega) (by rw[riseF,if_neg b',if_pos ⟨by omega,by rw[hg];exact e4⟩])],rfl⟩
    ·exact t_again (next (by rw[riseF,if_neg b',if_neg (by rw[hg];omega)]))
   ·refine gZ ?_;exact t_again (next (by rw[riseF,if_neg b',if_neg (by omega)]))
 ·refine gZ ?_;rw[List.drop_eq_nil_of_le (by omega)]at hc;exact t_ret ⟨by rw[hc];rfl,rfl⟩
theorem c66{h:LH}{p:Option Addr}{n c:Nat}{l:List Span}(hl:Sl SpanE 2 h.get p n l):Pu Tryz.prog 37 #[.slice p n c] h (.int .i64 (eachF 4 (fun _ x=>if isSpan x then 0 else 1) l)):=by
 refine w66 _ _ _ X0_ok ?_;unfold n66;have hn:=hl.1;have hbn:=hl.2.1;refine t_if (fun e=>?_) (fun e=>?_)
 ·exact t_ret ⟨by rw[eachF,if_pos (by omega)],rfl⟩
 have he:eachF 4 (fun _ x=>if isSpan x then 0 else 1) l=firstF (fun _ x=>if isSpan x then 0 else 1) 0 l:=by rw[eachF,if_neg (by omega)]
 refine t_loop (fun mm vs h'=>h=h'/\∃ i:Nat,vs=[.int .i64 0,.int .i64 i]/\i<=n/\mm=n-i/\eachF 4 (fun _ x=>if isSpan x then 0 else 1) l=firstF (fun _ x=>if isSpan x then 0 else 1) i (l.drop i)) ⟨rfl,0,rfl,Nat.zero_le _,rfl,he⟩ ?_;rintro Y mm vs _ hY ⟨rfl,i,rfl,hi,rfl,hc⟩;refine yJ (fun e=>?_) (fun e=>?_)
 ·obtain⟨x,a,hx,ha,e1,e2⟩:=hl.at (i:=i) (by omega);rw[drop_of hx,firstF]at hc;refine gZ ?_;refine t_pu (c93 _ _ _ _) ?_;rw[inside_span];refine yI (fun b=>?_) (fun b=>?_)
  ·refine gZ ?_;have b':isSpan x=false:=by simpa using b
   rw[b']at hc;exact t_ret ⟨by rw[hc];rfl,rfl⟩
  ·have b':isSpan x=true:=by simpa using b
   rw[b']at hc;refine t_again (hY (n-(i+1)) _ _ (by omega) ⟨rfl,i+1,?_,by omega,rfl,by simpa using hc⟩);rw[wrap_id (by omega) (by omega)];rfl
 ·refine gZ ?_;rw[List.drop_eq_nil_of_le (by omega)]at hc;exact t_ret ⟨by rw[hc];rfl,rfl⟩
theorem c67{h:LH}{f:FileC}{u:UseFile}(hu:FileR h.get f u)(hnum:numbersF u=0):Pu Tryz.prog 38 #[fileV f u] h (.int .i64 (papersF u)):=by
 refine w67 _ _ _ _ _ _ _ _ _ _ _ _ _ X0_ok ?_;unfold n67;have hp:=hu.papers;have hn:=hp.1;have hbn:=hp.2.1;have hw:wrap .i64 (u.lands-1)=u.lands-1:=wrap_id (num_lands hnum).1 (num_lands hnum).2;refine t_if (fun e=>?_) (fun e=>?_)
 ·exact t_ret ⟨by rw[papersF,eachF,if_pos (by omega)],rfl⟩
 have he:papersF u=firstF (fun _ p=>paperF u p) 0 u.papers:=by rw[papersF,eachF,if_neg (by omega)]
 refine t_loop (fun mm vs h'=>h=h'/\∃ i:Nat,vs=[.int .i64 0,.int .i64 i]/\i<=f.n5/\mm=f.n5-i/\papersF u=firstF (fun _ p=>paperF u p) i (u.papers.drop i)) ⟨rfl,0,rfl,Nat.zero_le _,rfl,he⟩ ?_;rintro Y mm vs _ hY ⟨rfl,i,rfl,hi,rfl,hc⟩;refine yJ (fun e=>?_) (fun e=>?_)
 ·obtain⟨x,a,hx,ha,e1,e2,e3,q,m,c,e4,e5⟩:=hp.at (i:=i) (by omega);rw[drop_of hx,firstF]at hc;refine gZ ?_;have next:paperF u x=0->Y [.int .i64 0,.int .i64 (wrap .i64 ((i:Int)+1))] h:=by
   intro hz;rw[if_neg (by simp[hz])]at hc;refine hY (f.n5-(i+1)) _ _ (by omega) ⟨rfl,i+1,?_,by omega,rfl,hc⟩;rw[wrap_id (by omega) (by omega)];rfl
  have stop:∀ z:Int,z≠0->paperF u x=z->papersF u=z:=by
   intro z hz hr;rw[if_pos (by rw[hr];exact hz),hr]at hc;exact hc
  refine t_pu (c93 _ _ _ _) ?_;rw[inside_span x.days];refine yI (fun b=>?_) (fun b=>?_)
  ·refine gZ ?_;have b':isSpan x.days=false:=by simpa using b
   exact t_ret ⟨by rw[stop 1 (by omega) (by rw[paperF,if_pos b'])],rfl⟩
  have b1:¬ isSpan x.days=false:=by simp at b;simp[b]
  refine t_pu (c49 _ _ _) ?_;rw[hw];refine yI (fun b=>?_) (fun b=>?_)
  ·refine gZ ?_;have b':isIn x.land 0 (u.lands-1)=false:=by simpa using b
   exact t_ret ⟨by rw[stop 6 (by omega) (by rw[paperF,if_neg b1,if_pos b'])],rfl⟩
  have b2:¬ isIn x.land 0 (u.lands-1)=false:=by simp at b;simp[b]
  refine t_pu (c72 e5 (num_items hnum)) ?_;refine gZ ?_;have hr:paperF u x=risesF x.items u.items:=by rw[paperF,if_neg b1,if_neg b2]
  refine t_cond (fun b=>?_) (fun b=>?_)
  ·refine gZ ?_;exact t_ret ⟨by rw[stop _ (by simpa using b) hr],rfl⟩
  ·exact t_again (next (by rw[hr];simpa using b))
 ·refine gZ ?_;rw[List.drop_eq_nil_of_le (by omega)]at hc;exact t_ret ⟨by rw[hc];rfl,rfl⟩
def lateB(u:UseFile)(i:Nat)(x:Request):Bool:=decide (x.day<u.from_)||(decide (0<i)&&(match u.requests[i-1]? with|some q=>decide (x.day<q.day)|none=>false))
theorem requestF_eq(u:UseFile)(i:Nat)(x:Request):requestF u i x=if isDay x.day=false then 1 else if lateB u i x=true then 7 else if isIn x.land 0 (u.lands-1)=false then 6 else risesF x.items u.items:=rfl
theorem lateB_prev{u:UseFile}{i:Nat}{x y:Request}(hy:u.requests[i-1]?=some y):lateB u i x=(decide (x.day<u.from_)||(decide (0<i)&&decide (x.day<y.day))):=by
 unfold lateB;rw[hy]
theorem c68{h:LH}{f:FileC}{u:UseFile}(hu:FileR h.get f u)(hnum:numbersF u=0):Pu Tryz.prog 39 #[fileV f u] h (.int .i64 (requestsF u)):=by
 refine w68 _ _ _ _ _ _ _ _ _ _ _ _ _ X0_ok ?_;unfold n68;have hp:=hu.requests;have hn:=hp.1;have hbn:=hp.2.1;have hw:wrap .i64 (u.lands-1)=u.lands-1:=wrap_id (num_lands hnum).1 (num_lands hnum).2;refine t_if (fun e=>?_) (fun e=>?_)
 ·exact t_ret ⟨by rw[requestsF,eachF,if_pos (by omega)],rfl⟩
 have he:requestsF u=firstF (requestF u) 0 u.requests:=by rw[requestsF,eachF,if_neg (by omega)]
 refine t_loop (fun mm vs h'=>h=h'/\∃ i:Nat,vs=[.int .i64 0,.int .i64 i]/\i<=f.n6/\mm=f.n6-i/\requestsF u=firstF (requestF u) i (u.requests.drop i)) ⟨rfl,0,rfl,Nat.zero_le _,rfl,he⟩ ?_;rintro Y mm vs _ hY ⟨rfl,i,rfl,hi,rfl,hc⟩;refine yJ (fun e=>?_) (fun e=>?_)
 ·obtain⟨x,a,hx,ha,e1,e2,q,m,c,e4,e5⟩:=hp.at (i:=i) (by omega);rw[drop_of hx,firstF]at hc;refine gZ ?_;have next:requestF u i x=0->Y [.int .i64 0,.int .i64 (wrap .i64 ((i:Int)+1))] h:=by
   intro hz;rw[if_neg (by simp[hz])]at hc;refine hY (f.n6-(i+1)) _ _ (by omega) ⟨rfl,i+1,?_,by omega,rfl,hc⟩;rw[wrap_id (by omega) (by omega)];rfl
  have stop:∀ z:Int,z≠0->requestF u i x=z->requestsF u=z:=by
   intro z hz hr;rw[if_pos (by rw[hr];exact hz),hr]at hc;exact hc
  refine t_pu (c56 _) ?_;refine yI (fun b=>?_) (fun b=>?_)
  ·refine gZ ?_;have b':isDay x.day=false:=by simpa using b
   exact t_ret ⟨by rw[stop 1 (by omega) (by rw[requestF_eq,if_pos b'])],rfl⟩
  have b1:¬ isDay x.day=false:=by simp at b;simp[b]
  refine t_blk (fun vs h'=>vs=[.int .i64 0]/\h=h'/\lateB u i x=false) ?_ ?_
  ·refine t_if (fun e3=>?_) (fun e3=>?_)
   ·refine gZ ?_;exact t_ret ⟨by rw[stop 7 (by omega) (by rw[requestF_eq,if_neg b1,if_pos (by simp[lateB,e3])])],rfl⟩
   ·refine t_if (fun e6=>?_) (fun e6=>?_)
    ·obtain⟨y,a2,hy,ha2,f1,f2,_⟩:=hp.at (i:=i-1) (by omega);have hwi:wrap .i64 ((i:Int)-1)=((i-1:Nat):Int):=by rw[wrap_id (by omega) (by omega)];omega
     rw[hwi];refine yJ (fun e7=>?_) (fun e7=>?_)
     ·refine gZ ?_;exact t_ret ⟨by rw[stop 7 (by omega) (by rw[requestF_eq,if_neg b1,if_pos (by rw[lateB_prev hy];simp[e7];omega)])],rfl⟩
     ·refine t_again ⟨rfl,rfl,?_⟩;rw[lateB_prev hy];simp;omega
    ·have e3':decide (x.day<u.from_)=false:=by simpa using e3
     have e3'':AV.val (.bool (decide (x.day<u.from_)))=AV.val (.bool false):=by rw[e3']
     refine gZ ?_;refine t_again ⟨rfl,rfl,?_⟩;have hi0:i=0:=by omega
     subst hi0;unfold lateB;rw[e3'];rfl
  rintro vs _ ⟨rfl,rfl,hq⟩;refine gZ ?_;refine t_pu (c49 _ _ _) ?_;rw[hw];refine yI (fun b=>?_) (fun b=>?_)
  ·refine gZ ?_;have b':isIn x.land 0 (u.lands-1)=false:=by simpa using b
   exact t_ret ⟨by rw[stop 6 (by omega) (by rw[requestF_eq,if_neg b1,hq,if_neg (by simp),if_pos b'])],rfl⟩
  have b2:¬ isIn x.land 0 (u.lands-1)=false:=by simp at b;simp[b]
  refine t_pu (c72 e5 (num_items hnum)) ?_;refine gZ ?_;have hr:requestF u i x=risesF x.items u.items:=by rw[requestF_eq,if_neg b1,hq,if_neg (by simp),if_neg b2]
  refine t_cond (fun b=>?_) (fun b=>?_)
  ·refine gZ ?_;exact t_ret ⟨by rw[stop _ (by simpa using b) hr],rfl⟩
  ·exact t_again (next (by rw[hr];simpa using b))
 ·refine gZ ?_;rw[List.drop_eq_nil_of_le (by omega)]at hc;exact t_ret ⟨by rw[hc];rfl,rfl⟩
theorem c27{h:LH}{f:FileC}{u:UseFile}(hu:FileR h.get f u):Pu Tryz.prog 13 #[fileV f u] h (.int .i64 (checkF u)):=by
 refine w27 _ _ _ _ _ _ _ _ _ _ _ _ _ X0_ok ?_;unfold n27;have bad:numbersF u≠0->checkF u=1:=by
  intro hz;have:numbersF u=1:=by unfold numbersF at hz ⊢;split at hz<;>simp_all
  unfold checkF firstF;rw[if_pos hz,this]
 refine t_blk (fun vs h'=>vs=[.int .i64 0]/\h=h'/\numbersF u=0) ?_ ?_
 ·refine t_pu (c49 _ _ _) ?_;refine yI (fun b1=>?_) (fun b1=>?_)
  ·refine gZ ?_;exact t_ret ⟨by rw[bad (by simp at b1;simp[numbersF,b1])],rfl⟩
  refine t_pu (c49 _ _ _) ?_;refine yI (fun b2=>?_) (fun b2=>?_)
  ·refine gZ ?_;exact t_ret ⟨by rw[bad (by simp at b2;simp[numbersF,b2])],rfl⟩
  refine t_pu (c56 _) ?_;refine yI (fun b3=>?_) (fun b3=>?_)
  ·refine gZ ?_;exact t_ret ⟨by rw[bad (by simp at b3;simp[numbersF,b3])],rfl⟩
  refine t_pu (c49 _ _ _) ?_;refine yI (fun b4=>?_) (fun b4=>?_)
  ·refine gZ ?_;exact t_ret ⟨by rw[bad (by simp at b4;simp[numbersF,b4])],rfl⟩
  exact t_again ⟨rfl,rfl,by simp at b1 b2 b3 b4;simp[numbersF,b1,b2,b3,b4]⟩
 rintro vs _ ⟨rfl,rfl,hnum⟩;refine gZ ?_;refine t_pu (c66 hu.excuses) ?_;refine gZ ?_;have h0:checkF u=firstF (fun _ x=>x) 1 [excusesF u,papersF u,requestsF u]:=by
  unfold checkF;rw[firstF,if_neg (by simp[hnum])]
 rw[firstF]at h0;refine t_cond (fun b=>?_) (fun b=>?_)
 ·rw[if_pos (show excusesF u≠0 by simpa[excusesF] using b)]at h0;exact t_ret ⟨by rw[h0];rfl,rfl⟩
 rw[if_neg (show ¬ excusesF u≠0 by simpa[excusesF] using b),firstF]at h0;refine t_pu (c67 hu hnum) ?_;refine yI (fun b=>?_) (fun b=>?_)
 ·rw[if_pos (by simpa using b)]at h0;exact t_ret ⟨by rw[h0],rfl⟩
 rw[if_neg (by simpa using b),firstF]at h0;refine t_pu (c68 hu hnum) ?_;refine gZ ?_;refine t_ret ⟨?_,rfl⟩;rw[h0];by_cases e:requestsF u=0
 ·rw[if_neg (by simp[e]),e];rfl
 ·rw[if_pos e]
end
section
attribute [local irreducible] T.wp CV FWK
theorem c1103{h:LH}(a b:Int):Pu Tryz.prog 119 #[.agg #[a,b]] h (.bool (!isIn a 0 36524||(!isIn b 0 36524||decide (a>b)))):=by
 refine w1103 _ _ X0_ok ?_;unfold n1103;refine t_pu (c1077 _) ?_;refine yI (fun e=>?_) (fun e=>?_)
 ·exact t_ret ⟨by simp only[e,Bool.true_or],rfl⟩
 refine t_pu (c1077 _) ?_;refine gZ ?_;refine t_cond (fun e'=>?_) (fun e'=>?_)
 ·exact t_ret ⟨by simp only[e',Bool.true_or,Bool.or_true],rfl⟩
 ·exact t_ret ⟨by simp only[e,e',Bool.false_or],rfl⟩
theorem c1075{h:LH}{f:CalC}{c:CalD}(hr:CalR h.get f c)(ok:CalOk c):Pu Tryz.prog 89 #[calV f] h (.int .i64 0):=by
 refine w1075 _ _ _ _ _ _ X0_ok ?_;unfold n1075;have hn:=hr.closed.1;have hb:=hr.closed.2.1;have hn1:=hr.closures.1;have hm:=ok.many;refine t_loopB (fun mm vs h'=>h=h'/\∃ i:Nat,vs=[.int .i64 0,.int .i64 i]/\i<=f.n0/\mm=f.n0-i) (fun vs h'=>h=h'/\∃ i:Nat,vs=[.int .i64 0,.int .i64 i]) ⟨rfl,0,rfl,Nat.zero_le _,rfl⟩ ?_ ?_
 ·rintro Y mm vs _ hY ⟨rfl,i,rfl,hi,rfl⟩;refine yJ (fun e1=>?_) (fun e1=>?_)
  ·obtain⟨x,a,hx,ha,e2⟩:=hr.closed.at (i:=i) (by omega);unfold IntE at e2;obtain⟨⟨k1,k2⟩,k3⟩:=ok.closed i x hx;have next:Y [.int .i64 0,.int .i64 (wrap .i64 ((i:Int)+1))] h:=by
    refine hY (f.n0-(i+1)) _ _ (by omega) ⟨rfl,i+1,?_,by omega,rfl⟩;rw[wrap_id (by omega) (by omega)];rfl
   refine gZ ?_;refine t_pu (c1102 _ _ _) ?_;have:isIn x 0 6=true:=by unfold isIn;simp[k1,k2]
   rw[this];refine yF ?_;refine t_if (fun e3=>?_) (fun e3=>t_again next);obtain⟨u,a',hu,ha',e4⟩:=hr.closed.at (i:=i-1) (by omega);unfold IntE at e4;have hlt:=k3 u (by omega) hu;have ew:wrap .i64 ((i:Int)-1)=((i-1:Nat):Int):=by rw[wrap_id (by omega) (by omega)];omega
   rw[ew];have hin:0<=((i-1:Nat):Int)/\((i-1:Nat):Int)<(f.n0:Int):=by omega
   refine gZ ?_;refine t_if (fun e5=>by omega) (fun _=>t_again next)
  ·exact gH ⟨rfl,i,rfl⟩
 ·rintro vs _ ⟨rfl,i,rfl⟩;refine gZ ?_;refine t_if (fun e1=>by omega) (fun _=>?_);refine t_pu (p79 hr.closures (g:=fun s=>!isIn s.first 0 36524||(!isIn s.last 0 36524||decide (s.first>s.last))) (fun x=>?_)) ?_
  ·exact CV.mono (cv_fw X0_ok (by rfl) (c1103 x.first x.last)) (by rintro v h' ⟨rfl,rfl⟩;exact⟨rfl,rfl⟩)
  have hall:(c.closures.any fun s=>!isIn s.first 0 36524||(!isIn s.last 0 36524||decide (s.first>s.last)))=false:=by
   rw[List.any_eq_false];intro s hs;obtain⟨g1,g2,g3⟩:=ok.closures s hs;unfold isIn;simp;omega
  rw[hall];refine gZ ?_;refine t_pu (c1076 _ _) ?_;refine gZ ?_;exact t_ret ⟨rfl,rfl⟩
theorem c1078{h:LH}{n u:Int}(hn:0<=n/\n<=999)(hu:0<=u/\u<=2):Pu Tryz.prog 90 #[.agg #[n,u]] h (.int .i64 0):=by
 refine w1078 _ _ X0_ok ?_;unfold n1078;refine t_pu (c1102 _ _ _) ?_;have e1:isIn n 0 999=true:=by unfold isIn;simp[hn]
 have e2:isIn u 0 2=true:=by unfold isIn;simp[hu]
 rw[e1];refine yF ?_;refine t_pu (c1102 _ _ _) ?_;rw[e2];refine gZ ?_;refine t_pu (c1076 _ _) ?_;refine gZ ?_;exact t_ret ⟨rfl,rfl⟩
/-! ### What the laws ask of calendars -/
theorem c1038{h:LH}(f:CalC):Pu Tryz.prog 40 #[calV f] h (.bool (decide ((f.n0:Int)>20)||decide ((f.n1:Int)>20))):=by
 refine w1038 _ _ _ _ _ _ X0_ok ?_;unfold n1038;refine t_if (fun e=>?_) (fun e=>?_)
 ·exact t_ret ⟨by rw[decide_eq_true e,Bool.true_or],rfl⟩
 ·exact t_ret ⟨by rw[decide_eq_false e,Bool.false_or],rfl⟩
theorem c1039{h:LH}{f:CalC}{c:CalD}(hr:CalR h.get f c):FW X0 Tryz.prog 41 #[calV f] h fun r h'=>h=h'/\∃ g:Int,r=.int .i64 g/\(g=0->CalOk c):=by
 refine w1039 _ _ _ _ _ _ X0_ok ?_;unfold n1039;have hn:=hr.closed.1;have hb:=hr.closed.2.1;have hn1:=hr.closures.1;have hb1:=hr.closures.2.1;refine t_loopB (fun mm vs h'=>h=h'/\∃ i:Nat,vs=[.int .i64 0,.int .i64 i]/\i<=f.n0/\mm=f.n0-i/\∀ (j:Nat) v,j<i->c.closed[j]?=some v->(0<=v/\v<=6)/\∀ u,0<j->c.closed[j-1]?=some u->u<v)
  (fun vs h'=>h=h'/\∃ i:Nat,vs=[.int .i64 0,.int .i64 i]/\∀ (j:Nat) v,c.closed[j]?=some v->(0<=v/\v<=6)/\∀ u,0<j->c.closed[j-1]?=some u->u<v) ⟨rfl,0,rfl,Nat.zero_le _,rfl,fun j v hj=>absurd hj (Nat.not_lt_zero _)⟩ ?_ ?_
 ·rintro Y mm vs _ hY ⟨rfl,i,rfl,hi,rfl,hall⟩;refine yJ (fun e1=>?_) (fun e1=>?_)
  ·obtain⟨x,a,hx,ha,e2⟩:=hr.closed.at (i:=i) (by omega);unfold IntE at e2;have next:((0<=x/\x<=6)/\∀ u,0<i->c.closed[i-1]?=some u->u<x)->Y [.int .i64 0,.int .i64 (wrap .i64 ((i:Int)+1))] h:=by
    intro hok;refine hY (f.n0-(i+1)) _ _ (by omega) ⟨rfl,i+1,?_,by omega,rfl,fun j v hj hv=>?_⟩
    ·rw[wrap_id (by omega) (by omega)];rfl
    ·by_cases e:j=i
     ·subst e;rw[hx]at hv;cases hv;exact hok
     ·exact hall j v (by omega) hv
   refine gZ ?_;refine t_pu (c49 _ _ _) ?_;refine yI (fun e=>?_) (fun e=>?_)
   ·refine gI ?_;refine gZ ?_;exact t_ret ⟨rfl,1,rfl,fun e=>by cases e⟩
   have hin6:0<=x/\x<=6:=by
    unfold isIn at e;simpa using e
   refine t_if (fun e3=>?_) (fun e3=>?_)
   ·obtain⟨u,a',hu,ha',e4⟩:=hr.closed.at (i:=i-1) (by omega);unfold IntE at e4;obtain rfl:a=a':=Option.some.inj (ha.symm.trans ha');have ew:wrap .i64 ((i:Int)-1)=((i-1:Nat):Int):=by rw[wrap_id (by omega) (by omega)];omega
    rw[ew];have hin:0<=((i-1:Nat):Int)/\((i-1:Nat):Int)<(f.n0:Int):=by omega
    refine yJ (fun e5=>?_) (fun e5=>?_)
    ·refine gI ?_;refine gZ ?_;exact t_ret ⟨rfl,7,rfl,fun e=>by cases e⟩
    ·refine t_again (next ⟨hin6,fun u' _ hu'=>?_⟩);rw[hu]at hu';cases hu';omega
   ·refine gZ ?_;exact t_again (next ⟨hin6,fun u' h0 _=>by omega⟩)
  ·refine gH ⟨rfl,i,rfl,fun j v hv=>hall j v ?_ hv⟩;have:=(List.getElem?_eq_some_iff.1 hv).1;omega
 ·rintro vs _ ⟨rfl,i,rfl,hcl⟩;refine yJ (fun e1=>?_) (fun e1=>?_)
  ·exact t_ret ⟨rfl,2,rfl,fun e=>by cases e⟩
  refine t_loop (fun mm vs h'=>h=h'/\∃ j:Nat,vs=[.int .i64 0,.int .i64 j]/\j<=f.n1/\mm=f.n1-j/\∀ (k:Nat) s,k<j->c.closures[k]?=some s->0<=s.first/\s.first<=s.last/\s.last<=36524) ⟨rfl,0,rfl,Nat.zero_le _,rfl,fun k s hk=>absurd hk (Nat.not_lt_zero _)⟩ ?_;rintro Y mm vs _ hY ⟨rfl,j,rfl,hj,rfl,hall⟩;refine yJ (fun e2=>?_) (fun e2=>?_)
  ·obtain⟨x,a,hx,ha,e3,e4⟩:=hr.closures.at (i:=j) (by omega);refine gZ ?_;refine t_pu (c93 _ _ _ _) ?_;refine yI (fun e=>?_) (fun e=>?_)
   ·refine gI ?_;refine gZ ?_;exact t_ret ⟨rfl,1,rfl,fun e=>by cases e⟩
   ·have hin:0<=x.first/\x.first<=x.last/\x.last<=36524:=by simpa using e
    refine t_again (hY (f.n1-(j+1)) _ _ (by omega) ⟨rfl,j+1,?_,by omega,rfl,fun k s hk hs=>?_⟩)
    ·rw[wrap_id (by omega) (by omega)];rfl
    ·by_cases e5:k=j
     ·subst e5;rw[hx]at hs;cases hs;exact hin
     ·exact hall k s (by omega) hs
  ·refine gZ ?_;refine t_ret ⟨rfl,0,rfl,fun _=>⟨hcl,by omega,fun s hs=>?_⟩⟩;obtain⟨k,hk⟩:=List.mem_iff_getElem?.1 hs;have:=(List.getElem?_eq_some_iff.1 hk).1;exact hall k s (by omega) hk
end
end Go.Y
section
namespace Go.TM
variable {P:Program} {E:Halt->Cells->Prop} {h:Cells}
def ByteE(h:Cells)(a:Addr)(c:UInt8):Prop:=h.cell? (a.add 0)=some (.int .u8 (c.toNat:Int))
theorem freeze_upd{h:Cells}{r:Nat}{cs:Array Value}{el:TypeId}{k:Nat}:(h.upd r (true,.cells cs el (0,0))).freeze { block:=r,off:=k } 1=h.upd r (true,.cells cs el (k,k+1)):=by
 funext r';unfold Cells.freeze Cells.upd;by_cases e:r'=r
 ·subst e;simp[frzO]
 ·simp[e]
theorem lwp_bytes{Q:Value->Cells->Prop}{el:TypeId}{s:ByteArray}(hq:∀ r cap,h r=none->s.size<=cap->∀ cs:Array Value,(∀ (i:Nat) c,s.data[i]?=some c->cs[i]?=some (.int .u8 (c.toNat:Int)))->Q (.slice (some ⟨r,0,none⟩) s.size cap) (h.upd r (true,.cells cs el (cs.size,cs.size+1)))):Sem.lwp P (Conv.stringToBytes el s) Q E h:=by
 unfold Conv.stringToBytes;rw[lwp_bind];show (if _ then _ else _);split
 ·rename_i hf;simp[Question.forced]at hf
 ·intro t;simp only[lwp_bind];refine lwp_newRow fun r hr=>?_;unfold markStringish;rw[lwp_bind];refine⟨⟨_,Cells.upd_self _ _ _⟩,?_⟩;have hs:∀ (cs:Array Value),(h.upd r (true,.cells cs el (0,0))).shape? r=some (el,cs.size):=by
   intro cs;unfold Cells.shape?;rw[Cells.upd_self]
  simp only[hs];refine⟨by decide,⟨_,Cells.upd_self _ _ _,fun _=>id⟩,?_⟩;rw[freeze_upd];refine hq r _ hr (Nat.le_add_right _ _) _ fun i c hc=>?_;have hi:i<s.data.size:=(Array.getElem?_eq_some_iff.1 hc).1;rw[Array.getElem?_append_left (by simpa using hi),Array.getElem?_map,hc];rfl
variable {X:XP} {Q:Leaf->LH->Prop}
theorem t_bytes{h:LH}{K:Value->T}{src dst el:TypeId}{s:ByteArray}(h1:P.underlying src=some .string)(h2:P.underlying dst=some (.slice el))(h3:P.underlying el=some (.int .u8))(hs:s.size<4611686018427387904)
 (hk:∀ r cap h',h.le h'->Sl ByteE 1 h'.get (some ⟨r,0,none⟩) s.size s.data.toList->(K (.slice (some ⟨r,0,none⟩) s.size cap)).wp X P Q h'):(T.sem false (convert src dst (.string s)) K).wp X P Q h:=by
 refine t_sem (A:=fun w h'=>∃ r cap,w=.slice (some ⟨r,0,none⟩) s.size cap/\h.get.le h'/\Sl ByteE 1 h' (some ⟨r,0,none⟩) s.size s.data.toList) ?_ (by rintro w h' ⟨r,cap,rfl,hl,hsl⟩;exact hk r cap _ ⟨hl,rfl,rfl,rfl⟩ hsl);unfold convert;simp only[lwp_bind,lwp_underlying h1,lwp_underlying h2,lwp_underlying h3];refine lwp_bytes fun r cap hr hcap cs hcs=>⟨r,cap,rfl,Cells.le_upd _ hr,?_⟩;refine⟨by rw[Array.length_toList];rfl,by rw[Array.length_toList];exact hs,fun i c hc=>⟨_,rfl,?_⟩⟩;unfold ByteE;rw[add_plain,add_plain];simp only[Nat.zero_add,Nat.mul_one,Nat.add_zero];unfold Cells.cell?;rw[Cells.upd_self];exact hcs i c (by simpa using hc)
theorem t_indexS{h:LH}{K:Value->T}{t:TypeId}{s:ByteArray}{i:Nat}{c:UInt8}(hu:P.underlying t=some .string)(hc:s.data[i]?=some c)(hk:(K (.int .u8 (c.toNat:Int))).wp X P Q h):(T.sem false (Instr.index t (.string s) (.int .i64 (i:Int))) K).wp X P Q h:=by
 refine t_sem (A:=fun w h'=>h'=h.get/\w=.int .u8 (c.toNat:Int)) ?_ (by rintro w h' ⟨rfl,rfl⟩;exact hk);unfold Instr.index;simp only[asIntOf,lwp_bind,lwp_pure,lwp_underlying hu];have hi:i<s.size:=(Array.getElem?_eq_some_iff.1 hc).1;have h1:s[(i:Int).toNat]?=some c:=by
  rw[Int.toNat_natCast,getElem?_pos s i hi];have:=Array.getElem?_eq_getElem (xs:=s.data) (i:=i) hi;rw[this]at hc;exact hc
 rw[if_pos (by omega),h1];exact⟨rfl,rfl⟩
end Go.TM
end
namespace Go.Y
section
set_option linter.unusedVariables false
variable {X:XP} {h:LH} {A:Value->LH->Prop}
def n3140(s:ByteArray):T:=.blk (.sem false (Builtin.len_ #[9] 3 #[.string s]) fun v=>.ui v fun n=>bif n==0 then .rn [false] else .sem false (Builtin.len_ #[9] 3 #[.string s]) fun v=>.ui v fun n=>bif decide (n>10) then .rn [false] else .ag [false]) (fun vs=>.popB vs fun b vs=>.unNil vs (.loop [b,.int .i64 0] (fun vs=>.popB vs fun b vs=>.pi vs fun n vs=>.unNil vs (.sem false (Builtin.len_ #[9] 3 #[.string s]) fun v=>.ui v fun n_1=>bif decide (n<n_1) then .blk (.both (.sem false (Instr.index 9 (.string s) (.int .i64 n)) fun v=>.unI .u8 v fun n_2=>.nds [n,.val (.string s)] (.both (.cB 35 #[.int .i64 (wrap .i64 n_2),.int .i64 97,.int .i64 122] fun b=>.nds [n,.val (.string s)] (.sem false (Instr.index 9 (.string s) (.int .i64 n)) fun v=>.unI .u8 v fun n=>.cB 35 #[.int .i64 (wrap .i64 n),.int .i64 48,.int .i64 57] fun b_1=>.ag [b,b_1])) (.sem false (Instr.index 9 (.string s) (.int .i64 n)) fun v=>.unI .u8 v fun n=>.nd (.int .i64 (wrap .i64 n_2)) (.cB 35 #[.int .i64 (wrap .i64 n_2),.int .i64 97,.int .i64 122] fun b=>.nd (.int .i64 (wrap .i64 n)) (.cB 35 #[.int .i64 (wrap .i64 n),.int .i64 48,.int .i64 57] fun b_1=>.ag [b,b_1]))))) (.sem false (Instr.index 9 (.string s) (.int .i64 n)) fun v=>.unI .u8 v fun n_2=>.nds [n,.val (.string s)] (.sem false (Instr.index 9 (.string s) (.int .i64 n)) fun v=>.unI .u8 v fun n=>.nd (.int .i64 (wrap .i64 n_2)) (.cB 35 #[.int .i64 (wrap .i64 n),.int .i64 97,.int .i64 122] fun b=>.nd (.int .i64 (wrap .i64 n_2)) (.cB 35 #[.int .i64 (wrap .i64 n_2),.int .i64 48,.int .i64 57] fun b_1=>.ag [b,b_1]))))) (fun vs=>.popB vs fun b_1 vs=>.popB vs fun b_2 vs=>.unNil vs (bif !b_1 then bif !b_2 then .rn [false,n] else bif n==0 then .rn [false,n] else .ag [b,.int .i64 (wrap .i64 (n+1))] else .ag [b,.int .i64 (wrap .i64 (n+1))])) (fun vs=>.popB vs fun b_1 vs=>.popB vs fun b_2 vs=>.unNil vs (.rn [b,n])) fun x x_1=>.fail else .bk [b,n])) (fun vs=>.popB vs fun b vs=>.pi vs fun n vs=>.unNil vs (.rt (.bool true))) (fun vs=>.popB vs fun b vs=>.pi vs fun n vs=>.unNil vs (.rt (.bool b))) fun x x_1=>.fail)) (fun vs=>.popB vs fun b vs=>.unNil vs (.rt (.bool b))) fun x x_1=>.fail
theorem w3140(s:ByteArray):FX X 70 #[.string s] h A (n3140 s):=fk [] [⟨0,[(2,.bool),(3,.int .i64)],[],[],[],[]⟩] [⟨7,[(4,.bool),(5,.bool)],[],[],[],[]⟩,⟨3,[(2,.bool)],[],[],[],[]⟩] Tryz.f70
def n3239(sp:Option Addr)(sn sc:Nat)(f:Value):T:=.cI 143 #[.slice sp sn sc,f] fun n=>.rt (.bool (decide (n>=0)))
theorem w3239(sp:Option Addr)(sn sc:Nat)(f:Value):FX X 120 #[.slice sp sn sc,f] h A (n3239 sp sn sc f):=fk [] [] [] Tryz.f120
def n3247(sp:Option Addr)(sn sc:Nat)(f:Value):T:=.loop [.int .i64 0,.int .i64 0] (fun vs=>.pi vs fun n vs=>.pi vs fun n_1 vs=>.unNil vs (bif decide (n_1<(↑sn:Int)) then .need (0<=n_1/\n_1<(↑sn:Int)) (.someA sp fun a=>.loadI .u8 (a.add (n_1.toNat*1)) fun n_2=>.callv false f #[.int .u8 n_2] fun v=>.unB v fun b=>bif b then .rn [n_1,n_1] else .ag [n,.int .i64 (wrap .i64 (n_1+1))]) else .bk [n,n_1])) (fun vs=>.pi vs fun n vs=>.pi vs fun n vs=>.unNil vs (.rt (.int .i64 (-1)))) (fun vs=>.pi vs fun n vs=>.pi vs fun n_1 vs=>.unNil vs (.rt (.int .i64 n))) fun x x_1=>.fail
theorem w3247(sp:Option Addr)(sn sc:Nat)(f:Value):FX X 143 #[.slice sp sn sc,f] h A (n3247 sp sn sc f):=fk [] [⟨0,[(4,.int .i64),(8,.int .i64)],[],[],[],[]⟩] [] Tryz.f143
end
section
attribute [local irreducible] T.wp CV FWK
theorem und9:Tryz.prog.underlying 9=some .string:=by kernel_rfl
theorem und1275:Tryz.prog.underlying 193=some (.slice 5):=by kernel_rfl
theorem undU8:Tryz.prog.underlying 5=some (.int .u8):=by kernel_rfl
/-! ### Names -/
theorem letter_in(c:UInt8):isIn (c.toNat:Int) 97 122=letterB c:=by
 unfold isIn letterB;congr 1<;>rw[decide_eq_decide]<;>omega
theorem digit_in(c:UInt8):isIn (c.toNat:Int) 48 57=digitB c:=by
 unfold isIn digitB;congr 1<;>rw[decide_eq_decide]<;>omega
theorem byte_lt(c:UInt8):c.toNat<256:=c.toNat_lt
theorem c3247{h:LH}{p:Option Addr}{n c:Nat}{l:List UInt8}{fv:Value}{g:UInt8->Bool}(hl:Sl ByteE 1 h.get p n l)(hf:∀ x:UInt8,CV X0 Tryz.prog fv #[.int .u8 (x.toNat:Int)] h fun r h'=>r=.bool (g x)/\h'=h) :
  Pu Tryz.prog 143 #[.slice p n c,fv] h (.int .i64 (placeF g 0 l)):=by
 refine w3247 _ _ _ _ X0_ok ?_;unfold n3247;have hn:=hl.1;have hb:=hl.2.1;refine t_loop (fun m vs h'=>h'=h/\∃ i:Nat,vs=[.int .i64 0,.int .i64 i]/\i<=n/\m=n-i/\placeF g 0 l=placeF g i (l.drop i)) ⟨rfl,0,rfl,Nat.zero_le _,rfl,rfl⟩ ?_;rintro Y m vs _ hY ⟨rfl,i,rfl,hi,rfl,hc⟩;refine yJ (fun e1=>?_) (fun e1=>?_)
 ·obtain⟨x,a,hx,ha,e2⟩:=hl.at (i:=i) (by omega);unfold ByteE at e2;refine gZ ?_;refine t_callv (hf x) ?_;rintro _ _ ⟨rfl,rfl⟩;refine gZ ?_;rw[drop_of hx,placeF]at hc;refine t_cond (fun e3=>?_) (fun e3=>?_)
  ·refine gZ ?_;refine t_ret ⟨?_,rfl⟩;rw[hc,if_pos e3]
  ·refine t_again (hY (n-(i+1)) _ _ (by omega) ⟨rfl,i+1,?_,by omega,rfl,?_⟩)
   ·rw[wrap_id (by omega) (by omega)];rfl
   ·rw[hc,if_neg (by simp[e3])]
 ·refine gZ ?_;refine t_ret ⟨?_,rfl⟩;rw[hc,List.drop_eq_nil_of_le (by omega)];rfl
theorem c3239{h:LH}{p:Option Addr}{n c:Nat}{l:List UInt8}{fv:Value}{g:UInt8->Bool}(hl:Sl ByteE 1 h.get p n l)(hf:∀ x:UInt8,CV X0 Tryz.prog fv #[.int .u8 (x.toNat:Int)] h fun r h'=>r=.bool (g x)/\h'=h) :
  Pu Tryz.prog 120 #[.slice p n c,fv] h (.bool (l.any g)):=by
 refine w3239 _ _ _ _ X0_ok ?_;unfold n3239;refine t_pu (c3247 hl hf) ?_;refine gZ ?_;refine t_ret ⟨?_,rfl⟩;rw[placeF_ge]
theorem c3140{h:LH}(s:ByteArray):FW X0 Tryz.prog 70 #[.string s] h fun r h'=>h=h'/\∃ b,r=.bool b/\(b=true->NameOk s):=by
 refine w3140 _ X0_ok ?_;unfold n3140;refine t_blk (fun vs h'=>vs=[.bool false]/\h=h'/\1<=s.size/\s.size<=10) ?_ ?_
 ·refine t_lenStr und9 ?_;refine yI (fun _=>?_) (fun e1=>?_)
  ·refine gI ?_;refine gZ ?_;exact t_ret ⟨rfl,false,rfl,fun e=>by cases e⟩
  refine t_lenStr und9 ?_;refine yJ (fun _=>?_) (fun e2=>?_)
  ·refine gI ?_;refine gZ ?_;exact t_ret ⟨rfl,false,rfl,fun e=>by cases e⟩
  ·refine t_again ⟨rfl,rfl,?_,by omega⟩;have:¬ s.size=0:=by simpa using e1
   omega
 rintro vs _ ⟨rfl,rfl,hs1,hs2⟩;refine gZ ?_;refine t_loop (fun mm vs h'=>h=h'/\∃ i:Nat,vs=[.bool false,.int .i64 i]/\i<=s.size/\mm=s.size-i/\∀ (j:Nat) c,j<i->s.data[j]?=some c->letterB c=true\/(digitB c=true/\j≠0)) ⟨rfl,0,rfl,Nat.zero_le _,rfl,fun j c hj=>absurd hj (Nat.not_lt_zero _)⟩ ?_;rintro Y mm vs _ hY ⟨rfl,i,rfl,hi,rfl,hall⟩;refine gZ ?_;refine t_lenStr und9 ?_;refine yJ (fun e1=>?_) (fun e1=>?_)
 ·have hlt:i<s.data.size:=by show i<s.size;omega
  have hc:=Array.getElem?_eq_getElem (xs:=s.data) (i:=i) hlt;generalize s.data[i]=c at hc;have hw:wrap .i64 (c.toNat:Int)=(c.toNat:Int):=wrap_id (by omega) (by have:=byte_lt c;omega);have i1:=letter_in c;have i2:=digit_in c;have next:(letterB c=true\/(digitB c=true/\i≠0))->Y [.bool false,.int .i64 (wrap .i64 ((i:Int)+1))] h:=fun hok=>by
   refine hY (s.size-(i+1)) _ _ (by omega) ⟨rfl,i+1,?_,by omega,rfl,fun j c' hj hc'=>?_⟩
   ·rw[wrap_id (by omega) (by omega)];rfl
   ·by_cases e:j=i
    ·subst e;rw[hc]at hc';cases hc';exact hok
    ·exact hall j c' (by omega) hc'
  refine t_blk (fun vs h'=>vs=[.bool (letterB c),.bool (digitB c)]/\h=h') ?_ ?_
  ·refine t_both ?_ ?_
   ·refine t_indexS und9 hc ?_;refine gZ ?_;refine t_both ?_ ?_
    ·rw[hw];refine t_pu (c49 _ _ _) ?_;rw[i1];refine gZ ?_;refine t_indexS und9 hc ?_;refine gZ ?_;rw[hw];refine t_pu (c49 _ _ _) ?_;rw[i2];refine gZ ?_;exact t_again ⟨rfl,rfl⟩
    ·refine t_indexS und9 hc ?_;refine gZ ?_;rw[hw];refine t_pu (c49 _ _ _) ?_;rw[i1];refine gZ ?_;refine t_pu (c49 _ _ _) ?_;rw[i2];refine gZ ?_;exact t_again ⟨rfl,rfl⟩
   ·refine t_indexS und9 hc ?_;refine gZ ?_;refine t_indexS und9 hc ?_;refine gZ ?_;rw[hw];refine t_pu (c49 _ _ _) ?_;rw[i1];refine gZ ?_;refine t_pu (c49 _ _ _) ?_;rw[i2];refine gZ ?_;exact t_again ⟨rfl,rfl⟩
  rintro vs _ ⟨rfl,rfl⟩;refine yI (fun b1=>?_) (fun b1=>?_)
  ·refine t_cond (fun _=>?_) (fun b2=>?_)
   ·refine gI ?_;refine gZ ?_;exact t_ret ⟨rfl,false,rfl,fun e=>by cases e⟩
   refine t_cond (fun _=>?_) (fun b3=>?_)
   ·refine gI ?_;refine gZ ?_;exact t_ret ⟨rfl,false,rfl,fun e=>by cases e⟩
   ·refine t_again (next (.inr ⟨by simpa using b2,?_⟩));intro e0;subst e0;simp at b3
  ·exact t_again (next (.inl (by simpa using b1)))
 ·refine gZ ?_;refine t_ret ⟨rfl,true,rfl,fun _=>⟨⟨hs1,hs2⟩,fun j c hc=>hall j c ?_ hc⟩⟩;have:j<s.data.size:=(Array.getElem?_eq_some_iff.1 hc).1;have h2:s.data.size=s.size:=rfl;omega
end
section
set_option linter.unusedVariables false
variable {X:XP} {h:LH} {A:Value->LH->Prop}
def n3301(x_0p:Option Addr)(x_0n x_0c:Nat)(x_1p:Option Addr)(x_1n x_1c:Nat)(x_2 x_3 x_4 x_5 x_6 x_7 x_8 x_9 x_10 x_11 x_12 x_13:Int)(x_14p:Option Addr)(x_14n x_14c:Nat):T:=.cB 14 #[.agg #[.slice x_0p x_0n x_0c,.slice x_1p x_1n x_1c,x_2,x_3,x_4,x_5,x_6,x_7,x_8,x_9,x_10,x_11,x_12,x_13,.slice x_14p x_14n x_14c]] fun b=>bif !b then .cI 15 #[.agg #[.slice x_0p x_0n x_0c,.slice x_1p x_1n x_1c,x_2,x_3,x_4,x_5,x_6,x_7,x_8,x_9,x_10,x_11,x_12,x_13,.slice x_14p x_14n x_14c]] fun n=>bif n==0 then .rt (.bool (decide ((↑x_14n:Int)>0))) else .rt (.bool false) else .rt (.bool false)
theorem w3301(x_0p:Option Addr)(x_0n x_0c:Nat)(x_1p:Option Addr)(x_1n x_1c:Nat)(x_2 x_3 x_4 x_5 x_6 x_7 x_8 x_9 x_10 x_11 x_12 x_13:Int)(x_14p:Option Addr)(x_14n x_14c:Nat):FX X 5 #[.agg #[.slice x_0p x_0n x_0c,.slice x_1p x_1n x_1c,x_2,x_3,x_4,x_5,x_6,x_7,x_8,x_9,x_10,x_11,x_12,x_13,.slice x_14p x_14n x_14c]] h A (n3301 x_0p x_0n x_0c x_1p x_1n x_1c x_2 x_3 x_4 x_5 x_6 x_7 x_8 x_9 x_10 x_11 x_12 x_13 x_14p x_14n x_14c):=fk [1] [] [] Tryz.f5
def n3305(x_0p:Option Addr)(x_0n x_0c:Nat)(x_1p:Option Addr)(x_1n x_1c:Nat)(x_2 x_3 x_4 x_5 x_6 x_7 x_8 x_9 x_10 x_11 x_12 x_13:Int)(x_14p:Option Addr)(x_14n x_14c:Nat):T:=.blk (.cB 40 #[.agg #[.slice x_0p x_0n x_0c,.slice x_1p x_1n x_1c]] fun b=>bif b then .rn [true] else bif decide ((↑x_14n:Int)>20) then .rn [true] else .ag [false]) (fun vs=>.popB vs fun b vs=>.unNil vs (.loop [b,.int .i64 0] (fun vs=>.popB vs fun b vs=>.pi vs fun n vs=>.unNil vs (bif decide (n<(↑x_14n:Int)) then .need (0<=n/\n<(↑x_14n:Int)) (.someA x_14p fun a=>.loadStr ((a.add (n.toNat*4)).add 0) fun s=>.loadS ((a.add (n.toNat*4)).add 1) fun p n_1 c=>.loadS ((a.add (n.toNat*4)).add 2) fun p n_2 c=>.loadS ((a.add (n.toNat*4)).add 3) fun p_1 n_3 c=>.blk (.sem false (Builtin.len_ #[9] 3 #[.string s]) fun v=>.ui v fun n=>bif decide (n>100) then .rn [true] else bif decide ((↑n_1:Int)>20) then .rn [true] else bif decide ((↑n_2:Int)>20) then .rn [true] else bif decide ((↑n_3:Int)>20) then .rn [true] else .ag [b]) (fun vs=>.popB vs fun b vs=>.unNil vs (.loop [b,.int .i64 0] (fun vs=>.popB vs fun b vs=>.pi vs fun n vs=>.unNil vs (bif decide (n<(↑n_2:Int)) then .need (0<=n/\n<(↑n_2:Int)) (.someA p fun a=>.loadS ((a.add (n.toNat*3)).add 2) fun p n_4 c=>bif decide ((↑n_4:Int)>20) then .rn [true,n] else .ag [b,.int .i64 (wrap .i64 (n+1))]) else .bk [b,n])) (fun vs=>.popB vs fun b vs=>.pi vs fun n_4 vs=>.unNil vs (.ag [b,.int .i64 (wrap .i64 (n+1))])) (fun vs=>.popB vs fun b vs=>.pi vs fun n_4 vs=>.unNil vs (.rn [b,n])) fun x x_1=>.fail)) (fun vs=>.popB vs fun b vs=>.unNil vs (.rn [b,n])) fun x x_1=>.fail) else .bk [b,n])) (fun vs=>.popB vs fun b vs=>.pi vs fun n vs=>.unNil vs (.rt (.bool false))) (fun vs=>.popB vs fun b vs=>.pi vs fun n vs=>.unNil vs (.rt (.bool b))) fun x x_1=>.fail)) (fun vs=>.popB vs fun b vs=>.unNil vs (.rt (.bool b))) fun x x_1=>.fail
theorem w3305(x_0p:Option Addr)(x_0n x_0c:Nat)(x_1p:Option Addr)(x_1n x_1c:Nat)(x_2 x_3 x_4 x_5 x_6 x_7 x_8 x_9 x_10 x_11 x_12 x_13:Int)(x_14p:Option Addr)(x_14n x_14c:Nat):FX X 14 #[.agg #[.slice x_0p x_0n x_0c,.slice x_1p x_1n x_1c,x_2,x_3,x_4,x_5,x_6,x_7,x_8,x_9,x_10,x_11,x_12,x_13,.slice x_14p x_14n x_14c]] h A (n3305 x_0p x_0n x_0c x_1p x_1n x_1c x_2 x_3 x_4 x_5 x_6 x_7 x_8 x_9 x_10 x_11 x_12 x_13 x_14p x_14n x_14c):=fk [1,4] [⟨2,[(2,.bool),(5,.int .i64)],[1,4],[],[],[]⟩,⟨0,[(2,.bool),(3,.int .i64)],[1],[],[],[]⟩] [⟨9,[(2,.bool)],[1,4],[],[],[]⟩,⟨3,[(2,.bool)],[1],[],[],[]⟩] Tryz.f14
def n3306(x_0p:Option Addr)(x_0n x_0c:Nat)(x_1p:Option Addr)(x_1n x_1c:Nat)(x_2 x_3 x_4 x_5 x_6 x_7 x_8 x_9 x_10 x_11 x_12 x_13:Int)(x_14p:Option Addr)(x_14n x_14c:Nat):T:=.cI 41 #[.agg #[.slice x_0p x_0n x_0c,.slice x_1p x_1n x_1c]] fun n=>bif n != 0 then .rt (.int .i64 n) else .cB 35 #[x_2,.int .i64 1,.int .i64 4] fun b=>bif !b then .rt (.int .i64 1) else .sem false (Instr.buildSlice 103 5 #[(0,.agg #[x_3,x_4]),(1,.agg #[x_5,x_6]),(2,.agg #[x_7,x_8]),(3,.agg #[x_9,x_10]),(4,.agg #[x_11,x_12])]) fun v=>.unS v fun a n c=>.loop [.int .i64 0,.int .i64 0] (fun vs=>.pi vs fun n_1 vs=>.pi vs fun n_2 vs=>.unNil vs (bif decide (n_2<(↑n:Int)) then .need (0<=n_2/\n_2<(↑n:Int)) (.someA a fun a=>.li ((a.add (n_2.toNat*2)).add 0) fun n=>.li ((a.add (n_2.toNat*2)).add 1) fun n_3=>.cI 42 #[.agg #[n,n_3]] fun n=>bif n != 0 then .rn [n,n_2] else .ag [n_1,.int .i64 (wrap .i64 (n_2+1))]) else .bk [n_1,n_2])) (fun vs=>.pi vs fun n vs=>.pi vs fun n_1 vs=>.unNil vs (.cB 35 #[x_13,.int .i64 0,.int .i64 5] fun b=>bif !b then .rt (.int .i64 1) else bif decide ((↑x_14n:Int)>4) then .rt (.int .i64 2) else .loop [n,.int .i64 0] (fun vs=>.pi vs fun n vs=>.pi vs fun n_2 vs=>.unNil vs (bif decide (n_2<(↑x_14n:Int)) then .cI 43 #[.agg #[.slice x_0p x_0n x_0c,.slice x_1p x_1n x_1c,x_2,x_3,x_4,x_5,x_6,x_7,x_8,x_9,x_10,x_11,x_12,x_13,.slice x_14p x_14n x_14c],n_2] fun n_3=>bif n_3 != 0 then .rn [n_3,n_2] else .ag [n,.int .i64 (wrap .i64 (n_2+1))] else .bk [n,n_2])) (fun vs=>.pi vs fun n vs=>.pi vs fun n vs=>.unNil vs (.rt (.int .i64 0))) (fun vs=>.pi vs fun n vs=>.pi vs fun n_2 vs=>.unNil vs (.rt (.int .i64 n))) fun x x_1=>.fail)) (fun vs=>.pi vs fun n vs=>.pi vs fun n_1 vs=>.unNil vs (.rt (.int .i64 n))) fun x x_1=>.fail
theorem w3306(x_0p:Option Addr)(x_0n x_0c:Nat)(x_1p:Option Addr)(x_1n x_1c:Nat)(x_2 x_3 x_4 x_5 x_6 x_7 x_8 x_9 x_10 x_11 x_12 x_13:Int)(x_14p:Option Addr)(x_14n x_14c:Nat):FX X 15 #[.agg #[.slice x_0p x_0n x_0c,.slice x_1p x_1n x_1c,x_2,x_3,x_4,x_5,x_6,x_7,x_8,x_9,x_10,x_11,x_12,x_13,.slice x_14p x_14n x_14c]] h A (n3306 x_0p x_0n x_0c x_1p x_1n x_1c x_2 x_3 x_4 x_5 x_6 x_7 x_8 x_9 x_10 x_11 x_12 x_13 x_14p x_14n x_14c):=fk [1] [⟨0,[(2,.int .i64),(5,.int .i64)],[1],[],[],[]⟩,⟨2,[(2,.int .i64),(7,.int .i64)],[1],[],[],[]⟩] [] Tryz.f15
def n3311(t_0 t_1:Int):T:=.cB 35 #[t_0,.int .i64 0,.int .i64 999] fun b=>bif !b then .rt (.int .i64 1) else bif decide (t_1<0) then .rt (.int .i64 1) else bif decide (t_1>2) then .rt (.int .i64 1) else .rt (.int .i64 0)
theorem w3311(t_0 t_1:Int):FX X 42 #[.agg #[t_0,t_1]] h A (n3311 t_0 t_1):=fk [1] [] [] Tryz.f42
def n3312(x_0p:Option Addr)(x_0n x_0c:Nat)(x_1p:Option Addr)(x_1n x_1c:Nat)(x_2 x_3 x_4 x_5 x_6 x_7 x_8 x_9 x_10 x_11 x_12 x_13:Int)(x_14p:Option Addr)(x_14n x_14c:Nat)(i:Int):T:=.need (0<=i/\i<(↑x_14n:Int)) (.someA x_14p fun a=>.loadStr ((a.add (i.toNat*4)).add 0) fun s=>.loadS ((a.add (i.toNat*4)).add 1) fun p n c=>.loadS ((a.add (i.toNat*4)).add 2) fun p_1 n_1 c_1=>.loadS ((a.add (i.toNat*4)).add 3) fun p_2 n_2 c_2=>.cB 70 #[.string s] fun b=>bif !b then .rt (.int .i64 4) else .loop [.int .i64 0,.int .i64 0] (fun vs=>.pi vs fun n vs=>.pi vs fun n_3 vs=>.unNil vs (bif decide (n_3<i) then .need (0<=n_3/\n_3<(↑x_14n:Int)) (.someA x_14p fun a=>.loadStr ((a.add (n_3.toNat*4)).add 0) fun s_1=>.sem false (Sem.bind (eqGuard BinOp.eql 9 (Operand.tmp 28) (Operand.tmp 30) (.string s_1) (.string s)) fun __r=>binOp BinOp.eql 9 (.string s_1) (.string s)) fun v=>.unB v fun b=>.nds [.pp 5 0,.val (.pointer (some ((a.add (n_3.toNat*4)).add 0)))] (.need (0<=n_3/\n_3<(↑x_14n:Int)) (.someA x_14p fun a_1=>.ne (.pointer (some (a_1.add (n_3.toNat*4)))) (.pointer (some (a.add (n_3.toNat*4)))) (.nds [n_3,.S x_14p x_14n x_14c,.pp 2 14] (bif b then .rn [.int .i64 5,n_3] else .ag [n,.int .i64 (wrap .i64 (n_3+1))]))))) else .bk [n,n_3])) (fun vs=>.pi vs fun n_3 vs=>.pi vs fun n_4 vs=>.unNil vs (.cI 71 #[.slice p n c] fun n=>bif n != 0 then .rt (.int .i64 n) else .cI 72 #[.agg #[.slice x_0p x_0n x_0c,.slice x_1p x_1n x_1c,x_2,x_3,x_4,x_5,x_6,x_7,x_8,x_9,x_10,x_11,x_12,x_13,.slice x_14p x_14n x_14c],.slice p_1 n_1 c_1] fun n=>bif n != 0 then .rt (.int .i64 n) else .cI 73 #[.slice p_2 n_2 c_2] fun n=>.rt (.int .i64 n))) (fun vs=>.pi vs fun n vs=>.pi vs fun n_3 vs=>.unNil vs (.rt (.int .i64 n))) fun x x_1=>.fail)
theorem w3312(x_0p:Option Addr)(x_0n x_0c:Nat)(x_1p:Option Addr)(x_1n x_1c:Nat)(x_2 x_3 x_4 x_5 x_6 x_7 x_8 x_9 x_10 x_11 x_12 x_13:Int)(x_14p:Option Addr)(x_14n x_14c:Nat)(i:Int):FX X 43 #[.agg #[.slice x_0p x_0n x_0c,.slice x_1p x_1n x_1c,x_2,x_3,x_4,x_5,x_6,x_7,x_8,x_9,x_10,x_11,x_12,x_13,.slice x_14p x_14n x_14c],i] h A (n3312 x_0p x_0n x_0c x_1p x_1n x_1c x_2 x_3 x_4 x_5 x_6 x_7 x_8 x_9 x_10 x_11 x_12 x_13 x_14p x_14n x_14c i):=fk [2,5] [⟨0,[(4,.int .i64),(6,.int .i64)],[2,5],[],[],[]⟩] [] Tryz.f43
def n3321(lp:Option Addr)(ln lc:Nat):T:=bif decide ((↑ln:Int)>8) then .rt (.int .i64 2) else .loop [.int .i64 0,.int .i64 0] (fun vs=>.pi vs fun n vs=>.pi vs fun n_1 vs=>.unNil vs (bif decide (n_1<(↑ln:Int)) then .need (0<=n_1/\n_1<(↑ln:Int)) (.someA lp fun a=>.li ((a.add (n_1.toNat*2)).add 0) fun n_2=>.cB 35 #[n_2,.int .i64 0,.int .i64 3] fun b=>bif !b then .rn [.int .i64 1,n_1] else .need (0<=n_1/\n_1<(↑ln:Int)) (.someA lp fun a=>.li ((a.add (n_1.toNat*2)).add 1) fun n_3=>.cB 113 #[n_3] fun b=>bif !b then .rn [.int .i64 1,n_1] else .ag [n,.int .i64 (wrap .i64 (n_1+1))])) else .bk [n,n_1])) (fun vs=>.pi vs fun n vs=>.pi vs fun n vs=>.unNil vs (.rt (.int .i64 0))) (fun vs=>.pi vs fun n vs=>.pi vs fun n_1 vs=>.unNil vs (.rt (.int .i64 n))) fun x x_1=>.fail
theorem w3321(lp:Option Addr)(ln lc:Nat):FX X 71 #[.slice lp ln lc] h A (n3321 lp ln lc):=fk [] [⟨0,[(2,.int .i64),(3,.int .i64)],[],[],[],[]⟩] [] Tryz.f71
def n3322(x_0p:Option Addr)(x_0n x_0c:Nat)(x_1p:Option Addr)(x_1n x_1c:Nat)(x_2 x_3 x_4 x_5 x_6 x_7 x_8 x_9 x_10 x_11 x_12 x_13:Int)(x_14p:Option Addr)(x_14n x_14c:Nat)(lp:Option Addr)(ln lc:Nat):T:=bif decide ((↑ln:Int)>4) then .rt (.int .i64 2) else .loop [.int .i64 0,.int .i64 0] (fun vs=>.pi vs fun n vs=>.pi vs fun n_1 vs=>.unNil vs (bif decide (n_1<(↑ln:Int)) then .blk (.need (0<=n_1/\n_1<(↑ln:Int)) (.someA lp fun a=>.li ((a.add (n_1.toNat*3)).add 0) fun n_2=>.cB 113 #[n_2] fun b=>bif !b then .rn [.int .i64 1] else .need (0<=n_1/\n_1<(↑ln:Int)) (.someA lp fun a=>.li ((a.add (n_1.toNat*3)).add 1) fun n_3=>.cB 113 #[n_3] fun b=>bif !b then .rn [.int .i64 1] else .ag [n]))) (fun vs=>.pi vs fun n vs=>.unNil vs (.loop [n,.int .i64 0] (fun vs=>.pi vs fun n vs=>.pi vs fun n_2 vs=>.unNil vs (.need (0<=n_1/\n_1<(↑ln:Int)) (.someA lp fun a=>.loadS ((a.add (n_1.toNat*3)).add 2) fun p n_3 c=>bif decide (n_2<(↑n_3:Int)) then .need (0<=n_1/\n_1<(↑ln:Int)) (.someA lp fun a=>.loadS ((a.add (n_1.toNat*3)).add 2) fun p n_4 c=>.need (0<=n_2/\n_2<(↑n_4:Int)) (.someA p fun a_1=>.li (a_1.add (n_2.toNat*1)) fun n_5=>.cB 35 #[n_5,.int .i64 0,.int .i64 (wrap .i64 (x_13-1))] fun b=>.nds [x_13,.pp 2 13] (.need (0<=n_2/\n_2<(↑n_4:Int)) (.someA p fun a_2=>.ne (.pointer (some (a_2.add (n_2.toNat*1)))) (.pointer (some (a_1.add (n_2.toNat*1)))) (.nd n_2 (.loadS ((a.add (n_1.toNat*3)).add 2) fun p_1 n_6 c_1=>.ne (.slice p_1 n_6 c_1) (.slice p n_4 c) (.nd (.pointer (some ((a.add (n_1.toNat*3)).add 2))) (.need (0<=n_1/\n_1<(↑ln:Int)) (.someA lp fun a_3=>.ne (.pointer (some (a_3.add (n_1.toNat*3)))) (.pointer (some (a.add (n_1.toNat*3)))) (.nds [n_1,.S lp ln lc] (bif !b then .rn [.int .i64 6,n_2] else bif decide (n_2>0) then .need (0<=n_1/\n_1<(↑ln:Int)) (.someA lp fun a=>.loadS ((a.add (n_1.toNat*3)).add 2) fun p n_7 c=>.need (0<=n_2/\n_2<(↑n_7:Int)) (.someA p fun a=>.li (a.add (n_2.toNat*1)) fun n_8=>.need (0<=n_1/\n_1<(↑ln:Int)) (.someA lp fun a=>.loadS ((a.add (n_1.toNat*3)).add 2) fun p n_9 c=>.need (0<=wrap .i64 (n_2-1)/\wrap .i64 (n_2-1)<(↑n_9:Int)) (.someA p fun a=>.li (a.add ((wrap .i64 (n_2-1)).toNat*1)) fun n_10=>bif decide (n_8<=n_10) then .rn [.int .i64 7,n_2] else .ag [n,.int .i64 (wrap .i64 (n_2+1))])))) else .nds [.U,.U,.U,.U,.U,.U,.U,.U,.U,.U,.U,.U,.U,.B (decide (n_2>0)),n_2,.U,.U,.U,.U,.U,.U,.U,.U,.U,.U,.U,.U,.U,.B (decide (n_2>0)),n_2] (.ag [n,.int .i64 (wrap .i64 (n_2+1))])))))))))))) else .bk [n,n_2]))) (fun vs=>.pi vs fun n vs=>.pi vs fun n_2 vs=>.unNil vs (.ag [n,.int .i64 (wrap .i64 (n_1+1))])) (fun vs=>.pi vs fun n vs=>.pi vs fun n_2 vs=>.unNil vs (.rn [n,n_1])) fun x x_1=>.fail)) (fun vs=>.pi vs fun n vs=>.unNil vs (.rn [n,n_1])) fun x x_1=>.fail else .bk [n,n_1])) (fun vs=>.pi vs fun n vs=>.pi vs fun n vs=>.unNil vs (.rt (.int .i64 0))) (fun vs=>.pi vs fun n vs=>.pi vs fun n_1 vs=>.unNil vs (.rt (.int .i64 n))) fun x x_1=>.fail
theorem w3322(x_0p:Option Addr)(x_0n x_0c:Nat)(x_1p:Option Addr)(x_1n x_1c:Nat)(x_2 x_3 x_4 x_5 x_6 x_7 x_8 x_9 x_10 x_11 x_12 x_13:Int)(x_14p:Option Addr)(x_14n x_14c:Nat)(lp:Option Addr)(ln lc:Nat):FX X 72 #[.agg #[.slice x_0p x_0n x_0c,.slice x_1p x_1n x_1c,x_2,x_3,x_4,x_5,x_6,x_7,x_8,x_9,x_10,x_11,x_12,x_13,.slice x_14p x_14n x_14c],.slice lp ln lc] h A (n3322 x_0p x_0n x_0c x_1p x_1n x_1c x_2 x_3 x_4 x_5 x_6 x_7 x_8 x_9 x_10 x_11 x_12 x_13 x_14p x_14n x_14c lp ln lc):=fk [2] [⟨2,[(4,.int .i64),(6,.int .i64)],[2],[],[],[]⟩,⟨0,[(4,.int .i64),(5,.int .i64)],[2],[],[],[]⟩] [⟨8,[(4,.int .i64)],[2],[],[],[]⟩] Tryz.f72
def n3323(lp:Option Addr)(ln lc:Nat):T:=bif decide ((↑ln:Int)>4) then .rt (.int .i64 2) else .loop [.int .i64 0,.int .i64 0] (fun vs=>.pi vs fun n vs=>.pi vs fun n_1 vs=>.unNil vs (bif decide (n_1<(↑ln:Int)) then .need (0<=n_1/\n_1<(↑ln:Int)) (.someA lp fun a=>.li ((a.add (n_1.toNat*6)).add 0) fun n_2=>.cB 113 #[n_2] fun b=>bif !b then .rn [.int .i64 1,n_1] else .need (0<=n_1/\n_1<(↑ln:Int)) (.someA lp fun a=>.li (((a.add (n_1.toNat*6)).add 1).add 0) fun n_3=>.li (((a.add (n_1.toNat*6)).add 1).add 1) fun n_4=>.cI 42 #[.agg #[n_3,n_4]] fun n_5=>bif n_5 != 0 then .rn [n_5,n_1] else .need (0<=n_1/\n_1<(↑ln:Int)) (.someA lp fun a=>.li ((a.add (n_1.toNat*6)).add 3) fun n_6=>.cB 114 #[n_6] fun b=>bif !b then .rn [.int .i64 1,n_1] else .need (0<=n_1/\n_1<(↑ln:Int)) (.someA lp fun a=>.li ((a.add (n_1.toNat*6)).add 4) fun n_7=>.cB 114 #[n_7] fun b=>bif !b then .rn [.int .i64 1,n_1] else .need (0<=n_1/\n_1<(↑ln:Int)) (.someA lp fun a=>.li ((a.add (n_1.toNat*6)).add 5) fun n_8=>.cB 114 #[n_8] fun b=>bif !b then .rn [.int .i64 1,n_1] else .ag [n,.int .i64 (wrap .i64 (n_1+1))]))))) else .bk [n,n_1])) (fun vs=>.pi vs fun n vs=>.pi vs fun n vs=>.unNil vs (.rt (.int .i64 0))) (fun vs=>.pi vs fun n vs=>.pi vs fun n_1 vs=>.unNil vs (.rt (.int .i64 n))) fun x x_1=>.fail
theorem w3323(lp:Option Addr)(ln lc:Nat):FX X 73 #[.slice lp ln lc] h A (n3323 lp ln lc):=fk [] [⟨0,[(2,.int .i64),(3,.int .i64)],[],[],[],[]⟩] [] Tryz.f73
def n3338(n:Int):T:=.cB 35 #[n,.int .i64 0,.int .i64 36524] fun b=>.rt (.bool b)
theorem w3338(n:Int):FX X 113 #[n] h A (n3338 n):=fk [] [] [] Tryz.f113
def n3339(n:Int):T:=bif n==-1 then .rt (.bool true) else .cB 113 #[n] fun b=>.rt (.bool b)
theorem w3339(n:Int):FX X 114 #[n] h A (n3339 n):=fk [] [] [] Tryz.f114
end
section
attribute [local irreducible] T.wp CV FWK
theorem dayOk_of{n:Int}(h:isIn n 0 36524=true):DayOk n:=by
 unfold isIn at h;simpa[DayOk] using h
theorem c3338{h:LH}(n:Int):Pu Tryz.prog 113 #[n] h (.bool (isIn n 0 36524)):=by
 refine w3338 _ X0_ok ?_;unfold n3338;refine t_pu (c49 _ _ _) ?_;refine gZ ?_;exact t_ret ⟨rfl,rfl⟩
def doneB(n:Int):Bool:=decide (n = -1)||isIn n 0 36524
theorem doneOk_of{n:Int}(h:doneB n=true):DoneOk n:=by
 unfold doneB at h;rw[Bool.or_eq_true]at h;rcases h with h|h
 ·exact .inl (by simpa using h)
 ·exact .inr (dayOk_of h)
theorem c3339{h:LH}(n:Int):Pu Tryz.prog 114 #[n] h (.bool (doneB n)):=by
 refine w3339 _ X0_ok ?_;unfold n3339;refine t_cond (fun e=>?_) (fun e=>?_)
 ·have e':n = -1:=by simpa using e
  exact t_ret ⟨by simp[doneB,e'],rfl⟩
 ·have e':¬ n = -1:=by simpa using e
  refine t_pu (c3338 _) ?_;refine gZ ?_;exact t_ret ⟨by simp[doneB,e'],rfl⟩
theorem c3311{h:LH}(a b:Int):FW X0 Tryz.prog 42 #[.agg #[a,b]] h fun r h'=>h=h'/\∃ g:Int,r=.int .i64 g/\(g=0->TermOk ⟨a,b⟩):=by
 refine w3311 _ _ X0_ok ?_;unfold n3311;refine t_pu (c49 _ _ _) ?_;refine yI (fun e=>?_) (fun e=>?_)
 ·exact t_ret ⟨rfl,1,rfl,fun e=>by cases e⟩
 have e0:0<=a/\a<=999:=by
  unfold isIn at e;simpa using e
 refine t_if (fun e1=>?_) (fun e1=>?_)
 ·exact t_ret ⟨rfl,1,rfl,fun e=>by cases e⟩
 refine t_if (fun e2=>?_) (fun e2=>?_)
 ·exact t_ret ⟨rfl,1,rfl,fun e=>by cases e⟩
 ·exact t_ret ⟨rfl,0,rfl,fun _=>⟨e0,by show 0<=b/\b<=2;omega⟩⟩
theorem c3321{h:LH}{p:Option Addr}{n c:Nat}{l:List DPaper}(hl:Sl DPaperE 2 h.get p n l):FW X0 Tryz.prog 71 #[.slice p n c] h fun r h'=>h=h'/\∃ g:Int,r=.int .i64 g/\(g=0->l.length<=8/\∀ x∈l,(0<=x.kind/\x.kind<=3)/\DayOk x.day):=by
 refine w3321 _ _ _ X0_ok ?_;unfold n3321;have hn:=hl.1;have hb:=hl.2.1;refine t_if (fun e=>?_) (fun e=>?_)
 ·exact t_ret ⟨rfl,2,rfl,fun e=>by cases e⟩
 refine t_loop (fun mm vs h'=>h=h'/\∃ i:Nat,vs=[.int .i64 0,.int .i64 i]/\i<=n/\mm=n-i/\∀ (j:Nat) x,j<i->l[j]?=some x->(0<=x.kind/\x.kind<=3)/\DayOk x.day) ⟨rfl,0,rfl,Nat.zero_le _,rfl,fun j x hj=>absurd hj (Nat.not_lt_zero _)⟩ ?_;rintro Y mm vs _ hY ⟨rfl,i,rfl,hi,rfl,hall⟩;refine yJ (fun e1=>?_) (fun e1=>?_)
 ·obtain⟨x,a,hx,ha,e2,e3⟩:=hl.at (i:=i) (by omega);refine gZ ?_;refine t_pu (c49 _ _ _) ?_;refine yI (fun _=>?_) (fun b1=>?_)
  ·refine gI ?_;refine gZ ?_;exact t_ret ⟨rfl,1,rfl,fun e=>by cases e⟩
  refine gZ ?_;refine t_pu (c3338 _) ?_;refine yI (fun _=>?_) (fun b2=>?_)
  ·refine gI ?_;refine gZ ?_;exact t_ret ⟨rfl,1,rfl,fun e=>by cases e⟩
  refine t_again (hY (n-(i+1)) _ _ (by omega) ⟨rfl,i+1,?_,by omega,rfl,fun j y hj hy=>?_⟩)
  ·rw[wrap_id (by omega) (by omega)];rfl
  ·by_cases e:j=i
   ·subst e;rw[hx]at hy;cases hy;refine⟨?_,dayOk_of (by simpa using b2)⟩;unfold isIn at b1;simpa using b1
   ·exact hall j y (by omega) hy
 ·refine gH ?_;refine gZ ?_;refine t_ret ⟨rfl,0,rfl,fun _=>⟨by omega,fun x hx=>?_⟩⟩;obtain⟨j,hj⟩:=List.mem_iff_getElem?.1 hx;exact hall j x (by have:=(List.getElem?_eq_some_iff.1 hj).1;omega) hj
theorem c3323{h:LH}{p:Option Addr}{n c:Nat}{l:List DDue}(hl:Sl DDueE 6 h.get p n l):FW X0 Tryz.prog 73 #[.slice p n c] h fun r h'=>h=h'/\∃ g:Int,r=.int .i64 g/\(g=0->l.length<=4/\∀ d∈l,DayOk d.start/\TermOk d.term/\DoneOk d.done/\DoneOk d.freed/\DoneOk d.asked):=by
 refine w3323 _ _ _ X0_ok ?_;unfold n3323;have hn:=hl.1;have hb:=hl.2.1;refine t_if (fun e=>?_) (fun e=>?_)
 ·exact t_ret ⟨rfl,2,rfl,fun e=>by cases e⟩
 refine t_loop (fun mm vs h'=>h=h'/\∃ i:Nat,vs=[.int .i64 0,.int .i64 i]/\i<=n/\mm=n-i/\∀ (j:Nat) d,j<i->l[j]?=some d->DayOk d.start/\TermOk d.term/\DoneOk d.done/\DoneOk d.freed/\DoneOk d.asked) ⟨rfl,0,rfl,Nat.zero_le _,rfl,fun j x hj=>absurd hj (Nat.not_lt_zero _)⟩ ?_;rintro Y mm vs _ hY ⟨rfl,i,rfl,hi,rfl,hall⟩;refine yJ (fun e1=>?_) (fun e1=>?_)
 ·obtain⟨x,a,hx,ha,e2,e3,e4,e5,e6,e7⟩:=hl.at (i:=i) (by omega);have bad:∀ v:Int,v≠0->(∃ g:Int,Value.int .i64 v=.int .i64 g/\(g=0->l.length<=4/\∀ d∈l,DayOk d.start/\TermOk d.term/\DoneOk d.done/\DoneOk d.freed/\DoneOk d.asked)):=fun v hv=>⟨v,rfl,fun e=>absurd e hv⟩;have e3':h.get.cell? (Addr.add (Addr.add (a.add (i*6)) 1) 0)=some (.int .i64 x.term.n):=by rw[Addr.add_add'];exact e3
  have e4':h.get.cell? (Addr.add (Addr.add (a.add (i*6)) 1) 1)=some (.int .i64 x.term.unit):=by rw[Addr.add_add'];exact e4
  refine gZ ?_;refine t_pu (c3338 _) ?_;refine yI (fun _=>?_) (fun b1=>?_)
  ·refine gI ?_;refine gZ ?_;exact t_ret ⟨rfl,bad 1 (by decide)⟩
  refine gZ ?_;refine t_call (FW.top (c3311 _ _)) ?_;rintro _ _ ⟨rfl,g,rfl,hg⟩;refine yI (fun b2=>?_) (fun b2=>?_)
  ·refine gI ?_;refine gZ ?_;exact t_ret ⟨rfl,bad g (by simpa using b2)⟩
  refine gZ ?_;refine t_pu (c3339 _) ?_;refine yI (fun _=>?_) (fun b3=>?_)
  ·refine gI ?_;refine gZ ?_;exact t_ret ⟨rfl,bad 1 (by decide)⟩
  refine gZ ?_;refine t_pu (c3339 _) ?_;refine yI (fun _=>?_) (fun b4=>?_)
  ·refine gI ?_;refine gZ ?_;exact t_ret ⟨rfl,bad 1 (by decide)⟩
  refine gZ ?_;refine t_pu (c3339 _) ?_;refine yI (fun _=>?_) (fun b5=>?_)
  ·refine gI ?_;refine gZ ?_;exact t_ret ⟨rfl,bad 1 (by decide)⟩
  refine t_again (hY (n-(i+1)) _ _ (by omega) ⟨rfl,i+1,?_,by omega,rfl,fun j y hj hy=>?_⟩)
  ·rw[wrap_id (by omega) (by omega)];rfl
  ·by_cases e:j=i
   ·subst e;rw[hx]at hy;cases hy;exact⟨dayOk_of (by simpa using b1),hg (by simpa using b2),doneOk_of (by simpa using b3),doneOk_of (by simpa using b4),doneOk_of (by simpa using b5)⟩
   ·exact hall j y (by omega) hy
 ·refine gH ?_;refine gZ ?_;refine t_ret ⟨rfl,0,rfl,fun _=>⟨by omega,fun x hx=>?_⟩⟩;obtain⟨j,hj⟩:=List.mem_iff_getElem?.1 hx;exact hall j x (by have:=(List.getElem?_eq_some_iff.1 hj).1;omega) hj
end
end Go.Y

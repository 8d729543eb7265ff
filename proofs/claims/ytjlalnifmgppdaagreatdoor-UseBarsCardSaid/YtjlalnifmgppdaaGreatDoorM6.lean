/- Contracts and laws for the proof, joined by a program. No condition. -/
import Derived.Test.YtjlalnifmgppdaaGreatDoorM5
set_option linter.all false
noncomputable section
open Go Go.Conc Go.TM Go.Proofs
set_option maxRecDepth 100000
open Go.IntKind (wrap)
section
namespace Go.Y
set_option linter.unusedVariables false
variable {X:XP} {h:LH} {A:Value->LH->Prop}
def n3307(x_0p:Option Addr)(x_0n x_0c:Nat)(x_1p:Option Addr)(x_1n x_1c:Nat)(x_2 x_3 x_4 x_5 x_6 x_7 x_8 x_9 x_10 x_11 x_12 x_13:Int)(x_14p:Option Addr)(x_14n x_14c:Nat)(appsp:Option Addr)(appsn appsc:Nat):T:=.new 41 #[.slice x_0p x_0n x_0c,.slice x_1p x_1n x_1c,x_2,x_3,x_4,x_5,x_6,x_7,x_8,x_9,x_10,x_11,x_12,x_13,.slice x_14p x_14n x_14c] fun r=>.loadS (Addr.add ⟨r,0,none⟩ 0) fun p n c=>.loadS (Addr.add ⟨r,0,none⟩ 1) fun p_1 n_1 c_1=>.li (Addr.add ⟨r,0,none⟩ 2) fun n_2=>.li (Addr.add ⟨r,0,none⟩ 3) fun n_3=>.li (Addr.add ⟨r,0,none⟩ 4) fun n_4=>.li (Addr.add ⟨r,0,none⟩ 5) fun n_5=>.li (Addr.add ⟨r,0,none⟩ 6) fun n_6=>.li (Addr.add ⟨r,0,none⟩ 7) fun n_7=>.li (Addr.add ⟨r,0,none⟩ 8) fun n_8=>.li (Addr.add ⟨r,0,none⟩ 9) fun n_9=>.li (Addr.add ⟨r,0,none⟩ 10) fun n_10=>.li (Addr.add ⟨r,0,none⟩ 11) fun n_11=>.li (Addr.add ⟨r,0,none⟩ 12) fun n_12=>.li (Addr.add ⟨r,0,none⟩ 13) fun n_13=>.loadS (Addr.add ⟨r,0,none⟩ 14) fun p_2 n_14 c_2=>.cI 56 #[.agg #[.slice p n c,.slice p_1 n_1 c_1,n_2,n_3,n_4,n_5,n_6,n_7,n_8,n_9,n_10,n_11,n_12,n_13,.slice p_2 n_14 c_2]] fun n=>bif n != 0 then .rt (.tuple #[.pointer none,n]) else .loadS (Addr.add ⟨r,0,none⟩ 0) fun p n c=>.loadS (Addr.add ⟨r,0,none⟩ 1) fun p_3 n_15 c_3=>.li (Addr.add ⟨r,0,none⟩ 2) fun n_16=>.li (Addr.add ⟨r,0,none⟩ 3) fun n_17=>.li (Addr.add ⟨r,0,none⟩ 4) fun n_18=>.li (Addr.add ⟨r,0,none⟩ 5) fun n_19=>.li (Addr.add ⟨r,0,none⟩ 6) fun n_20=>.li (Addr.add ⟨r,0,none⟩ 7) fun n_21=>.li (Addr.add ⟨r,0,none⟩ 8) fun n_22=>.li (Addr.add ⟨r,0,none⟩ 9) fun n_23=>.li (Addr.add ⟨r,0,none⟩ 10) fun n_24=>.li (Addr.add ⟨r,0,none⟩ 11) fun n_25=>.li (Addr.add ⟨r,0,none⟩ 12) fun n_26=>.li (Addr.add ⟨r,0,none⟩ 13) fun n_27=>.loadS (Addr.add ⟨r,0,none⟩ 14) fun p_4 n_28 c_4=>.both (.sem false (Instr.makeMap 120 none) fun v=>.unM v fun a=>.nds [.val (.func (Fn.func 57) #[] #[.pointer (some ⟨r,0,none⟩)]),.S appsp appsn appsc] (.loadS (Addr.add ⟨r,0,none⟩ 0) fun p_5 n_29 c_5=>.loadS (Addr.add ⟨r,0,none⟩ 1) fun p_6 n_30 c_6=>.li (Addr.add ⟨r,0,none⟩ 2) fun n_31=>.li (Addr.add ⟨r,0,none⟩ 3) fun n_32=>.li (Addr.add ⟨r,0,none⟩ 4) fun n_33=>.li (Addr.add ⟨r,0,none⟩ 5) fun n_34=>.li (Addr.add ⟨r,0,none⟩ 6) fun n_35=>.li (Addr.add ⟨r,0,none⟩ 7) fun n_36=>.li (Addr.add ⟨r,0,none⟩ 8) fun n_37=>.li (Addr.add ⟨r,0,none⟩ 9) fun n_38=>.li (Addr.add ⟨r,0,none⟩ 10) fun n_39=>.li (Addr.add ⟨r,0,none⟩ 11) fun n_40=>.li (Addr.add ⟨r,0,none⟩ 12) fun n_41=>.li (Addr.add ⟨r,0,none⟩ 13) fun n_42=>.loadS (Addr.add ⟨r,0,none⟩ 14) fun p_7 n_43 c_7=>.ne (.agg #[.slice p_5 n_29 c_5,.slice p_6 n_30 c_6,n_31,n_32,n_33,n_34,n_35,n_36,n_37,n_38,n_39,n_40,n_41,n_42,.slice p_7 n_43 c_7]) (.agg #[.slice p n c,.slice p_3 n_15 c_3,n_16,n_17,n_18,n_19,n_20,n_21,n_22,n_23,n_24,n_25,n_26,n_27,.slice p_4 n_28 c_4]) (.both (.new 129 #[.slice p n c,.slice p_3 n_15 c_3,n_16,n_17,n_18,n_19,n_20,n_21,n_22,n_23,n_24,n_25,n_26,n_27,.slice p_4 n_28 c_4,.map a,.int .i32 0,.int .u32 0] fun r_1=>.nds [.val (.func (Fn.func 57) #[] #[.pointer (some ⟨r,0,none⟩)]),.S appsp appsn appsc] (.loadS (Addr.add ⟨r,0,none⟩ 0) fun p_8 n_44 c_8=>.loadS (Addr.add ⟨r,0,none⟩ 1) fun p_9 n_45 c_9=>.li (Addr.add ⟨r,0,none⟩ 2) fun n_46=>.li (Addr.add ⟨r,0,none⟩ 3) fun n_47=>.li (Addr.add ⟨r,0,none⟩ 4) fun n_48=>.li (Addr.add ⟨r,0,none⟩ 5) fun n_49=>.li (Addr.add ⟨r,0,none⟩ 6) fun n_50=>.li (Addr.add ⟨r,0,none⟩ 7) fun n_51=>.li (Addr.add ⟨r,0,none⟩ 8) fun n_52=>.li (Addr.add ⟨r,0,none⟩ 9) fun n_53=>.li (Addr.add ⟨r,0,none⟩ 10) fun n_54=>.li (Addr.add ⟨r,0,none⟩ 11) fun n_55=>.li (Addr.add ⟨r,0,none⟩ 12) fun n_56=>.li (Addr.add ⟨r,0,none⟩ 13) fun n_57=>.loadS (Addr.add ⟨r,0,none⟩ 14) fun p_10 n_58 c_10=>.ne (.agg #[.slice p_8 n_44 c_8,.slice p_9 n_45 c_9,n_46,n_47,n_48,n_49,n_50,n_51,n_52,n_53,n_54,n_55,n_56,n_57,.slice p_10 n_58 c_10]) (.agg #[.slice p n c,.slice p_3 n_15 c_3,n_16,n_17,n_18,n_19,n_20,n_21,n_22,n_23,n_24,n_25,n_26,n_27,.slice p_4 n_28 c_4]) (.cB 58 #[.slice appsp appsn appsc,.func (Fn.func 57) #[] #[.pointer (some ⟨r,0,none⟩)]] fun b=>.loadS (Addr.add ⟨r,0,none⟩ 0) fun p_11 n_59 c_11=>.loadS (Addr.add ⟨r,0,none⟩ 1) fun p_12 n_60 c_12=>.li (Addr.add ⟨r,0,none⟩ 2) fun n_61=>.li (Addr.add ⟨r,0,none⟩ 3) fun n_62=>.li (Addr.add ⟨r,0,none⟩ 4) fun n_63=>.li (Addr.add ⟨r,0,none⟩ 5) fun n_64=>.li (Addr.add ⟨r,0,none⟩ 6) fun n_65=>.li (Addr.add ⟨r,0,none⟩ 7) fun n_66=>.li (Addr.add ⟨r,0,none⟩ 8) fun n_67=>.li (Addr.add ⟨r,0,none⟩ 9) fun n_68=>.li (Addr.add ⟨r,0,none⟩ 10) fun n_69=>.li (Addr.add ⟨r,0,none⟩ 11) fun n_70=>.li (Addr.add ⟨r,0,none⟩ 12) fun n_71=>.li (Addr.add ⟨r,0,none⟩ 13) fun n_72=>.loadS (Addr.add ⟨r,0,none⟩ 14) fun p_13 n_73 c_13=>.ne (.agg #[.slice p_11 n_59 c_11,.slice p_12 n_60 c_12,n_61,n_62,n_63,n_64,n_65,n_66,n_67,n_68,n_69,n_70,n_71,n_72,.slice p_13 n_73 c_13]) (.agg #[.slice p n c,.slice p_3 n_15 c_3,n_16,n_17,n_18,n_19,n_20,n_21,n_22,n_23,n_24,n_25,n_26,n_27,.slice p_4 n_28 c_4]) (.cI 30 #[b,.int .i64 6] fun n_74=>.loadS (Addr.add ⟨r,0,none⟩ 0) fun p_14 n_75 c_14=>.loadS (Addr.add ⟨r,0,none⟩ 1) fun p_15 n_76 c_15=>.li (Addr.add ⟨r,0,none⟩ 2) fun n_77=>.li (Addr.add ⟨r,0,none⟩ 3) fun n_78=>.li (Addr.add ⟨r,0,none⟩ 4) fun n_79=>.li (Addr.add ⟨r,0,none⟩ 5) fun n_80=>.li (Addr.add ⟨r,0,none⟩ 6) fun n_81=>.li (Addr.add ⟨r,0,none⟩ 7) fun n_82=>.li (Addr.add ⟨r,0,none⟩ 8) fun n_83=>.li (Addr.add ⟨r,0,none⟩ 9) fun n_84=>.li (Addr.add ⟨r,0,none⟩ 10) fun n_85=>.li (Addr.add ⟨r,0,none⟩ 11) fun n_86=>.li (Addr.add ⟨r,0,none⟩ 12) fun n_87=>.li (Addr.add ⟨r,0,none⟩ 13) fun n_88=>.loadS (Addr.add ⟨r,0,none⟩ 14) fun p_16 n_89 c_16=>.ne (.agg #[.slice p_14 n_75 c_14,.slice p_15 n_76 c_15,n_77,n_78,n_79,n_80,n_81,n_82,n_83,n_84,n_85,n_86,n_87,n_88,.slice p_16 n_89 c_16]) (.agg #[.slice p n c,.slice p_3 n_15 c_3,n_16,n_17,n_18,n_19,n_20,n_21,n_22,n_23,n_24,n_25,n_26,n_27,.slice p_4 n_28 c_4]) (.rt (.tuple #[.pointer (some ⟨r_1,0,none⟩),n_74])))))) (.cB 58 #[.slice appsp appsn appsc,.func (Fn.func 57) #[] #[.pointer (some ⟨r,0,none⟩)]] fun b=>.nd (.agg #[.slice p n c,.slice p_3 n_15 c_3,n_16,n_17,n_18,n_19,n_20,n_21,n_22,n_23,n_24,n_25,n_26,n_27,.slice p_4 n_28 c_4,.map a,.int .i32 0,.int .u32 0]) (.loadS (Addr.add ⟨r,0,none⟩ 0) fun p_8 n_44 c_8=>.loadS (Addr.add ⟨r,0,none⟩ 1) fun p_9 n_45 c_9=>.li (Addr.add ⟨r,0,none⟩ 2) fun n_46=>.li (Addr.add ⟨r,0,none⟩ 3) fun n_47=>.li (Addr.add ⟨r,0,none⟩ 4) fun n_48=>.li (Addr.add ⟨r,0,none⟩ 5) fun n_49=>.li (Addr.add ⟨r,0,none⟩ 6) fun n_50=>.li (Addr.add ⟨r,0,none⟩ 7) fun n_51=>.li (Addr.add ⟨r,0,none⟩ 8) fun n_52=>.li (Addr.add ⟨r,0,none⟩ 9) fun n_53=>.li (Addr.add ⟨r,0,none⟩ 10) fun n_54=>.li (Addr.add ⟨r,0,none⟩ 11) fun n_55=>.li (Addr.add ⟨r,0,none⟩ 12) fun n_56=>.li (Addr.add ⟨r,0,none⟩ 13) fun n_57=>.loadS (Addr.add ⟨r,0,none⟩ 14) fun p_10 n_58 c_10=>.ne (.agg #[.slice p_8 n_44 c_8,.slice p_9 n_45 c_9,n_46,n_47,n_48,n_49,n_50,n_51,n_52,n_53,n_54,n_55,n_56,n_57,.slice p_10 n_58 c_10]) (.agg #[.slice p n c,.slice p_3 n_15 c_3,n_16,n_17,n_18,n_19,n_20,n_21,n_22,n_23,n_24,n_25,n_26,n_27,.slice p_4 n_28 c_4]) (.both (.new 129 #[.slice p n c,.slice p_3 n_15 c_3,n_16,n_17,n_18,n_19,n_20,n_21,n_22,n_23,n_24,n_25,n_26,n_27,.slice p_4 n_28 c_4,.map a,.int .i32 0,.int .u32 0] fun r_1=>.loadS (Addr.add ⟨r,0,none⟩ 0) fun p_11 n_59 c_11=>.loadS (Addr.add ⟨r,0,none⟩ 1) fun p_12 n_60 c_12=>.li (Addr.add ⟨r,0,none⟩ 2) fun n_61=>.li (Addr.add ⟨r,0,none⟩ 3) fun n_62=>.li (Addr.add ⟨r,0,none⟩ 4) fun n_63=>.li (Addr.add ⟨r,0,none⟩ 5) fun n_64=>.li (Addr.add ⟨r,0,none⟩ 6) fun n_65=>.li (Addr.add ⟨r,0,none⟩ 7) fun n_66=>.li (Addr.add ⟨r,0,none⟩ 8) fun n_67=>.li (Addr.add ⟨r,0,none⟩ 9) fun n_68=>.li (Addr.add ⟨r,0,none⟩ 10) fun n_69=>.li (Addr.add ⟨r,0,none⟩ 11) fun n_70=>.li (Addr.add ⟨r,0,none⟩ 12) fun n_71=>.li (Addr.add ⟨r,0,none⟩ 13) fun n_72=>.loadS (Addr.add ⟨r,0,none⟩ 14) fun p_13 n_73 c_13=>.ne (.agg #[.slice p_11 n_59 c_11,.slice p_12 n_60 c_12,n_61,n_62,n_63,n_64,n_65,n_66,n_67,n_68,n_69,n_70,n_71,n_72,.slice p_13 n_73 c_13]) (.agg #[.slice p n c,.slice p_3 n_15 c_3,n_16,n_17,n_18,n_19,n_20,n_21,n_22,n_23,n_24,n_25,n_26,n_27,.slice p_4 n_28 c_4]) (.cI 30 #[b,.int .i64 6] fun n_74=>.loadS (Addr.add ⟨r,0,none⟩ 0) fun p_14 n_75 c_14=>.loadS (Addr.add ⟨r,0,none⟩ 1) fun p_15 n_76 c_15=>.li (Addr.add ⟨r,0,none⟩ 2) fun n_77=>.li (Addr.add ⟨r,0,none⟩ 3) fun n_78=>.li (Addr.add ⟨r,0,none⟩ 4) fun n_79=>.li (Addr.add ⟨r,0,none⟩ 5) fun n_80=>.li (Addr.add ⟨r,0,none⟩ 6) fun n_81=>.li (Addr.add ⟨r,0,none⟩ 7) fun n_82=>.li (Addr.add ⟨r,0,none⟩ 8) fun n_83=>.li (Addr.add ⟨r,0,none⟩ 9) fun n_84=>.li (Addr.add ⟨r,0,none⟩ 10) fun n_85=>.li (Addr.add ⟨r,0,none⟩ 11) fun n_86=>.li (Addr.add ⟨r,0,none⟩ 12) fun n_87=>.li (Addr.add ⟨r,0,none⟩ 13) fun n_88=>.loadS (Addr.add ⟨r,0,none⟩ 14) fun p_16 n_89 c_16=>.ne (.agg #[.slice p_14 n_75 c_14,.slice p_15 n_76 c_15,n_77,n_78,n_79,n_80,n_81,n_82,n_83,n_84,n_85,n_86,n_87,n_88,.slice p_16 n_89 c_16]) (.agg #[.slice p n c,.slice p_3 n_15 c_3,n_16,n_17,n_18,n_19,n_20,n_21,n_22,n_23,n_24,n_25,n_26,n_27,.slice p_4 n_28 c_4]) (.rt (.tuple #[.pointer (some ⟨r_1,0,none⟩),n_74])))) (.cI 30 #[b,.int .i64 6] fun n_59=>.nd (.agg #[.slice p n c,.slice p_3 n_15 c_3,n_16,n_17,n_18,n_19,n_20,n_21,n_22,n_23,n_24,n_25,n_26,n_27,.slice p_4 n_28 c_4,.map a,.int .i32 0,.int .u32 0]) (.loadS (Addr.add ⟨r,0,none⟩ 0) fun p_11 n_60 c_11=>.loadS (Addr.add ⟨r,0,none⟩ 1) fun p_12 n_61 c_12=>.li (Addr.add ⟨r,0,none⟩ 2) fun n_62=>.li (Addr.add ⟨r,0,none⟩ 3) fun n_63=>.li (Addr.add ⟨r,0,none⟩ 4) fun n_64=>.li (Addr.add ⟨r,0,none⟩ 5) fun n_65=>.li (Addr.add ⟨r,0,none⟩ 6) fun n_66=>.li (Addr.add ⟨r,0,none⟩ 7) fun n_67=>.li (Addr.add ⟨r,0,none⟩ 8) fun n_68=>.li (Addr.add ⟨r,0,none⟩ 9) fun n_69=>.li (Addr.add ⟨r,0,none⟩ 10) fun n_70=>.li (Addr.add ⟨r,0,none⟩ 11) fun n_71=>.li (Addr.add ⟨r,0,none⟩ 12) fun n_72=>.li (Addr.add ⟨r,0,none⟩ 13) fun n_73=>.loadS (Addr.add ⟨r,0,none⟩ 14) fun p_13 n_74 c_13=>.ne (.agg #[.slice p_11 n_60 c_11,.slice p_12 n_61 c_12,n_62,n_63,n_64,n_65,n_66,n_67,n_68,n_69,n_70,n_71,n_72,n_73,.slice p_13 n_74 c_13]) (.agg #[.slice p n c,.slice p_3 n_15 c_3,n_16,n_17,n_18,n_19,n_20,n_21,n_22,n_23,n_24,n_25,n_26,n_27,.slice p_4 n_28 c_4]) (.new 129 #[.slice p n c,.slice p_3 n_15 c_3,n_16,n_17,n_18,n_19,n_20,n_21,n_22,n_23,n_24,n_25,n_26,n_27,.slice p_4 n_28 c_4,.map a,.int .i32 0,.int .u32 0] fun r_1=>.loadS (Addr.add ⟨r,0,none⟩ 0) fun p_14 n_75 c_14=>.loadS (Addr.add ⟨r,0,none⟩ 1) fun p_15 n_76 c_15=>.li (Addr.add ⟨r,0,none⟩ 2) fun n_77=>.li (Addr.add ⟨r,0,none⟩ 3) fun n_78=>.li (Addr.add ⟨r,0,none⟩ 4) fun n_79=>.li (Addr.add ⟨r,0,none⟩ 5) fun n_80=>.li (Addr.add ⟨r,0,none⟩ 6) fun n_81=>.li (Addr.add ⟨r,0,none⟩ 7) fun n_82=>.li (Addr.add ⟨r,0,none⟩ 8) fun n_83=>.li (Addr.add ⟨r,0,none⟩ 9) fun n_84=>.li (Addr.add ⟨r,0,none⟩ 10) fun n_85=>.li (Addr.add ⟨r,0,none⟩ 11) fun n_86=>.li (Addr.add ⟨r,0,none⟩ 12) fun n_87=>.li (Addr.add ⟨r,0,none⟩ 13) fun n_88=>.loadS (Addr.add ⟨r,0,none⟩ 14) fun p_16 n_89 c_16=>.ne (.agg #[.slice p_14 n_75 c_14,.slice p_15 n_76 c_15,n_77,n_78,n_79,n_80,n_81,n_82,n_83,n_84,n_85,n_86,n_87,n_88,.slice p_16 n_89 c_16]) (.agg #[.slice p n c,.slice p_3 n_15 c_3,n_16,n_17,n_18,n_19,n_20,n_21,n_22,n_23,n_24,n_25,n_26,n_27,.slice p_4 n_28 c_4]) (.rt (.tuple #[.pointer (some ⟨r_1,0,none⟩),n_59]))))))))))) (.cB 58 #[.slice appsp appsn appsc,.func (Fn.func 57) #[] #[.pointer (some ⟨r,0,none⟩)]] fun b=>.loadS (Addr.add ⟨r,0,none⟩ 0) fun p_5 n_29 c_5=>.loadS (Addr.add ⟨r,0,none⟩ 1) fun p_6 n_30 c_6=>.li (Addr.add ⟨r,0,none⟩ 2) fun n_31=>.li (Addr.add ⟨r,0,none⟩ 3) fun n_32=>.li (Addr.add ⟨r,0,none⟩ 4) fun n_33=>.li (Addr.add ⟨r,0,none⟩ 5) fun n_34=>.li (Addr.add ⟨r,0,none⟩ 6) fun n_35=>.li (Addr.add ⟨r,0,none⟩ 7) fun n_36=>.li (Addr.add ⟨r,0,none⟩ 8) fun n_37=>.li (Addr.add ⟨r,0,none⟩ 9) fun n_38=>.li (Addr.add ⟨r,0,none⟩ 10) fun n_39=>.li (Addr.add ⟨r,0,none⟩ 11) fun n_40=>.li (Addr.add ⟨r,0,none⟩ 12) fun n_41=>.li (Addr.add ⟨r,0,none⟩ 13) fun n_42=>.loadS (Addr.add ⟨r,0,none⟩ 14) fun p_7 n_43 c_7=>.ne (.agg #[.slice p_5 n_29 c_5,.slice p_6 n_30 c_6,n_31,n_32,n_33,n_34,n_35,n_36,n_37,n_38,n_39,n_40,n_41,n_42,.slice p_7 n_43 c_7]) (.agg #[.slice p n c,.slice p_3 n_15 c_3,n_16,n_17,n_18,n_19,n_20,n_21,n_22,n_23,n_24,n_25,n_26,n_27,.slice p_4 n_28 c_4]) (.both (.sem false (Instr.makeMap 120 none) fun v=>.unM v fun a=>.loadS (Addr.add ⟨r,0,none⟩ 0) fun p_8 n_44 c_8=>.loadS (Addr.add ⟨r,0,none⟩ 1) fun p_9 n_45 c_9=>.li (Addr.add ⟨r,0,none⟩ 2) fun n_46=>.li (Addr.add ⟨r,0,none⟩ 3) fun n_47=>.li (Addr.add ⟨r,0,none⟩ 4) fun n_48=>.li (Addr.add ⟨r,0,none⟩ 5) fun n_49=>.li (Addr.add ⟨r,0,none⟩ 6) fun n_50=>.li (Addr.add ⟨r,0,none⟩ 7) fun n_51=>.li (Addr.add ⟨r,0,none⟩ 8) fun n_52=>.li (Addr.add ⟨r,0,none⟩ 9) fun n_53=>.li (Addr.add ⟨r,0,none⟩ 10) fun n_54=>.li (Addr.add ⟨r,0,none⟩ 11) fun n_55=>.li (Addr.add ⟨r,0,none⟩ 12) fun n_56=>.li (Addr.add ⟨r,0,none⟩ 13) fun n_57=>.loadS (Addr.add ⟨r,0,none⟩ 14) fun p_10 n_58 c_10=>.ne (.agg #[.slice p_8 n_44 c_8,.slice p_9 n_45 c_9,n_46,n_47,n_48,n_49,n_50,n_51,n_52,n_53,n_54,n_55,n_56,n_57,.slice p_10 n_58 c_10]) (.agg #[.slice p n c,.slice p_3 n_15 c_3,n_16,n_17,n_18,n_19,n_20,n_21,n_22,n_23,n_24,n_25,n_26,n_27,.slice p_4 n_28 c_4]) (.both (.new 129 #[.slice p n c,.slice p_3 n_15 c_3,n_16,n_17,n_18,n_19,n_20,n_21,n_22,n_23,n_24,n_25,n_26,n_27,.slice p_4 n_28 c_4,.map a,.int .i32 0,.int .u32 0] fun r_1=>.loadS (Addr.add ⟨r,0,none⟩ 0) fun p_11 n_59 c_11=>.loadS (Addr.add ⟨r,0,none⟩ 1) fun p_12 n_60 c_12=>.li (Addr.add ⟨r,0,none⟩ 2) fun n_61=>.li (Addr.add ⟨r,0,none⟩ 3) fun n_62=>.li (Addr.add ⟨r,0,none⟩ 4) fun n_63=>.li (Addr.add ⟨r,0,none⟩ 5) fun n_64=>.li (Addr.add ⟨r,0,none⟩ 6) fun n_65=>.li (Addr.add ⟨r,0,none⟩ 7) fun n_66=>.li (Addr.add ⟨r,0,none⟩ 8) fun n_67=>.li (Addr.add ⟨r,0,none⟩ 9) fun n_68=>.li (Addr.add ⟨r,0,none⟩ 10) fun n_69=>.li (Addr.add ⟨r,0,none⟩ 11) fun n_70=>.li (Addr.add ⟨r,0,none⟩ 12) fun n_71=>.li (Addr.add ⟨r,0,none⟩ 13) fun n_72=>.loadS (Addr.add ⟨r,0,none⟩ 14) fun p_13 n_73 c_13=>.ne (.agg #[.slice p_11 n_59 c_11,.slice p_12 n_60 c_12,n_61,n_62,n_63,n_64,n_65,n_66,n_67,n_68,n_69,n_70,n_71,n_72,.slice p_13 n_73 c_13]) (.agg #[.slice p n c,.slice p_3 n_15 c_3,n_16,n_17,n_18,n_19,n_20,n_21,n_22,n_23,n_24,n_25,n_26,n_27,.slice p_4 n_28 c_4]) (.cI 30 #[b,.int .i64 6] fun n_74=>.loadS (Addr.add ⟨r,0,none⟩ 0) fun p_14 n_75 c_14=>.loadS (Addr.add ⟨r,0,none⟩ 1) fun p_15 n_76 c_15=>.li (Addr.add ⟨r,0,none⟩ 2) fun n_77=>.li (Addr.add ⟨r,0,none⟩ 3) fun n_78=>.li (Addr.add ⟨r,0,none⟩ 4) fun n_79=>.li (Addr.add ⟨r,0,none⟩ 5) fun n_80=>.li (Addr.add ⟨r,0,none⟩ 6) fun n_81=>.li (Addr.add ⟨r,0,none⟩ 7) fun n_82=>.li (Addr.add ⟨r,0,none⟩ 8) fun n_83=>.li (Addr.add ⟨r,0,none⟩ 9) fun n_84=>.li (Addr.add ⟨r,0,none⟩ 10) fun n_85=>.li (Addr.add ⟨r,0,none⟩ 11) fun n_86=>.li (Addr.add ⟨r,0,none⟩ 12) fun n_87=>.li (Addr.add ⟨r,0,none⟩ 13) fun n_88=>.loadS (Addr.add ⟨r,0,none⟩ 14) fun p_16 n_89 c_16=>.ne (.agg #[.slice p_14 n_75 c_14,.slice p_15 n_76 c_15,n_77,n_78,n_79,n_80,n_81,n_82,n_83,n_84,n_85,n_86,n_87,n_88,.slice p_16 n_89 c_16]) (.agg #[.slice p n c,.slice p_3 n_15 c_3,n_16,n_17,n_18,n_19,n_20,n_21,n_22,n_23,n_24,n_25,n_26,n_27,.slice p_4 n_28 c_4]) (.rt (.tuple #[.pointer (some ⟨r_1,0,none⟩),n_74])))) (.cI 30 #[b,.int .i64 6] fun n_59=>.nd (.agg #[.slice p n c,.slice p_3 n_15 c_3,n_16,n_17,n_18,n_19,n_20,n_21,n_22,n_23,n_24,n_25,n_26,n_27,.slice p_4 n_28 c_4,.map a,.int .i32 0,.int .u32 0]) (.loadS (Addr.add ⟨r,0,none⟩ 0) fun p_11 n_60 c_11=>.loadS (Addr.add ⟨r,0,none⟩ 1) fun p_12 n_61 c_12=>.li (Addr.add ⟨r,0,none⟩ 2) fun n_62=>.li (Addr.add ⟨r,0,none⟩ 3) fun n_63=>.li (Addr.add ⟨r,0,none⟩ 4) fun n_64=>.li (Addr.add ⟨r,0,none⟩ 5) fun n_65=>.li (Addr.add ⟨r,0,none⟩ 6) fun n_66=>.li (Addr.add ⟨r,0,none⟩ 7) fun n_67=>.li (Addr.add ⟨r,0,none⟩ 8) fun n_68=>.li (Addr.add ⟨r,0,none⟩ 9) fun n_69=>.li (Addr.add ⟨r,0,none⟩ 10) fun n_70=>.li (Addr.add ⟨r,0,none⟩ 11) fun n_71=>.li (Addr.add ⟨r,0,none⟩ 12) fun n_72=>.li (Addr.add ⟨r,0,none⟩ 13) fun n_73=>.loadS (Addr.add ⟨r,0,none⟩ 14) fun p_13 n_74 c_13=>.ne (.agg #[.slice p_11 n_60 c_11,.slice p_12 n_61 c_12,n_62,n_63,n_64,n_65,n_66,n_67,n_68,n_69,n_70,n_71,n_72,n_73,.slice p_13 n_74 c_13]) (.agg #[.slice p n c,.slice p_3 n_15 c_3,n_16,n_17,n_18,n_19,n_20,n_21,n_22,n_23,n_24,n_25,n_26,n_27,.slice p_4 n_28 c_4]) (.new 129 #[.slice p n c,.slice p_3 n_15 c_3,n_16,n_17,n_18,n_19,n_20,n_21,n_22,n_23,n_24,n_25,n_26,n_27,.slice p_4 n_28 c_4,.map a,.int .i32 0,.int .u32 0] fun r_1=>.loadS (Addr.add ⟨r,0,none⟩ 0) fun p_14 n_75 c_14=>.loadS (Addr.add ⟨r,0,none⟩ 1) fun p_15 n_76 c_15=>.li (Addr.add ⟨r,0,none⟩ 2) fun n_77=>.li (Addr.add ⟨r,0,none⟩ 3) fun n_78=>.li (Addr.add ⟨r,0,none⟩ 4) fun n_79=>.li (Addr.add ⟨r,0,none⟩ 5) fun n_80=>.li (Addr.add ⟨r,0,none⟩ 6) fun n_81=>.li (Addr.add ⟨r,0,none⟩ 7) fun n_82=>.li (Addr.add ⟨r,0,none⟩ 8) fun n_83=>.li (Addr.add ⟨r,0,none⟩ 9) fun n_84=>.li (Addr.add ⟨r,0,none⟩ 10) fun n_85=>.li (Addr.add ⟨r,0,none⟩ 11) fun n_86=>.li (Addr.add ⟨r,0,none⟩ 12) fun n_87=>.li (Addr.add ⟨r,0,none⟩ 13) fun n_88=>.loadS (Addr.add ⟨r,0,none⟩ 14) fun p_16 n_89 c_16=>.ne (.agg #[.slice p_14 n_75 c_14,.slice p_15 n_76 c_15,n_77,n_78,n_79,n_80,n_81,n_82,n_83,n_84,n_85,n_86,n_87,n_88,.slice p_16 n_89 c_16]) (.agg #[.slice p n c,.slice p_3 n_15 c_3,n_16,n_17,n_18,n_19,n_20,n_21,n_22,n_23,n_24,n_25,n_26,n_27,.slice p_4 n_28 c_4]) (.rt (.tuple #[.pointer (some ⟨r_1,0,none⟩),n_59]))))))) (.cI 30 #[b,.int .i64 6] fun n_44=>.loadS (Addr.add ⟨r,0,none⟩ 0) fun p_8 n_45 c_8=>.loadS (Addr.add ⟨r,0,none⟩ 1) fun p_9 n_46 c_9=>.li (Addr.add ⟨r,0,none⟩ 2) fun n_47=>.li (Addr.add ⟨r,0,none⟩ 3) fun n_48=>.li (Addr.add ⟨r,0,none⟩ 4) fun n_49=>.li (Addr.add ⟨r,0,none⟩ 5) fun n_50=>.li (Addr.add ⟨r,0,none⟩ 6) fun n_51=>.li (Addr.add ⟨r,0,none⟩ 7) fun n_52=>.li (Addr.add ⟨r,0,none⟩ 8) fun n_53=>.li (Addr.add ⟨r,0,none⟩ 9) fun n_54=>.li (Addr.add ⟨r,0,none⟩ 10) fun n_55=>.li (Addr.add ⟨r,0,none⟩ 11) fun n_56=>.li (Addr.add ⟨r,0,none⟩ 12) fun n_57=>.li (Addr.add ⟨r,0,none⟩ 13) fun n_58=>.loadS (Addr.add ⟨r,0,none⟩ 14) fun p_10 n_59 c_10=>.ne (.agg #[.slice p_8 n_45 c_8,.slice p_9 n_46 c_9,n_47,n_48,n_49,n_50,n_51,n_52,n_53,n_54,n_55,n_56,n_57,n_58,.slice p_10 n_59 c_10]) (.agg #[.slice p n c,.slice p_3 n_15 c_3,n_16,n_17,n_18,n_19,n_20,n_21,n_22,n_23,n_24,n_25,n_26,n_27,.slice p_4 n_28 c_4]) (.sem false (Instr.makeMap 120 none) fun v=>.unM v fun a=>.loadS (Addr.add ⟨r,0,none⟩ 0) fun p_11 n_60 c_11=>.loadS (Addr.add ⟨r,0,none⟩ 1) fun p_12 n_61 c_12=>.li (Addr.add ⟨r,0,none⟩ 2) fun n_62=>.li (Addr.add ⟨r,0,none⟩ 3) fun n_63=>.li (Addr.add ⟨r,0,none⟩ 4) fun n_64=>.li (Addr.add ⟨r,0,none⟩ 5) fun n_65=>.li (Addr.add ⟨r,0,none⟩ 6) fun n_66=>.li (Addr.add ⟨r,0,none⟩ 7) fun n_67=>.li (Addr.add ⟨r,0,none⟩ 8) fun n_68=>.li (Addr.add ⟨r,0,none⟩ 9) fun n_69=>.li (Addr.add ⟨r,0,none⟩ 10) fun n_70=>.li (Addr.add ⟨r,0,none⟩ 11) fun n_71=>.li (Addr.add ⟨r,0,none⟩ 12) fun n_72=>.li (Addr.add ⟨r,0,none⟩ 13) fun n_73=>.loadS (Addr.add ⟨r,0,none⟩ 14) fun p_13 n_74 c_13=>.ne (.agg #[.slice p_11 n_60 c_11,.slice p_12 n_61 c_12,n_62,n_63,n_64,n_65,n_66,n_67,n_68,n_69,n_70,n_71,n_72,n_73,.slice p_13 n_74 c_13]) (.agg #[.slice p n c,.slice p_3 n_15 c_3,n_16,n_17,n_18,n_19,n_20,n_21,n_22,n_23,n_24,n_25,n_26,n_27,.slice p_4 n_28 c_4]) (.new 129 #[.slice p n c,.slice p_3 n_15 c_3,n_16,n_17,n_18,n_19,n_20,n_21,n_22,n_23,n_24,n_25,n_26,n_27,.slice p_4 n_28 c_4,.map a,.int .i32 0,.int .u32 0] fun r_1=>.loadS (Addr.add ⟨r,0,none⟩ 0) fun p_14 n_75 c_14=>.loadS (Addr.add ⟨r,0,none⟩ 1) fun p_15 n_76 c_15=>.li (Addr.add ⟨r,0,none⟩ 2) fun n_77=>.li (Addr.add ⟨r,0,none⟩ 3) fun n_78=>.li (Addr.add ⟨r,0,none⟩ 4) fun n_79=>.li (Addr.add ⟨r,0,none⟩ 5) fun n_80=>.li (Addr.add ⟨r,0,none⟩ 6) fun n_81=>.li (Addr.add ⟨r,0,none⟩ 7) fun n_82=>.li (Addr.add ⟨r,0,none⟩ 8) fun n_83=>.li (Addr.add ⟨r,0,none⟩ 9) fun n_84=>.li (Addr.add ⟨r,0,none⟩ 10) fun n_85=>.li (Addr.add ⟨r,0,none⟩ 11) fun n_86=>.li (Addr.add ⟨r,0,none⟩ 12) fun n_87=>.li (Addr.add ⟨r,0,none⟩ 13) fun n_88=>.loadS (Addr.add ⟨r,0,none⟩ 14) fun p_16 n_89 c_16=>.ne (.agg #[.slice p_14 n_75 c_14,.slice p_15 n_76 c_15,n_77,n_78,n_79,n_80,n_81,n_82,n_83,n_84,n_85,n_86,n_87,n_88,.slice p_16 n_89 c_16]) (.agg #[.slice p n c,.slice p_3 n_15 c_3,n_16,n_17,n_18,n_19,n_20,n_21,n_22,n_23,n_24,n_25,n_26,n_27,.slice p_4 n_28 c_4]) (.rt (.tuple #[.pointer (some ⟨r_1,0,none⟩),n_44])))))))
theorem w3307(x_0p:Option Addr)(x_0n x_0c:Nat)(x_1p:Option Addr)(x_1n x_1c:Nat)(x_2 x_3 x_4 x_5 x_6 x_7 x_8 x_9 x_10 x_11 x_12 x_13:Int)(x_14p:Option Addr)(x_14n x_14c:Nat)(appsp:Option Addr)(appsn appsc:Nat):FX X 28 #[.agg #[.slice x_0p x_0n x_0c,.slice x_1p x_1n x_1c,x_2,x_3,x_4,x_5,x_6,x_7,x_8,x_9,x_10,x_11,x_12,x_13,.slice x_14p x_14n x_14c],.slice appsp appsn appsc] h A (n3307 x_0p x_0n x_0c x_1p x_1n x_1c x_2 x_3 x_4 x_5 x_6 x_7 x_8 x_9 x_10 x_11 x_12 x_13 x_14p x_14n x_14c appsp appsn
  appsc):=fk [] [] [] Tryz.f28
def n3314(n:Int)(z0:Addr):T:=.loadS (z0.add 14) fun p n_1 c=>.cB 31 #[n,.int .i64 0,.int .i64 (wrap .i64 ((↑n_1:Int)-1))] fun b=>.rt (.bool !b)
theorem w3314(n:Int)(z0:Addr):FX X 57 #[n,.pointer (some z0)] h A (n3314 n z0):=fk [] [] [] Tryz.f57
def n3308(o:Option Addr)(app:Int):T:=.someA o fun a=>.loadS ((a.add 0).add 14) fun p n c=>.need (0<=app/\app<(↑n:Int)) (.someA p fun a=>.loadStr ((a.add (app.toNat*4)).add 0) fun s=>.loadS ((a.add (app.toNat*4)).add 1) fun p n c=>.loadS ((a.add (app.toNat*4)).add 2) fun p_1 n_1 c_1=>.loadS ((a.add (app.toNat*4)).add 3) fun p_2 n_2 c_2=>.loop [.slice none 0 0,.int .i64 0] (fun vs=>.popS vs fun a n_3 c vs=>.pi vs fun n_4 vs=>.unNil vs (bif decide (n_4<(↑n:Int)) then .need (0<=n_4/\n_4<(↑n:Int)) (.someA p fun a_1=>.li ((a_1.add (n_4.toNat*2)).add 0) fun n=>.li ((a_1.add (n_4.toNat*2)).add 1) fun n_5=>.someA o fun a_2=>.li ((a_2.add 0).add 2) fun n_6=>bif decide (n<n_6) then .sem false (Instr.buildSlice 29 1 #[(0,.int .i64 n_5)]) fun v=>.unS v fun a_3 n c_3=>.sem false (Builtin.append_ #[29,29] 29 #[.slice a n_3 c,.slice a_3 n c_3]) fun v=>.unS v fun a n c=>.ag [.slice a n c,.int .i64 (wrap .i64 (n_4+1))] else .ag [.slice a n_3 c,.int .i64 (wrap .i64 (n_4+1))]) else .bk [.slice a n_3 c,n_4])) (fun vs=>.popS vs fun a n_3 c_3 vs=>.pi vs fun n_4 vs=>.unNil vs (.cl 59 #[.slice a n_3 c_3] fun v=>.unTup v fun l=>.unNil l (.loop [false,.int .i64 0,.string { data:=#[] },.slice none 0 0,.slice none 0 0,.slice none 0 0,.pointer none,.int .i64 0] (fun vs=>.popB vs fun b vs=>.pi vs fun n_5 vs=>.popStr vs fun s_1 vs=>.popS vs fun a_1 n_6 c_4 vs=>.popS vs fun a_2 n_7 c_5 vs=>.popS vs fun a_3 n_8 c_6 vs=>.popP vs fun a_4 vs=>.pi vs fun n_9 vs=>.unNil vs (bif decide (n_5<(↑n_3:Int)) then .need (0<=n_5/\n_5<(↑n_3:Int)) (.someA a fun a_5=>.li (a_5.add (n_5.toNat*1)) fun n_10=>.cl 60 #[.pointer o,.agg #[.string s,.slice p n c,.slice p_1 n_1 c_1,.slice p_2 n_2 c_2],n_10] fun v=>.unAgg v fun l=>.popB l fun b_1 vs=>.popB vs fun b_2 vs=>.popB vs fun b_3 vs=>.popB vs fun b_4 vs=>.unNil vs (.cl 61 #[.pointer o] fun v=>.unAgg v fun l=>.popB l fun b_5 vs=>.popB vs fun b_6 vs=>.popB vs fun b_7 vs=>.popB vs fun b_8 vs=>.unNil vs (.sem false (Sem.bind (eqGuard BinOp.eql 136 (Operand.tmp 52) (Operand.tmp 54) (.agg #[b_1,b_2,b_3,b_4]) (.agg #[b_5,b_6,b_7,b_8])) fun __r=>binOp BinOp.eql 136 (.agg #[b_1,b_2,b_3,b_4]) (.agg #[b_5,b_6,b_7,b_8])) fun v=>.unB v fun b_9=>bif b_9 then .need ((0:Int)<=0/\0<(↑n_3:Int)) (.someA a fun a_6=>.li (a_6.add 0) fun n_11=>.someA o fun a_7=>.li (((a_7.add 0).add 3).add 0) fun n_12=>.li (((a_7.add 0).add 3).add 1) fun n_13=>.cI 62 #[.pointer o,n_11,.agg #[n_12,n_13]] fun n_14=>.nds [.O ((a_7.add 0).add 3),.O (a_7.add 0)] (.someA o fun a_8=>.nq a_8 a_7 (.nd (.pointer o) (.need ((0:Int)<=0/\0<(↑n_3:Int)) (.someA a fun a_9=>.ne (.pointer (some (a_9.add 0))) (.pointer (some (a_6.add 0))) (.nds [.S a n_3 c_3,n_10,.val (.agg #[.string s,.slice p n c,.slice p_1 n_1 c_1,.slice p_2 n_2 c_2,.pointer o,n_10]),n_10,.val (.pointer o),.val (.agg #[.string s,.slice p n c,.slice p_1 n_1 c_1,.slice p_2 n_2 c_2]),.B (decide (n_10<=n_14)),.O ((a_7.add 0).add 3),.O (a_7.add 0)] (.someA o fun a_10=>.nq a_10 a_7 (.nd (.pointer o) (.need ((0:Int)<=0/\0<(↑n_3:Int)) (.someA a fun a_11=>.ne (.pointer (some (a_11.add 0))) (.pointer (some (a_6.add 0))) (.nds [.S a n_3 c_3,n_10] (.rn [.bool (decide (n_10<=n_14)),n_5,.string s,.slice p n c,.slice p_1 n_1 c_1,.slice p_2 n_2 c_2,.pointer o,n_10])))))))))))) else .ag [b,.int .i64 (wrap .i64 (n_5+1)),.string s_1,.slice a_1 n_6 c_4,.slice a_2 n_7 c_5,.slice a_3 n_8 c_6,.pointer a_4,n_9]))) else .bk [b,n_5,.string s_1,.slice a_1 n_6 c_4,.slice a_2 n_7 c_5,.slice a_3 n_8 c_6,.pointer a_4,n_9])) (fun vs=>.popB vs fun b vs=>.pi vs fun n vs=>.popStr vs fun s vs=>.popS vs fun a n c vs=>.popS vs fun a n c vs=>.popS vs fun a n c vs=>.popP vs fun a vs=>.pi vs fun n vs=>.unNil vs (.rt (.tuple #[.agg #[.string { data:=#[] },.slice none 0 0,.slice none 0 0,.slice none 0 0,.pointer none,.int .i64 0],false]))) (fun vs=>.popB vs fun b vs=>.pi vs fun n vs=>.popStr vs fun s vs=>.popS vs fun a n c vs=>.popS vs fun a_1 n_5 c_4 vs=>.popS vs fun a_2 n_6 c_5 vs=>.popP vs fun a_3 vs=>.pi vs fun n_7 vs=>.unNil vs (.rt (.tuple #[.agg #[.string s,.slice a n c,.slice a_1 n_5 c_4,.slice a_2 n_6 c_5,.pointer a_3,n_7],b]))) fun x x_1=>.fail))) (fun vs=>.popS vs fun a n c vs=>.pi vs fun n vs=>.unNil vs (.rt (.tuple #[.agg #[.string { data:=#[] },.slice none 0 0,.slice none 0 0,.slice none 0 0,.pointer none,.int .i64 0],false]))) fun x x_1=>.fail)
theorem w3308(o:Option Addr)(app:Int):FX X 32 #[.pointer o,app] h A (n3308 o app):=fk [4,6,9] [⟨0,[(7,.slice),(23,.int .i64)],[4,6],[],[],[]⟩,⟨2,[(5,.bool),(45,.int .i64),(20480,.str),(20481,.slice),(20482,.slice),(20483,.slice),(20484,.ptr),(20485,.int .i64)],[6],[],[],[]⟩] [] Tryz.f32
def n3315(o:Option Addr)(a_0:ByteArray)(a_1p:Option Addr)(a_1n a_1c:Nat)(a_2p:Option Addr)(a_2n a_2c:Nat)(a_3p:Option Addr)(a_3n a_3c:Nat)(day:Int):T:=.new 136 #[false,false,false,false] fun r=>.loop [.int .i64 0] (fun vs=>.pi vs fun n vs=>.unNil vs (bif decide (n<(↑a_1n:Int)) then .need (0<=n/\n<(↑a_1n:Int)) (.someA a_1p fun a=>.li ((a.add (n.toNat*2)).add 0) fun n_1=>.li ((a.add (n.toNat*2)).add 1) fun n_2=>bif decide (n_2<=day) then .someA o fun a=>.li ((a.add 0).add 2) fun n_3=>bif decide (n_1<n_3) then .need (0<=n_1/\n_1<(↑4:Int)) (.store ((Addr.add ⟨r,0,none⟩ (n_1.toNat*1)).add 0) (.bool true) (.ag [.int .i64 (wrap .i64 (n+1))])) else .ag [.int .i64 (wrap .i64 (n+1))] else .nds [.U,.U,.U,.U,.U,.B (decide (n_2<=day)),day,n_2,.pp 9 1] (.ag [.int .i64 (wrap .i64 (n+1))])) else .bk [n])) (fun vs=>.pi vs fun n vs=>.unNil vs (.loadB (Addr.add ⟨r,0,none⟩ 0) fun b=>.loadB (Addr.add ⟨r,0,none⟩ 1) fun b_1=>.loadB (Addr.add ⟨r,0,none⟩ 2) fun b_2=>.loadB (Addr.add ⟨r,0,none⟩ 3) fun b_3=>.rt (.agg #[b,b_1,b_2,b_3]))) (fun vs=>.pi vs fun n vs=>.unNil vs (.rt (.agg #[false,false,false,false]))) fun x x_1=>.fail
theorem w3315(o:Option Addr)(a_0:ByteArray)(a_1p:Option Addr)(a_1n a_1c:Nat)(a_2p:Option Addr)(a_2n a_2c:Nat)(a_3p:Option Addr)(a_3n a_3c:Nat)(day:Int):FX X 60 #[.pointer o,.agg #[.string a_0,.slice a_1p a_1n a_1c,.slice a_2p a_2n a_2c,.slice a_3p a_3n a_3c],day] h A (n3315 o a_0 a_1p a_1n a_1c a_2p a_2n a_2c a_3p a_3n a_3c day):=fk [4,6,9] [⟨0,[(13,.int .i64)],[4,6],[],[],[]⟩] [] Tryz.f60
def n3316(o:Option Addr):T:=.new 136 #[false,false,false,false] fun r=>.someA o fun a=>.li ((a.add 0).add 2) fun n=>.loop [.int .i64 0] (fun vs=>.pi vs fun n_1 vs=>.unNil vs (bif decide (n_1<n) then .need (0<=n_1/\n_1<(↑4:Int)) (.store ((Addr.add ⟨r,0,none⟩ (n_1.toNat*1)).add 0) (.bool true) (.ag [.int .i64 (wrap .i64 (n_1+1))])) else .bk [n_1])) (fun vs=>.pi vs fun n vs=>.unNil vs (.loadB (Addr.add ⟨r,0,none⟩ 0) fun b=>.loadB (Addr.add ⟨r,0,none⟩ 1) fun b_1=>.loadB (Addr.add ⟨r,0,none⟩ 2) fun b_2=>.loadB (Addr.add ⟨r,0,none⟩ 3) fun b_3=>.rt (.agg #[b,b_1,b_2,b_3]))) (fun vs=>.pi vs fun n vs=>.unNil vs (.rt (.agg #[false,false,false,false]))) fun x x_1=>.fail
theorem w3316(o:Option Addr):FX X 61 #[.pointer o] h A (n3316 o):=fk [2] [⟨0,[(10,.int .i64)],[2],[],[],[]⟩] [] Tryz.f61
end Go.Y
end
namespace Go.TM
section
variable {sy:Sy} {t u:Trace} {n ng:Nat} {hold hold':Nat->Key->Option Bool} {gone gone':Nat->Prop}
structure SyncOp(sy:Sy)(g:Nat)(op:MemOp):Prop where
 who:op.g=g
 touch:∀ x,op.act.touch?=some x->x.kind≠.plain/\(x.kind=.said->g=0)/\∀ k,key? x.loc=some k->sy.use g k.1
 norel:∀ a,op.act≠.mark (.release a)
def Sy.deafen(sy:Sy)(g d:Nat):Sy:=⟨sy.sp,sy.use,fun i=>if i=g then d else sy.dp i⟩
theorem SyncOp.new{g:Nat}(hu:∀ op∈u,SyncOp sy g op){p:Nat}{k:Key}{b:Bool}(ht:Touches (t++u) p k b)(hp:¬ p<t.size):(∃ op,(t++u)[p]?=some op/\op.g=g)/\sy.use g k.1/\¬ Plain (t++u) p:=by
 obtain⟨op,x,h1,h2,h3,h4⟩:=ht;rcases getElem?_append_cases h1 with⟨hp',_⟩|⟨_,hop⟩
 ·exact absurd hp' hp
 ·refine⟨⟨op,h1,(hu op hop).who⟩,((hu op hop).touch x h2).2.2 k h3,?_⟩;rintro⟨op',x',h1',h2',h3'⟩;rw[h1]at h1';cases h1';rw[h2]at h2';cases h2';exact((hu op hop).touch x h2).1 h3'
theorem TI.sync(h:TI sy t n ng hold gone){g:Nat}(hgn:g<ng)(hng:¬ gone g)(hu:∀ op∈u,SyncOp sy g op):TI (sy.deafen g (Deaf (t++u) g)) (t++u) n ng hold gone:=by
 have old:∀ p k b,¬ sy.sp k.1->Touches (t++u) p k b->Touches t p k b:=by
  intro p k b hs ht;rcases Nat.lt_or_ge p t.size with hp|hp
  ·exact ht.old hp
  ·exact absurd (h.acc g k.1 (SyncOp.new hu ht (Nat.not_lt.2 hp)).2.1).1 hs
 refine⟨?_,?_,h.spl,?_,h.held,h.excl,fun i k hb p b ht=>(h.own i k hb p b (old p k b (h.held i k _ hb).2 ht)).append,fun i k b hb p ht=>(h.shared i k b hb p (old p k true (h.held i k _ hb).2 ht)).append,?_,?_,?_,?_,?_,fun op hop a=>(Array.mem_append.1 hop).elim (fun hop=>h.norel op hop a) fun hop=>(hu op hop).norel a⟩
 ·intro i hi;show _=if i=g then _ else _
  by_cases e:i=g
  ·rw[if_pos e,e]
  ·rw[if_neg e,Deaf_other t (fun e'=>e e'.symm) _ (fun op hop=>(hu op hop).who)];exact h.hears i hi
 ·intro op hop;rcases Array.mem_append.1 hop with hop|hop
  ·exact h.who op hop
  ·rw[(hu op hop).who];exact hgn
 ·intro p k b ht;rcases Nat.lt_or_ge p t.size with hp|hp
  ·exact h.lt p k b (ht.old hp)
  ·exact h.spl _ (h.acc g k.1 (SyncOp.new hu ht (Nat.not_lt.2 hp)).2.1).1
 ·intro i j k b b' hs hij hi hj hw;exact(h.norace i j k b b' hs hij (old i k b hs hi) (old j k b' hs hj) hw).append
 ·intro i j k b b' hs hij hi hj hw hp;rcases Nat.lt_or_ge j t.size with hlt|hge
  ·have hi':=Nat.lt_trans hij hlt;exact(h.spc i j k b b' hs hij (hi.old hi') (hj.old hlt) hw (hp.imp (·.old hi') (·.old hlt))).append
  ·obtain⟨⟨z,hz,hzg⟩,huse,hnp⟩:=SyncOp.new hu hj (Nat.not_lt.2 hge);rcases hp with hp|hp
   ·rcases Nat.lt_or_ge i t.size with hi'|hi'
    ·have hk:=(h.acc g k.1 huse).2 i k b rfl (hi.old hi') (hp.old hi');rw[<- hzg]at hk;exact hk.new hz hge
    ·exact absurd hp (SyncOp.new hu hi (Nat.not_lt.2 hi')).2.2
   ·exact absurd hp hnp
 ·intro p op x hp hx hk;rcases getElem?_append_cases hp with⟨_,hp'⟩|⟨_,hop⟩
  ·exact h.said p op x hp' hx hk
  ·rw[(hu op hop).who];exact((hu op hop).touch x hx).2.1 hk
 ·intro i r hr;obtain⟨h1,h2⟩:=h.acc i r hr;refine⟨h1,fun p k b hk ht hp=>?_⟩;rcases Nat.lt_or_ge p t.size with hlt|hge
  ·exact(h2 p k b hk (ht.old hlt) (hp.old hlt)).append
  ·exact absurd hp (SyncOp.new hu ht (Nat.not_lt.2 hge)).2.2
 ·intro i hi p op hp hop hc;rcases getElem?_append_cases hp with⟨hpt,hp'⟩|⟨_,hm⟩
  ·exact(h.handed i hi p op hp' hop ((counts_old hpt).1 hc)).append
  ·rw[<- hop,(hu op hm).who]at hi;exact absurd hi hng
end
section
variable {P:Program} {Φ:Value->World->Prop} {sy:Sy} {n0:Nat} {w0:World} {h:LH} {ws:Crew} {w:World} {t:Trace} {sl:Option (Nat×Nat)} {dz:Nat}
def lockMark:Mark->Bool
 | .disable=>true
 | .enable=>true
 | .acquire _=>true
 | .releaseMerge _=>true
 | _=>false
def Marks(es:Array Event):Prop:=∀ e∈es,∃ m,e.loc=.mark m/\lockMark m=true
theorem lockMark_touch{e:Event}{m:Mark}(h:e.loc=.mark m)(hm:lockMark m=true):(MemAct.ofEvent e).touch?=none/\∀ a,MemAct.ofEvent e≠.mark (.release a):=by
 obtain⟨loc,wr,sy⟩:=e;simp only at h;subst h;cases m<;>first|(cases hm;done)|(constructor<;>simp[MemAct.ofEvent,MemAct.touch?])
theorem Mem.marks{chans:List Nat}{cs:Nat->Cells}{ng:Nat}{gone:Nat->Prop}(m:Mem sy n0 w0 chans cs ng gone w t)(hng:¬ gone 0){es:Array Event}(hm:Marks es)(fn:FuncId)(pos:String) :
  Mem (sy.deafen 0 (deafBehind (sy.dp 0) es)) n0 w0 chans cs ng gone w (t++MemOp.ofEvents 0 fn pos es):=by
 have hu:∀ op∈MemOp.ofEvents 0 fn pos es,SyncOp sy 0 op:=by
  intro op hop;obtain⟨h1,e,he,ha⟩:=ofEvents_mem hop;obtain⟨mk,hl,hk⟩:=hm e he;obtain⟨h2,h3⟩:=lockMark_touch hl hk;refine⟨h1,fun x hx=>?_,fun a=>?_⟩
  ·rw[ha,h2]at hx;cases hx
  ·rw[ha];exact h3 a
 have hT:=m.ti.sync m.pos hng hu;rw[Deaf_own,m.ti.hears 0 hng]at hT;exact⟨m.fits,m.whole,fun g hg=>by show (if g=0 then _ else _)=0;rw[if_neg hg];exact m.dp0 g hg,hT,m.chan,m.free,m.out,m.pos,m.base,m.low,m.size,m.os,m.tape,m.output⟩
theorem topD_marks{g:Goroutine}(hg:g.status=.running){N:Goroutine->Prop}{es:Array Event}(hm:Marks es)(hs:∀ w,Fits h.get w->∃ g',stepG P true g w=.go g' w es/\N g')(hN:∀ g',N g'->TopD (deafBehind dz es) P n0 w0 Φ g' h):TopD dz P n0 w0 Φ g h:=by
 refine drive hg fun sy ws w sl t I=>.inl ?_;obtain⟨g',hgo,hn⟩:=hs w (I.mem.fits 0);have hm':=I.mem.marks (fun e=>e) hm g.frame.fn g.frame.place;rw[I.deep]at hm';refine⟨_,_,runT_crowd_go (crew_get0 g ws) hgo,?_⟩;have ho:OpenAt h w:=I.mem.chan;rw[crew_woken I.wk I.scripts ho (by unfold woken;split;exact again_running _ (.inl hg);rfl),crew_set0];exact hN g' hn _ ws w sl _ ⟨hm',I.wk,I.scripts,I.pend,fun i x hx=>by
  rw[Deaf_other t (g:=i+1) (g':=0) (by omega) _ (fun op hop=>(ofEvents_mem hop).1)];exact I.quit i x hx,by simp[Sy.deafen]⟩
theorem topD_own{g:Goroutine}(hg:g.status=.running){N:Goroutine->LH->Prop}(hs:∀ w,Fits h.get w->∃ g' w' es h',stepG P true g w=.go g' w' es/\Tr h.get w h' w'/\(∀ e∈es,EvS h.get w.heap.size w'.heap.size e)/\N g' { h with get:=h' })(hN:∀ g' h',N g' h'->TopD dz P n0 w0 Φ g' h'):TopD dz P n0 w0 Φ g h:=by
 refine drive hg fun sy ws w sl t I=>.inl ?_;obtain⟨g',w',es,h',hgo,tr,hes,hn⟩:=hs w (I.mem.fits 0);have hm:=I.mem.stepS (j:=0) I.mem.pos (fun e=>e) g.frame.fn g.frame.place tr hes;rw[cellsOf_main h ws h' h.chans h.pend h.todo]at hm;refine⟨_,_,runT_crowd_go (crew_get0 g ws) hgo,?_⟩;have ho:OpenAt h w':=hm.chan;rw[crew_woken I.wk I.scripts ho (by unfold woken;split;exact again_running _ (.inl hg);rfl),crew_set0];exact hN g' { h with get:=h' } hn _ ws w' sl _ ⟨hm,I.wk,I.scripts,I.pend,fun i x hx=>by
  rw[Deaf_other t (g:=i+1) (g':=0) (by omega) _ (fun op hop=>(ofEvents_mem hop).1)];exact I.quit i x hx,I.deep⟩
inductive Lk(P:Program)(K:Goroutine->LH->Prop):Nat->Goroutine->LH->Prop
 | done {g:Goroutine} {h:LH}:K g h->Lk P K 0 g h
 | own {d:Nat} {g:Goroutine} {h:LH} {N:Goroutine->LH->Prop}:g.status=.running ->
   (∀ w,Fits h.get w->∃ g' w' es h',stepG P true g w=.go g' w' es/\Tr h.get w h' w'/\(∀ e∈es,EvS h.get w.heap.size w'.heap.size e)/\N g' { h with get:=h' })->(∀ g' h',N g' h'->Lk P K d g' h')->Lk P K d g h
 | marks {d:Nat} {g:Goroutine} {h:LH} {N:Goroutine->Prop} {es:Array Event}:g.status=.running->Marks es->(∀ w,Fits h.get w->∃ g',stepG P true g w=.go g' w es/\N g')->(∀ g',N g'->Lk P K (deafBehind d es) g' h)->Lk P K d g h
theorem EvS.frame{h k:Cells}{n n':Nat}{e:Event}(he:EvS h n n' e):EvS (h.add k) n n' e:=EvOk.frame he
theorem Lk.frame{K:Goroutine->LH->Prop}{d:Nat}{g:Goroutine}{h:LH}(l:Lk P K d g h):∀ {k:Cells},Disj h.get k->Lk P (fun g' h₂=>∃ h',Disj h'.get k/\h₂=h'.add k/\K g' h') d g (h.add k):=by
 induction l with
 | done hk=>intro k dj;exact .done ⟨_,dj,rfl,hk⟩
 | @own d g h N hg hs _ ih =>
  intro k dj;refine .own (N:=fun g' h₂=>∃ h',Disj h'.get k/\h₂=h'.add k/\N g' h') hg ?_ ?_
  ·intro w hf;obtain⟨g',w',es,h',h1,h2,h3,h4⟩:=hs w hf.left;obtain⟨d',t⟩:=h2.frame dj hf;exact⟨g',w',es,h'.add k,h1,t,fun e he=>(h3 e he).frame,{ h with get:=h' },d',rfl,h4⟩
  ·rintro g' _ ⟨h',d',rfl,hn⟩;exact ih g' h' hn d'
 | marks hg hm hs _ ih =>
  intro k dj;exact .marks hg hm (fun w hf=>hs w hf.left) fun g' hn=>ih g' hn dj
def XL:XP where
 cond P main R:=XT.cond P main R/\∀ g h K,Lk P K 0 g h->(∀ g' h',K g' h'->R g' h')->R g h
 stk _ _ _:=True
theorem XL_ok:XOK XL where
 frame P main R k hR hc:=by
  refine⟨XT_ok.frame P main R k hR hc.1,?_⟩;intro g h K hl hk dj;refine hc.2 g (h.add k) _ (hl.frame dj) ?_;rintro g' _ ⟨h',d',rfl,hkk⟩;exact hk g' h' hkk d'
 stk _ _:=trivial
theorem top_lock{K:Goroutine->LH->Prop}(hk:∀ g' h',K g' h'->Top P n0 w0 Φ g' h'){d:Nat}{g:Goroutine}{h:LH}(l:Lk P K d g h):TopD d P n0 w0 Φ g h:=by
 induction l with
 | done h=>exact hk _ _ h
 | own hg hs _ ih=>exact topD_own hg hs ih
 | marks hg hm hs _ ih=>exact topD_marks hg hm hs ih
theorem topL_closed(P:Program)(n0:Nat)(w0:World)(Φ:Value->World->Prop):Closed XL P true (Top P n0 w0 Φ) :=
 ⟨(top_closed P n0 w0 Φ).1,(top_closed P n0 w0 Φ).2,fun _ _ _ hl hk=>top_lock hk hl⟩
theorem FW.upL{kd:CallKind}{f:FuncId}{args:Array Value}{h:LH}{Q:Value->LH->Prop}(c:FWK XT P kd f args h Q):FWK XL P kd f args h Q :=
 ⟨c.1,fun main R hR cs _ hk=>c.2 main R ⟨hR.1,hR.2.1⟩ cs trivial hk⟩
theorem run_wellL{f:FuncId}{args:Array Value}{get:Cells}{w0:World}{Q:Value->LH->Prop}(hF:Fits get w0)(hno:∀ r x,get r=some x->x.1=false)(hwh:∀ r b o,get r=some (b,o)->∀ i,¬ isHole o i)(hin:P.inits.idxOf? f=none)
 (c:FWK XL P .normal f args ⟨get,[],[],[]⟩ Q)(hQ:∀ v h',Q v h'->h'.pend=[]/\∀ w',Fits h'.get w'->KeptW w0.heap.size w0 w'->Φ v w'):EndsWell P Φ (solo (G (Frame.enter P f args .normal) []) w0) #[]:=by
 have hT:Top P w0.heap.size w0 Φ (G (Frame.enter P f args .normal) []) ⟨get,[],[],[]⟩:=by
  refine c.2 true _ (topL_closed P _ w0 Φ) [] trivial ?_;intro fr v h' k hfn d hr hq;obtain⟨hp,hΦ⟩:=hQ v h' hq;exact top_ret (h:=h'.add k) hr (by rw[hfn];exact hin) hp fun w' hf hk=>hΦ w' hf.left hk
 exact top_start hF hno hwh hT
def RS(S:World->Prop)(w w₁:World):Prop:=S w->S w₁
abbrev IdleS(P:Program)(S:World->Prop)(Stop:Goroutine->World->Prop)(g:Goroutine)(w:World):Prop:=∃ m,Goes P true (RS S) Go.ConcR.DC0 Stop m g w
theorem rsF{S:World->Prop}{w w₁:World}(h:S w)(r:RS S w w₁):S w₁:=r h
theorem goes_elimL{s:GStep}{K:Goroutine->World->Array Event->Prop}(h:s.goes K):∃ g w es,s=.go g w es/\K g w es:=by
 cases s<;>first|exact⟨_,_,_,rfl,h⟩|exact h.elim
theorem lk_idle{R:Goroutine->LH->Prop}{d:Nat}{h:LH}{S:World->Prop}{Stop:Goroutine->World->Prop}(hS:∀ w,Fits h.get w->S w)(K:∀ g,(∀ w,S w->Stop g w)->Lk P R d g h):∀ (m:Nat) (g:Goroutine) (w:World),S w->Goes P true (RS S) Go.ConcR.DC0 Stop m g w->Lk P R d g h:=by
 intro m
 induction m with
 | zero=>intro g w hw hG;exact K g fun w₁ h₁=>hG w₁ fun _=>h₁
 | succ m ih =>
  intro g w hw hG;rcases hG with hG|⟨hg,hG⟩
  ·exact K g fun w₁ h₁=>hG w₁ fun _=>h₁
  ·refine .own (N:=fun g' h'=>h'=h/\∃ w,S w/\Goes P true (RS S) Go.ConcR.DC0 Stop m g' w) hg (fun w₁ hf=>?_) ?_
   ·have h₁:=hS w₁ hf;obtain⟨g',w',es,a1,⟨a2,a3⟩,a4⟩:=goes_elimL (hG w₁ fun _=>h₁);subst a2 a3;exact⟨g',_,_,h.get,a1,Tr.refl hf,by simp,rfl,_,h₁,a4⟩
   ·rintro g' h' ⟨rfl,w,hw,hG'⟩;exact ih g' w hw hG'
theorem lk_idle'{R:Goroutine->LH->Prop}{d:Nat}{h:LH}{S:World->Prop}{Stop:Goroutine->World->Prop}(hS:∀ w,Fits h.get w->S w)(K:∀ g,(∀ w,S w->Stop g w)->Lk P R d g h){g:Goroutine}{w:World}(hw:S w)(hG:IdleS P S Stop g w):Lk P R d g h:=by
 obtain⟨m,hG⟩:=hG;exact lk_idle hS K m g w hw hG
def AtMarkS(P:Program)(m:Mark)(Next:Goroutine->World->Prop)(g:Goroutine)(w:World):Prop :=
 g.status=.running/\∃ g',stepG P true g w=.go g' w #[Go.ConcR.mk m]/\Next g' w
def AtPut(P:Program)(a:Addr)(v:Value)(Next:Goroutine->World->Prop)(g:Goroutine)(w:World):Prop :=
 g.status=.running/\∃ g',stepG P true g w=.go g' (w.setCell a v) #[Go.ConcR.rd a,Go.ConcR.wr a]/\Next g' (w.setCell a v)
def AtLook(P:Program)(a:Addr)(Next:Goroutine->World->Prop)(g:Goroutine)(w:World):Prop :=
 g.status=.running/\(stepG P true g w).goes fun g' w' es=>w'=w/\(∀ e∈es,e.loc=.cell a/\e.write=false)/\Next g' w'
theorem lk_look{R:Goroutine->LH->Prop}{d:Nat}{h:LH}{S:World->Prop}{a:Addr}{v₀:Value}{Next:Goroutine->World->Prop}{g:Goroutine}(hc:h.get.cell? a=some v₀)(hS:∀ w,Fits h.get w->S w)(hw:∃ w,S w)(hA:∀ w,S w->AtLook P a Next g w)
 (K:∀ g' w,S w->Next g' w->Lk P R d g' h):Lk P R d g h:=by
 obtain⟨w₀,hw₀⟩:=hw;refine .own (N:=fun g' h'=>h'=h/\∃ w,S w/\Next g' w) (hA w₀ hw₀).1 (fun w hf=>?_) ?_
 ·obtain⟨_,hg⟩:=hA w (hS w hf);obtain⟨g',w',es,a1,rfl,a2,a3⟩:=goes_elimL hg;refine⟨g',_,es,h.get,a1,Tr.refl hf,fun e he=>?_,rfl,_,hS _ hf,a3⟩;obtain⟨x,hx,hh⟩:=cell?_block hc;obtain⟨loc,wr,sy⟩:=e;obtain⟨b1,b2⟩:=a2 _ he;simp only at b1 b2;subst b1 b2;exact⟨rfl,.inr ⟨x,hx,fun hh=>(by cases hh),hh⟩⟩
 ·rintro g' h' ⟨rfl,w,h1,h2⟩;exact K g' w h1 h2
theorem lk_mark{R:Goroutine->LH->Prop}{d:Nat}{h:LH}{S:World->Prop}{m:Mark}{Next:Goroutine->World->Prop}{g:Goroutine}(hm:lockMark m=true)(hS:∀ w,Fits h.get w->S w)(hw:∃ w,S w)(hA:∀ w,S w->AtMarkS P m Next g w)(K:∀ g' w,S w->Next g' w->Lk P R (deafBehind d #[Go.ConcR.mk m]) g' h):Lk P R d g h:=by
 obtain⟨w₀,hw₀⟩:=hw;refine .marks (es:=#[Go.ConcR.mk m]) (N:=fun g'=>∃ w,S w/\Next g' w) (hA w₀ hw₀).1 ?_ (fun w hf=>?_) ?_
 ·intro e he;simp only[List.mem_toArray,List.mem_cons,List.not_mem_nil,or_false]at he;subst he;exact⟨m,rfl,hm⟩
 ·obtain⟨_,g',a1,a2⟩:=hA w (hS w hf);exact⟨g',a1,w,hS w hf,a2⟩
 ·rintro g' ⟨w,h1,h2⟩;exact K g' w h1 h2
theorem lk_put{R:Goroutine->LH->Prop}{d:Nat}{h:LH}{S:World->Prop}{a:Addr}{v v₀:Value}{Next:Goroutine->World->Prop}{g:Goroutine}(hv:isOne v=true)(hc:h.get.cell? a=some v₀)(hown:h.get.own a.block)(hS:∀ w,Fits h.get w->S w)(hw:∃ w,S w)(hA:∀ w,S w->AtPut P a v Next g w)
 (K:∀ g' w,S w->Next g' (w.setCell a v)->Lk P R d g' { h with get:=h.get.setCell a v }):Lk P R d g h:=by
 obtain⟨w₀,hw₀⟩:=hw;refine .own (N:=fun g' h'=>h'={ h with get:=h.get.setCell a v }/\∃ w,S w/\Next g' (w.setCell a v)) (hA w₀ hw₀).1 (fun w hf=>?_) ?_
 ·obtain⟨_,g',a1,a2⟩:=hA w (hS w hf);refine⟨g',_,_,h.get.setCell a v,a1,tr_set hf hv hc hown,?_,rfl,w,hS w hf,a2⟩;obtain⟨x,hx,hh⟩:=cell?_block hc;obtain⟨o,ho⟩:=hown;have hx1:x.1=true:=by rw[hx]at ho;cases ho;rfl
  intro e he;simp only[List.mem_toArray,List.mem_cons,List.not_mem_nil,or_false]at he;rcases he with rfl|rfl
  ·exact⟨rfl,.inr ⟨x,hx,fun _=>hx1,hh⟩⟩
  ·exact⟨rfl,.inr ⟨x,hx,fun _=>hx1,hh⟩⟩
 ·rintro g' h' ⟨rfl,w,h1,h2⟩;exact K g' w h1 h2
end
end Go.TM
namespace Go.TM.LkW
section
open Go.ConcN Go.RowKit Go.Conc.Lib Go.ConcR.Gen Go.Conc.Locks
open Go.ConcR (mk rd wr DC0)
variable {L:MuLink} {P:Program}
def LkAt(a:Addr)(s:Int)(w:World):Prop:=w.cell? a=some (.int .i32 s)/\w.frozen? a=false
def RetK(kd:CallKind)(f:FuncId)(cs:List Frame)(g:Goroutine):Prop:=∃ fr,g=G fr cs/\fr.fn=f/\fr.mode=.returning/\fr.defers=[]/\fr.kind=kd
def body_lock(L:MuLink):Code:=(lockFn L).body.getD .skip
def body_unlock(L:MuLink):Code:=(unlockFn L).body.getD .skip
theorem xd_n : ((disableFn L).name == "runtime.NumGoroutine") = false := by kernel_rfl
theorem xd_f:Extern.findNext (disableFn L)=none:=by kernel_rfl
theorem xd_x:Extern.find (disableFn L)=some (fun _=>do mark .disable;pure Extern.Race.none_):=by kernel_rfl
theorem xe_n : ((enableFn L).name == "runtime.NumGoroutine") = false := by kernel_rfl
theorem xe_f:Extern.findNext (enableFn L)=none:=by kernel_rfl
theorem xe_x:Extern.find (enableFn L)=some (fun _=>do mark .enable;pure Extern.Race.none_):=by kernel_rfl
theorem xa_n : ((acquireFn L).name == "runtime.NumGoroutine") = false := by kernel_rfl
theorem xa_f:Extern.findNext (acquireFn L)=none:=by kernel_rfl
theorem xa_x:Extern.find (acquireFn L)=some (Extern.Race.marked .acquire):=by kernel_rfl
theorem xr_n : ((relMergeFn L).name == "runtime.NumGoroutine") = false := by kernel_rfl
theorem xr_f:Extern.findNext (relMergeFn L)=none:=by kernel_rfl
theorem xr_x:Extern.find (relMergeFn L)=some (Extern.Race.marked .releaseMerge):=by kernel_rfl
theorem xc_n : ((cas32Fn L).name == "runtime.NumGoroutine") = false := by kernel_rfl
theorem xc_f:Extern.findNext (cas32Fn L)=none:=by kernel_rfl
theorem xc_x:Extern.find (cas32Fn L)=some (Extern.Atomic.casT (.int .i32)):=by kernel_rfl
theorem xp_n : ((add32Fn L).name == "runtime.NumGoroutine") = false := by kernel_rfl
theorem xp_f:Extern.findNext (add32Fn L)=none:=by kernel_rfl
theorem xp_x:Extern.find (add32Fn L)=some (Extern.Atomic.update (Op.intArith .add) .i32 true):=by kernel_rfl
theorem nm_il : ((ilockFn L).name == "runtime.NumGoroutine") = false := by kernel_rfl
theorem nm_iu : ((iunlockFn L).name == "runtime.NumGoroutine") = false := by kernel_rfl
theorem lkAt_set{a:Addr}{s s':Int}{w:World}(h:LkAt a s w):LkAt a s' (w.setCell a (.int .i32 s')):=by
 refine⟨?_,?_⟩
 ·have h1:=h.1;simp[go_sem,h1]
 ·have h1:=h.2;simp[go_sem,h1]
set_option maxHeartbeats 4000000 in
theorem lockW(H:MuLib P L){a:Addr}{cs:List Frame}(w:World)(hF:LkAt a 0 w) :
  IdleS P (LkAt a 0) (AtMarkS P .disable (IdleS P (LkAt a 0) (AtPut P a (.int .i32 1) (IdleS P (LkAt a 1) (AtMarkS P .enable (IdleS P (LkAt a 1) (AtMarkS P (.acquire a) (IdleS P (LkAt a 1) fun g _=>RetK .normal L.lock cs g))))))))
   (G ((base L.lock).at ⟨#[.pointer (some a),undef,undef,undef,undef,undef],[]⟩ [.code (body_lock L)]) cs) w:=by
 have m_underlying_tIMutex:=H.underlying_tIMutex;have m_runUnderlying_tIMutex:=H.runUnderlying_tIMutex;have m_sizeOf_tIMutex:=H.sizeOf_tIMutex;have m_isAgg_tIMutex:=H.isAgg_tIMutex;have m_zeroValue_tIMutex:=H.zeroValue_tIMutex;have m_underlying_tMutex:=H.underlying_tMutex;have m_runUnderlying_tMutex:=H.runUnderlying_tMutex;have m_sizeOf_tMutex:=H.sizeOf_tMutex;have m_isAgg_tMutex:=H.isAgg_tMutex;have m_zeroValue_tMutex:=H.zeroValue_tMutex;have m_underlying_tPMutex:=H.underlying_tPMutex;have m_runUnderlying_tPMutex:=H.runUnderlying_tPMutex;have m_sizeOf_tPMutex:=H.sizeOf_tPMutex;have m_isAgg_tPMutex:=H.isAgg_tPMutex;have m_zeroValue_tPMutex:=H.zeroValue_tPMutex;have m_underlying_tPIMutex:=H.underlying_tPIMutex;have m_runUnderlying_tPIMutex:=H.runUnderlying_tPIMutex;have m_sizeOf_tPIMutex:=H.sizeOf_tPIMutex;have m_isAgg_tPIMutex:=H.isAgg_tPIMutex;have m_zeroValue_tPIMutex:=H.zeroValue_tPIMutex;have m_underlying_tPI32:=H.underlying_tPI32;have m_runUnderlying_tPI32:=H.runUnderlying_tPI32;have m_sizeOf_tPI32:=H.sizeOf_tPI32;have m_isAgg_tPI32:=H.isAgg_tPI32;have m_zeroValue_tPI32:=H.zeroValue_tPI32;have m_underlying_tUP:=H.underlying_tUP;have m_runUnderlying_tUP:=H.runUnderlying_tUP;have m_sizeOf_tUP:=H.sizeOf_tUP;have m_isAgg_tUP:=H.isAgg_tUP;have m_zeroValue_tUP:=H.zeroValue_tUP;have m_underlying_tNoCopy:=H.underlying_tNoCopy;have m_runUnderlying_tNoCopy:=H.runUnderlying_tNoCopy;have m_sizeOf_tNoCopy:=H.sizeOf_tNoCopy;have m_isAgg_tNoCopy:=H.isAgg_tNoCopy;have m_zeroValue_tNoCopy:=H.zeroValue_tNoCopy;have m_underlying_t21:=H.underlying_t21;have m_runUnderlying_t21:=H.runUnderlying_t21;have m_sizeOf_t21:=H.sizeOf_t21;have m_isAgg_t21:=H.isAgg_t21;have m_zeroValue_t21:=H.zeroValue_t21;refine⟨100,?_⟩;simp only[body_lock,lockFn,Option.getD_some];u_reg rsF hF;u_op rsF hF;u_op rsF hF;u_op rsF hF;u_call H.f_ilock nm_il ilockFn rsF hF;u_c stepG_seq rsF hF;u_reg rsF hF;refine Goes.stop (fun w1 h1=>?_);replace hF:=rsF hF h1;clear h1;refine⟨rfl,_,stepG_mark0 .disable (by simp) rfl rfl (by k_ne) rfl H.f_disable xd_n rfl xd_f xd_x,100,?_⟩;walk_nrm;u_c stepG_region_end rsF hF;u_c stepG_seq rsF hF;u_c stepG_seq rsF hF;u_reg rsF hF;u_op rsF hF;u_op rsF hF;u_op rsF hF;refine Goes.stop (fun w2 h2=>?_);replace hF:=rsF hF h2;clear h2;refine⟨rfl,_,stepG_cas_hit rfl rfl (by k_ne) rfl H.f_cas32 xc_n rfl xc_f .i32 xc_x rfl rfl rfl hF.1 hF.2,100,?_⟩;replace hF:=lkAt_set (s':=1) hF;walk_nrm;u_c stepG_region_end rsF hF;u_cond true rsF hF;u_c stepG_seq rsF hF;u_cond true rsF hF;u_c stepG_seq rsF hF;u_reg rsF hF;refine Goes.stop (fun w3 h3=>?_);replace hF:=rsF hF h3;clear h3;refine⟨rfl,_,stepG_mark0 .enable (by simp) rfl rfl (by k_ne) rfl H.f_enable xe_n rfl xe_f xe_x,100,?_⟩;walk_nrm;u_c stepG_region_end rsF hF;u_reg rsF hF;u_op rsF hF
 u_in rsF hF
 refine goes_oper_k rfl rfl (by k_ne) (fun Kx hKx=>?_);have hcv:=run_convert_to_unsafe (P:=P) (src:=L.tPIMutex) (dst:=L.tUP) H.underlying_tPIMutex H.underlying_tUP H.room_tIMutex hF.1;have hce:=fun es=>events_convert_to_unsafe (P:=P) (src:=L.tPIMutex) (dst:=L.tUP) H.underlying_tPIMutex H.underlying_tUP H.room_tIMutex hF.1 es
 go_simp
 refine hKx _ _ ⟨?_,?_⟩
 ·u_none
  intro ex hex;have hmx:=mem_listed hex;simp[go_sem,hce]at hmx
 clear hKx Kx hcv hce;refine Goes.stop (fun w4 h4=>?_);replace hF:=rsF hF h4;clear h4;refine⟨rfl,_,stepG_markAt .acquire (by simp) rfl rfl (by k_ne) rfl H.f_acquire xa_n rfl xa_f xa_x (ad:=a) (by simp[Act.eval]),100,?_⟩;walk_nrm;u_c stepG_region_end rsF hF;u_c stepG_ret' rsF hF
 u_leave0 H.f_ilock rsF hF
 u_c stepG_region_end rsF hF;u_c stepG_end rsF hF;exact Goes.stop fun _ _=>⟨_,rfl,rfl,rfl,rfl,rfl⟩
set_option maxHeartbeats 4000000 in
theorem unlockD(H:MuLib P L){a:Addr}{cs:List Frame}(w:World)(hF:LkAt a 1 w) :
  IdleS P (LkAt a 1) (AtLook P a (IdleS P (LkAt a 1) (AtMarkS P (.releaseMerge a) (IdleS P (LkAt a 1) (AtMarkS P .disable (IdleS P (LkAt a 1) (AtPut P a (.int .i32 0) (IdleS P (LkAt a 0) (AtMarkS P .enable (IdleS P (LkAt a 0) fun g _=>RetK .deferred L.unlock cs g))))))))))
   (G ((baseD L.unlock).at ⟨#[.pointer (some a),undef,undef,undef,undef,undef],[]⟩ [.code (body_unlock L)]) cs) w:=by
 have m_underlying_tIMutex:=H.underlying_tIMutex;have m_runUnderlying_tIMutex:=H.runUnderlying_tIMutex;have m_sizeOf_tIMutex:=H.sizeOf_tIMutex;have m_isAgg_tIMutex:=H.isAgg_tIMutex;have m_zeroValue_tIMutex:=H.zeroValue_tIMutex;have m_underlying_tMutex:=H.underlying_tMutex;have m_runUnderlying_tMutex:=H.runUnderlying_tMutex;have m_sizeOf_tMutex:=H.sizeOf_tMutex;have m_isAgg_tMutex:=H.isAgg_tMutex;have m_zeroValue_tMutex:=H.zeroValue_tMutex;have m_underlying_tPMutex:=H.underlying_tPMutex;have m_runUnderlying_tPMutex:=H.runUnderlying_tPMutex;have m_sizeOf_tPMutex:=H.sizeOf_tPMutex;have m_isAgg_tPMutex:=H.isAgg_tPMutex;have m_zeroValue_tPMutex:=H.zeroValue_tPMutex;have m_underlying_tPIMutex:=H.underlying_tPIMutex;have m_runUnderlying_tPIMutex:=H.runUnderlying_tPIMutex;have m_sizeOf_tPIMutex:=H.sizeOf_tPIMutex;have m_isAgg_tPIMutex:=H.isAgg_tPIMutex;have m_zeroValue_tPIMutex:=H.zeroValue_tPIMutex;have m_underlying_tPI32:=H.underlying_tPI32;have m_runUnderlying_tPI32:=H.runUnderlying_tPI32;have m_sizeOf_tPI32:=H.sizeOf_tPI32;have m_isAgg_tPI32:=H.isAgg_tPI32;have m_zeroValue_tPI32:=H.zeroValue_tPI32;have m_underlying_tUP:=H.underlying_tUP;have m_runUnderlying_tUP:=H.runUnderlying_tUP;have m_sizeOf_tUP:=H.sizeOf_tUP;have m_isAgg_tUP:=H.isAgg_tUP;have m_zeroValue_tUP:=H.zeroValue_tUP;have m_underlying_tNoCopy:=H.underlying_tNoCopy;have m_runUnderlying_tNoCopy:=H.runUnderlying_tNoCopy;have m_sizeOf_tNoCopy:=H.sizeOf_tNoCopy;have m_isAgg_tNoCopy:=H.isAgg_tNoCopy;have m_zeroValue_tNoCopy:=H.zeroValue_tNoCopy;have m_underlying_t21:=H.underlying_t21;have m_runUnderlying_t21:=H.runUnderlying_t21;have m_sizeOf_t21:=H.sizeOf_t21;have m_isAgg_t21:=H.isAgg_t21;have m_zeroValue_t21:=H.zeroValue_t21;refine⟨100,?_⟩;simp only[body_unlock,unlockFn,Option.getD_some];u_reg rsF hF;u_op rsF hF;u_op rsF hF;u_op rsF hF;u_call H.f_iunlock nm_iu iunlockFn rsF hF;u_c stepG_seq rsF hF;u_cond true rsF hF;u_c stepG_seq rsF hF;u_reg rsF hF;u_op rsF hF;u_op rsF hF;u_op rsF hF;refine Goes.stop (fun w0 h0=>?_);replace hF:=rsF hF h0;clear h0;have hcc:=hF.1;refine⟨rfl,?_⟩;refine goes_oper_k rfl rfl (by k_ne) (fun K hK=>?_)
 go_simp
 refine hK _ _ ⟨rfl,?_,100,?_⟩
 ·intro e he;have hm:=mem_listed he;simp[go_sem, *]at hm;rw[hm];exact⟨rfl,rfl⟩
 clear hK K hcc;u_c stepG_region_end rsF hF;u_c stepG_seq rsF hF;u_reg rsF hF;u_op rsF hF
 u_in rsF hF
 refine goes_oper_k rfl rfl (by k_ne) (fun Kx hKx=>?_);have hcv:=run_convert_to_unsafe (P:=P) (src:=L.tPIMutex) (dst:=L.tUP) H.underlying_tPIMutex H.underlying_tUP H.room_tIMutex hF.1;have hce:=fun es=>events_convert_to_unsafe (P:=P) (src:=L.tPIMutex) (dst:=L.tUP) H.underlying_tPIMutex H.underlying_tUP H.room_tIMutex hF.1 es
 go_simp
 refine hKx _ _ ⟨?_,?_⟩
 ·u_none
  intro ex hex;have hmx:=mem_listed hex;simp[go_sem,hce]at hmx
 clear hKx Kx hcv hce;refine Goes.stop (fun w1 h1=>?_);replace hF:=rsF hF h1;clear h1;refine⟨rfl,_,stepG_markAt .releaseMerge (by simp) rfl rfl (by k_ne) rfl H.f_relMerge xr_n rfl xr_f xr_x (ad:=a) (by simp[Act.eval]),100,?_⟩;walk_nrm;u_c stepG_region_end rsF hF;u_reg rsF hF;refine Goes.stop (fun w2 h2=>?_);replace hF:=rsF hF h2;clear h2;refine⟨rfl,_,stepG_mark0 .disable (by simp) rfl rfl (by k_ne) rfl H.f_disable xd_n rfl xd_f xd_x,100,?_⟩;walk_nrm;u_c stepG_region_end rsF hF;u_c stepG_seq rsF hF;u_reg rsF hF;u_op rsF hF;u_op rsF hF;u_op rsF hF;refine Goes.stop (fun w3 h3=>?_);replace hF:=rsF hF h3;clear h3;have e0:IntKind.i32.wrap (1 + -1)=0:=by decide
 refine⟨rfl,_,(stepG_add_atomic rfl rfl (by k_ne) rfl H.f_add32 xp_n rfl xp_f .i32 xp_x rfl rfl hF.1 hF.2).trans (by rw[e0];rfl),100,?_⟩;replace hF:=lkAt_set (s':=0) hF;walk_nrm;u_op rsF hF;u_c stepG_region_end rsF hF;u_c stepG_seq rsF hF;u_c stepG_seq rsF hF;u_reg rsF hF;u_op rsF hF;u_op rsF hF;u_c stepG_region_end rsF hF;u_cond false rsF hF;u_c stepG_skip rsF hF;u_reg rsF hF;refine Goes.stop (fun w4 h4=>?_);replace hF:=rsF hF h4;clear h4;refine⟨rfl,_,stepG_mark0 .enable (by simp) rfl rfl (by k_ne) rfl H.f_enable xe_n rfl xe_f xe_x,100,?_⟩;walk_nrm;u_c stepG_region_end rsF hF;u_c stepG_end rsF hF
 u_leave0 H.f_iunlock rsF hF
 u_c stepG_region_end rsF hF;u_c stepG_end rsF hF;exact Goes.stop fun _ _=>⟨_,rfl,rfl,rfl,rfl,rfl⟩
end
section
open Go.ConcN Go.RowKit Go.Conc.Lib Go.ConcR.Gen Go.Conc.Locks
open Go.ConcR (mk rd wr DC0)
variable {L:MuLink} {P:Program}
theorem LH.add_none(h:LH):h.add (fun _=>none)=h:=by
 unfold LH.add;congr 1;funext r;unfold Cells.add;cases h.get r<;>rfl
theorem retK_of{kd:CallKind}{f:FuncId}{fd:Func}{cs:List Frame}{g:Goroutine}{h:LH}{R:Goroutine->LH->Prop}{Q:Value->LH->Prop}(hf:P.funcs[f]?=some fd)(hres:fd.results=#[])(hk:∀ fr v h' k,fr.fn=f->Disj h'.get k->Ret P kd fr v (h'.get.add k)->Q v h'->R (G fr cs) (h'.add k))
 (hg:RetK kd f cs g)(hq:Q (.tuple #[]) h):R g h:=by
 obtain⟨fr,rfl,h1,h2,h3,h4⟩:=hg;have:=hk fr (.tuple #[]) h (fun _=>none) h1 (fun _=>.inr rfl) ⟨h2,h3,h4,fd,by rw[h1];exact hf,?_⟩ hq
 ·rw[LH.add_none]at this;exact this
 ·have e:results fd fr.tmps=pure (.tuple #[]):=by simp[results,hres]
  rw[e];exact⟨rfl,rfl⟩
theorem db_dis(d:Nat):deafBehind d #[mk .disable]=d+1:=rfl
theorem db_en(d:Nat):deafBehind (d+1) #[mk .enable]=d:=rfl
theorem db_acq(d:Nat)(a:Addr):deafBehind d #[mk (.acquire a)]=d:=rfl
theorem db_rel(d:Nat)(a:Addr):deafBehind d #[mk (.releaseMerge a)]=d:=rfl
theorem lkAt_fits{h:Cells}{a:Addr}{s:Int}(hc:h.cell? a=some (.int .i32 s))(hz:h.frozen? a=false){w:World}(hf:Fits h w):LkAt a s w:=by
 obtain⟨x,hx,_⟩:=cell?_block hc;exact⟨cell?_fits hf hc,by rw[frozen?_fits hf hx];exact hz⟩
theorem word_set{h:Cells}{a:Addr}{s s':Int}{w:World}(hf:Fits h w)(hc:h.cell? a=some (.int .i32 s))(hz:h.frozen? a=false)(hown:h.own a.block):(h.setCell a (.int .i32 s')).cell? a=some (.int .i32 s')/\(h.setCell a (.int .i32 s')).frozen? a=false:=by
 obtain⟨o,ho⟩:=hown;unfold Cells.cell? at hc;rw[ho]at hc;unfold Cells.frozen? at hz;rw[ho]at hz;unfold Cells.setCell Cells.cell? Cells.frozen?;simp only[if_true,ho];cases o with
 | cells c e f =>
  simp only at hc hz ⊢;split at hc
  ·cases hc
  ·rename_i hs;have hlt:a.off<c.size:=(Array.getElem?_eq_some_iff.1 hc).1;simp[hs,hlt]at hz ⊢;exact hz
 | pending c e =>
  simp only at hc hz ⊢;split at hc
  ·cases hc
  ·rename_i hs;obtain⟨h1,h2⟩:=Option.filter_eq_some_iff.1 hc;have hlt:a.off<c.size:=(Array.getElem?_eq_some_iff.1 h1).1;simp[hs,hlt,notHole]
 | _=>simp at hc
theorem fw_lock(H:MuLib P L){h:LH}{a:Addr}{Q:Value->LH->Prop}(hc:h.get.cell? a=some (.int .i32 0))(hz:h.get.frozen? a=false)(hown:h.get.own a.block)
 (hQ:Q (.tuple #[]) { h with get:=h.get.setCell a (.int .i32 1) }):FW XL P L.lock #[.pointer (some a)] h Q:=by
 refine⟨⟨lockFn L,H.f_lock,rfl,by kernel_rfl⟩,fun main R hR cs _ hk=>?_⟩;have hmain:=hR.2.1.1;subst hmain;refine hR.2.2 _ h R ?_ fun _ _ h=>h;by_cases hex:∃ w,Fits h.get w
 ·obtain⟨w0,hf0⟩:=hex;have hS0:∀ w,Fits h.get w->LkAt a 0 w:=fun w hf=>lkAt_fits hc hz hf;have h1:=word_set (s':=1) hf0 hc hz hown;have hS1:∀ w,Fits (h.get.setCell a (.int .i32 1)) w->LkAt a 1 w:=fun w hf=>lkAt_fits h1.1 h1.2 hf;have ent:Frame.enter P L.lock #[.pointer (some a)] .normal=(base L.lock).at ⟨#[.pointer (some a),undef,undef,undef,undef,undef],[]⟩ [.code (body_lock L)]:=by
   rw[enter_at (c:=body_lock L) _ H.f_lock rfl]
   walk_nrmf lockFn
  rw[ent];refine lk_idle' hS0 (fun g hA=>?_) (hS0 w0 hf0) (lockW H w0 (hS0 w0 hf0));refine lk_mark rfl hS0 ⟨w0,hS0 w0 hf0⟩ hA fun g w hw hN=>?_;rw[db_dis];refine lk_idle' hS0 (fun g hA=>?_) hw hN;refine lk_put rfl hc hown hS0 ⟨w,hw⟩ hA fun g w hw hN=>?_;refine lk_idle' hS1 (fun g hA=>?_) (lkAt_set hw) hN;refine lk_mark rfl hS1 ⟨_,lkAt_set (s':=1) hw⟩ hA fun g w hw hN=>?_;rw[db_en];refine lk_idle' hS1 (fun g hA=>?_) hw hN;refine lk_mark rfl hS1 ⟨w,hw⟩ hA fun g w hw hN=>?_;rw[db_acq];refine lk_idle' hS1 (fun g hA=>?_) hw hN;exact .done (retK_of H.f_lock rfl hk (hA w hw) hQ)
 ·exact .own (N:=fun _ _=>False) rfl (fun w hf=>absurd ⟨w,hf⟩ hex) fun _ _ h=>h.elim
theorem fwk_unlock(H:MuLib P L){h:LH}{a:Addr}{Q:Value->LH->Prop}(hc:h.get.cell? a=some (.int .i32 1))(hz:h.get.frozen? a=false)(hown:h.get.own a.block)
 (hQ:Q (.tuple #[]) { h with get:=h.get.setCell a (.int .i32 0) }):FWK XL P .deferred L.unlock #[.pointer (some a)] h Q:=by
 refine⟨⟨unlockFn L,H.f_unlock,rfl,by kernel_rfl⟩,fun main R hR cs _ hk=>?_⟩;have hmain:=hR.2.1.1;subst hmain;refine hR.2.2 _ h R ?_ fun _ _ h=>h;by_cases hex:∃ w,Fits h.get w
 ·obtain⟨w0,hf0⟩:=hex;have hS0:∀ w,Fits h.get w->LkAt a 1 w:=fun w hf=>lkAt_fits hc hz hf;have h1:=word_set (s':=0) hf0 hc hz hown;have hS1:∀ w,Fits (h.get.setCell a (.int .i32 0)) w->LkAt a 0 w:=fun w hf=>lkAt_fits h1.1 h1.2 hf;have ent:Frame.enter P L.unlock #[.pointer (some a)] .deferred=(baseD L.unlock).at ⟨#[.pointer (some a),undef,undef,undef,undef,undef],[]⟩ [.code (body_unlock L)]:=by
   rw[enter_atD (c:=body_unlock L) _ H.f_unlock rfl]
   walk_nrmf unlockFn
  rw[ent];refine lk_idle' hS0 (fun g hA=>?_) (hS0 w0 hf0) (unlockD H w0 (hS0 w0 hf0));refine lk_look hc hS0 ⟨w0,hS0 w0 hf0⟩ hA fun g w hw hN=>?_;refine lk_idle' hS0 (fun g hA=>?_) hw hN;refine lk_mark rfl hS0 ⟨w,hw⟩ hA fun g w hw hN=>?_;rw[db_rel];refine lk_idle' hS0 (fun g hA=>?_) hw hN;refine lk_mark rfl hS0 ⟨w,hw⟩ hA fun g w hw hN=>?_;rw[db_dis];refine lk_idle' hS0 (fun g hA=>?_) hw hN;refine lk_put rfl hc hown hS0 ⟨w,hw⟩ hA fun g w hw hN=>?_;refine lk_idle' hS1 (fun g hA=>?_) (lkAt_set hw) hN;refine lk_mark rfl hS1 ⟨_,lkAt_set (s':=0) hw⟩ hA fun g w hw hN=>?_;rw[db_en];refine lk_idle' hS1 (fun g hA=>?_) hw hN;exact .done (retK_of H.f_unlock rfl hk (hA w hw) hQ)
 ·exact .own (N:=fun _ _=>False) rfl (fun w hf=>absurd ⟨w,hf⟩ hex) fun _ _ h=>h.elim
end
end Go.TM.LkW
section
namespace Go.TM
variable {X:XP} {C:Ctx} {P:Program}
def deferT(C:Ctx)(r0 r1 r2:Array Oper)(n2:Nat)(rest:Code)(x:Operand)(v₀:Value)(t:Nat)(args:List Value):T :=
 opsT C false [] false r0 (upto 0 r0.size) (argsEnv 0 args) fun e=>opsT C false [] false r1 (upto 0 r1.size) e fun e=>opsT C false [] false r2 (upto 0 n2) e fun e =>
  withV (opdA e x) fun v=>.need (v=v₀) (tree C false [] rest e fun x e=>match x with
   | .exit _=>.fail
   | _=>withV (slotA e t) fun v=>.leaf (.ret v))
section
variable {main:Bool} {R:Goroutine->LH->Prop} {Q:Leaf->LH->Prop} {fn:FI} {cs:List Frame} {ds:List Deferred} {rd:Option Nat}
theorem opsT_part{ops:Array Oper}{k:List Item}{ro:List Nat}{PB:Nat->Prop}{D:List Nat}{kE:Env->T}{q:Bool}(hX:XOK X)(hR:Closed X C.P main R)(hst:X.stk C.P fn.kd cs)(l':List Nat):∀ (l:List Nat) {σ:Nat->Nat} {e:Env} {tmps:Array Value} {hp:Cells} {h:LH},
  (∀ i∈l,∀ o,ops[i]?=some o->∀ d,o.dst=some d->d∈D/\d<tmps.size/\d<4096) ->
  Sim σ ro PB e tmps hp->Disj h.get hp->(∀ b,PB b->∃ x,hp b=some x)->(opsT C false ro q ops l e kE).wp X C.P Q h->Behind X C.P R fn ds rd cs (.inRegion ops l'::k) D ro PB σ tmps hp kE Q ->
  R (G (mkF fn ds rd tmps (.inRegion ops (l++l')::k)) cs) (h.add hp):=by
 intro l
 induction l with
 | nil=>intro σ e tmps hp h hD s dj hPB hT hk;exact hk e tmps σ hp h s dj Fr.refl hT
 | cons i l ih =>
  intro σ e tmps hp h hD s dj hPB hT hk;unfold opsT at hT;cases ho:ops[i]? with
  | none=>rw[ho]at hT;exact hT.elim
  | some o =>
   rw[ho]at hT;have hT':(guardT C false ro q ops o e fun e'=>opsT C false ro q ops l e' kE).wp X C.P Q h:=by
    cases l<;>exact hT
   refine guardT_sound (fin:=false) hX hR hst (by intro hl;cases hl) ho (fun d hd=>(hD i (by simp) o ho d hd).2) s dj hPB hT' ?_;intro e' tmps' σ' hp' h' s' dj' f' hT'';refine ih (fun j hj o' ho' d hd=>?_) s' dj' (fun b hb=>by rw[f'.prot b hb];exact hPB b hb) hT'' ?_
   ·rw[f'.size];exact hD j (by simp[hj]) o' ho' d hd
   ·intro e'' t'' σ'' hp'' h'' s'' dj'' f'' hT3;refine hk e'' t'' σ'' hp'' h'' s'' dj'' (f'.trans f'' ?_ (fun _ h=>h)) hT3;intro d hd;cases hdd:o.dst with
    | none=>rw[hdd]at hd;simp at hd
    | some d'=>rw[hdd]at hd;simp at hd;subst hd;exact(hD i (by simp) o ho d hdd).1
end
theorem ret_stepD{main:Bool}{R:Goroutine->LH->Prop}(hR:LClosed P main R){fr c:Frame}{cs:List Frame}{v:Value}{h:LH}(r:Ret P .deferred fr v h.get)(hc:c.mode=.returning)(hn:R (G c cs) h):R (G fr (c::cs)) h:=by
 refine hR.step fr (c::cs) h R ?_ (fun _ _ h=>h);intro w hf;obtain⟨r1,r2,r3,fn,r4,r5⟩:=r;obtain⟨w',h',es',t,hes,hq⟩:=lwp_sound P _ _ _ h.get w #[] hf r5;rcases hq with⟨v',hrun,rfl,rfl⟩|⟨e,hrun,hE⟩
 ·rw[Array.empty_append]at hrun;have hrun1:((results fn fr.tmps).runT P w #[]).1=.ok v' w':=by rw[hrun]
  simp only[Sem.runT_fst]at hrun1;refine⟨G c cs,w',seen P fr.fn es',h.get,?_,t,fun e he=>hes e (mem_seen he),hn⟩;have hrun2:Sem.events P (results fn fr.tmps) w #[]=es':=by show ((results fn fr.tmps).runT P w #[]).2=es';rw[hrun]
  simp[G,stepG,unwind,r1,r2,r4,hrun1,hrun2,GStep.after,doReturn,r3,hc]
 ·exact hE.elim
theorem fw_deferred(hX:XOK X)(hkd:C.kd=.normal)(hst:∀ kd cs,X.stk C.P kd cs){f g:FuncId}{fd:Func}{args:List Value}{h:LH}{Q Q0:Value->LH->Prop}{i0 i1 i2 n2 t:Nat}{r0 r1 r2:Array Oper}{od:Oper}{rest:Code}{x:Operand}{v₀:Value}{ats:Array TypeId}
 (hf : C.P.funcs[f]? = some fd)(hn : (fd.name == "runtime.NumGoroutine") = false)(hb : fd.body = some (.seq (.region i0 r0 false) (.seq (.region i1 r1 false) (.seq (.region i2 r2 false) rest))))
 (hn2:r2.size=n2+1)(hod0:r2[n2]?=some od)(hres:fd.results=#[.tmp t])(hod:od.op=.defer { callee:=.value (.func g),args:=#[x],argTypes:=ats })(hdst:od.dst=none)(hgu:∀ y,Region.wanted od y=true)
 (hchk:(Nat.ble (lenL args) 4096&&(Nat.ble fd.ntmps 4096&&allBelow fd.ntmps (match fd.body with|some c=>dsts c|none=>[])))=true)
 (hT:(deferT C r0 r1 r2 n2 rest x v₀ t args).wp X C.P (retQ Q0) h)
 (hQ:∀ v h',Q0 v h'->FWK X C.P .deferred g #[v₀] h' fun _ h''=>Q v h''):FW X C.P f args.toArray h Q:=by
 rw[hb]at hchk;simp only[Bool.and_eq_true]at hchk;have hlen:=Nat.le_of_ble_eq_true hchk.1;have hnt:=Nat.le_of_ble_eq_true hchk.2.1;have hds:=allBelow_spec hchk.2.2;rw[lenL_eq]at hlen;refine⟨⟨fd,hf,by rw[hb];rfl,hn⟩,?_⟩;intro main R hR cs _ hk;let fn:FI:=⟨f,.normal,by simp⟩
 have hen:Frame.enter C.P f args.toArray .normal=mkF fn [] none (args.toArray++Array.replicate (fd.ntmps-args.length) undef) [.code (.seq (.region i0 r0 false) (.seq (.region i1 r1 false) (.seq (.region i2 r2 false) rest)))]:=by
  simp[Frame.enter,hf,hb,mkF,fn]
 rw[hen];have hadd:h=h.add (fun _=>none):=(LkW.LH.add_none h).symm;rw[hadd];have dd:∀ d,d∈dsts (.seq (.region i0 r0 false) (.seq (.region i1 r1 false) (.seq (.region i2 r2 false) rest)))->d<fd.ntmps:=hds;have in0:∀ i∈upto 0 r0.size,∀ o,r0[i]?=some o->∀ d,o.dst=some d->d∈dsts (.region i0 r0 false):=fun i _ o ho d hd=>mem_dsts_go (Array.mem_toList_iff.2 (Array.mem_of_getElem? ho)) hd;have in1:∀ i∈upto 0 r1.size,∀ o,r1[i]?=some o->∀ d,o.dst=some d->d∈dsts (.region i1 r1 false):=fun i _ o ho d hd=>mem_dsts_go (Array.mem_toList_iff.2 (Array.mem_of_getElem? ho)) hd;have in2:∀ i∈upto 0 n2,∀ o,r2[i]?=some o->∀ d,o.dst=some d->d∈dsts (.region i2 r2 false):=fun i _ o ho d hd=>mem_dsts_go (Array.mem_toList_iff.2 (Array.mem_of_getElem? ho)) hd;have s0:dsts (.seq (.region i0 r0 false) (.seq (.region i1 r1 false) (.seq (.region i2 r2 false) rest)))=dsts (.region i0 r0 false)++(dsts (.region i1 r1 false)++(dsts (.region i2 r2 false)++dsts rest)):=by
  rw[dsts.eq_2,appL_eq,dsts.eq_2,appL_eq,dsts.eq_2,appL_eq]
 rw[s0]at dd;unfold deferT at hT;refine mv_seq hR.1 (mv_region hR.1 ?_);rw[<- upto_range];have hs:(fd.ntmps:Nat)<=(args.toArray++Array.replicate (fd.ntmps-args.length) undef).size:=by simp;omega
 have bd:∀ (n:Nat),fd.ntmps<=n->∀ (d:Nat),d<fd.ntmps->d<n/\d<4096:=fun n hn d hd=>⟨Nat.lt_of_lt_of_le hd hn,Nat.lt_of_lt_of_le hd hnt⟩;refine opsT_sound (D:=dsts (.region i0 r0 false)) hX hR (hst _ _) (by intro hh;cases hh) _ (fun i hi o ho d hd=>?_) (σ:=fun x=>x) (PB:=fun _=>False) (e:=argsEnv 0 args) ?_ (fun _=>.inr rfl) (fun _ h=>h.elim) hT ?_
 ·have h1:=in0 i hi o ho d hd;have h2:=dd d (by simp[h1]);exact⟨h1,bd _ hs d h2⟩
 ·refine⟨?_,?_,?_,?_,?_,?_⟩
  ·intro i a hi hg hb';obtain⟨v,rfl,_,h3,h4⟩:=argsEnv_get hg;rw[Array.getElem?_append_left (by simpa using h3)];simpa[conc] using h4
  ·intro s v hs hg;obtain⟨_,_,_,h3,_⟩:=argsEnv_get hg;omega
  ·intro s v hs hg;obtain⟨_,_,_,h3,_⟩:=argsEnv_get hg;omega
  ·intro s s' a a' hs _ hg;obtain⟨_,_,_,h3,_⟩:=argsEnv_get hg;omega
  ·intro s v hs hg;obtain⟨_,_,_,h3,_⟩:=argsEnv_get hg;omega
  ·intro s v hs hg;obtain⟨_,_,_,h3,_⟩:=argsEnv_get hg;omega
 intro e1 t1 σ1 hp1 h1 sim1 dj1 f1 hT1;have z1:t1.size=_:=f1.size;refine mv_seq hR.1 (mv_region hR.1 ?_);rw[<- upto_range];refine opsT_sound (D:=dsts (.region i1 r1 false)) hX hR (hst _ _) (by intro hh;cases hh) _ (fun i hi o ho d hd=>?_) sim1 dj1 (fun _ h=>h.elim) hT1 ?_
 ·have h1:=in1 i hi o ho d hd;have h2:=dd d (by simp[h1]);exact⟨h1,bd _ (by rw[z1];exact hs) d h2⟩
 intro e2 t2 σ2 hp2 h2 sim2 dj2 f2 hT2;have z2:t2.size=_:=f2.size;refine mv_seq hR.1 (mv_region hR.1 ?_);have hrange:List.range r2.size=upto 0 n2++[n2]:=by rw[upto_range,hn2,List.range_succ]
 rw[hrange];refine opsT_part (D:=dsts (.region i2 r2 false)) hX hR (hst _ _) _ _ (fun i hi o ho d hd=>?_) sim2 dj2 (fun _ h=>h.elim) hT2 ?_
 ·have h1:=in2 i hi o ho d hd;have h2:=dd d (by simp[h1]);exact⟨h1,bd _ (by rw[z2,z1];exact hs) d h2⟩
 intro e3 t3 σ3 hp3 h3 sim3 dj3 f3 hT3;have z3:t3.size=_:=f3.size;obtain⟨v,hv,hT3a⟩:=withV_wp hT3;clear hT3;simp only[T.wp]at hT3a;obtain⟨hv0,hT3b⟩:=hT3a;subst hv0
 -- the call is deferred
 refine step_pure hR.1 (g':=G (mkF fn [dcall g #[v]] none t3 [.inRegion r2 [],.code rest]) cs) (fun w=>?_) ?_
 ·have:=stepG_defer (P:=C.P) (main:=main) (b:=base f) (a:=⟨t3,[]⟩) (k:=[.code rest]) (cs:=cs) (w:=w) (rest:=[]) hod0 (hgu _) (by simp[base]) hod;have e1:(base f).at ⟨t3,[]⟩ (.inRegion r2 [n2]::[.code rest])=mkF fn [] none t3 [.inRegion r2 [n2],.code rest]:=rfl;rw[<- e1,this];congr 2;have e2:(Act.mk t3 []).eval x=v:=by
   have:=opdVal sim3 (fr:=mkF fn [] none t3 []) rfl x v hv;exact this
  have e3:(#[x].map (Act.mk t3 []).eval)=#[v]:=by rw[<- e2];simp
  show (base f).at (Act.put ⟨t3,dcall g (#[x].map (Act.mk t3 []).eval)::[]⟩ od.dst undef) _=_;rw[e3,hdst];rfl
 refine mv_regionEnd hR.1 ?_;refine tree_sound hX hR (hst _ _) rest false [] _ e3 _ t3 [] σ3 hp3 h3 _ (by intro hh;cases hh) sim3 dj3 (fun _ h=>h.elim) (fun d hd=>?_) hT3b ?_
 ·have h2:=dd d (by simp[hd]);exact bd _ (by rw[z3,z2,z1];exact hs) d h2
 intro y e4 t4 σ4 hp4 h4 sim4 dj4 f4 hT4;have fin:(withV (slotA e4 t) fun v=>.leaf (.ret v)).wp X C.P (retQ Q0) h4->∀ todo,R (G { mkF fn [dcall g #[v]] none t4 todo with mode:=.returning } cs) (h4.add hp4):=by
  intro hw todo;obtain⟨vr,hvr,hw⟩:=withV_wp hw;have hq0:Q0 vr h4:=hw;have hc:=FW.frame hX (hQ vr h4 hq0) dj4;obtain⟨⟨fg,hfg,hbg,hng⟩,hrun⟩:=hc;obtain⟨cg,hcg⟩:=Option.isSome_iff_exists.1 hbg;refine step_pure hR.1 (g':=G (Frame.enter C.P g #[v] .deferred) ({ mkF fn [] none t4 todo with mode:=.returning }::cs)) (fun w=>?_) ?_
  ·rw[enter_atD _ hfg hcg];exact stepG_unwind_enter (P:=C.P) (main:=main) (b:=base f) (a:=⟨t4,[dcall g #[v]]⟩) (todo:=todo) (cs:=cs) (w:=w) rfl hfg hng hcg
  refine hrun main R hR _ (hst _ _) ?_;rintro fr vg h5 j hfr dj5 hret ⟨h6,dj6,rfl,hq⟩;refine ret_stepD hR.1 hret rfl ?_;have dj7:Disj h6.get j:=dj5.of_add_left;have dj8:Disj hp4 j:=Disj.of_add_right dj6 dj5;have e9:(h6.add hp4).add j=h6.add (hp4.add j):=by
   unfold LH.add;simp only;rw[Cells.add_assoc]
  rw[e9];refine hk _ vr h6 (hp4.add j) rfl (Disj.add dj6.symm dj7.symm).symm ⟨rfl,rfl,rfl,fd,hf,?_⟩ hq;have hs:=slotA_some hvr;have hg:=sim4.slot t _ hs.1 hs.2 (by simp);have e:results fd t4=pure vr:=by
   unfold results;rw[hres];simp[Array.getD_eq_getD_getElem?,hg,conc]
  show Sem.lwp C.P (results fd t4) _ _ _;rw[e];exact⟨rfl,rfl⟩
 cases y with
 | fall=>exact mv_end hR.1 (fin hT4 _)
 | ret=>exact fun k'=>mv_ret hR.1 (fin hT4 _)
 | exit j=>exact hT4.elim
end Go.TM
end
namespace Go.Y
section
abbrev mu:Go.Conc.Locks.MuLink:={ lock:=105,unlock:=106,ilock:=133,iunlock:=134,lockSlow:=153,unlockSlow:=156,disable:=149,enable:=151,acquire:=152,relMerge:=154,cas32:=150,add32:=155,tMutex:=127,tIMutex:=125,tPMutex:=206,tPIMutex:=223,tPI32:=225,tUP:=227,tNoCopy:=122,tU32:=123 }
theorem mulib:Go.Conc.Locks.MuLib Tryz.prog mu :=
 ⟨Tryz.func105,Tryz.func106,Tryz.func133,Tryz.func134,Tryz.func149,Tryz.func151,Tryz.func152,Tryz.func154,Tryz.func150,Tryz.func155,Tryz.underlying125,Tryz.runUnderlying125,Tryz.sizeOf125,Tryz.isAgg125,Tryz.zeroValue125,Tryz.underlying127,Tryz.runUnderlying127,Tryz.sizeOf127,Tryz.isAgg127,Tryz.zeroValue127,Tryz.underlying206,Tryz.runUnderlying206,Tryz.sizeOf206,Tryz.isAgg206,Tryz.zeroValue206,Tryz.underlying223,Tryz.runUnderlying223,Tryz.sizeOf223,Tryz.isAgg223,Tryz.zeroValue223,Tryz.underlying225,Tryz.runUnderlying225,Tryz.sizeOf225,Tryz.isAgg225,Tryz.zeroValue225,Tryz.underlying227,Tryz.runUnderlying227,Tryz.sizeOf227,Tryz.isAgg227,Tryz.zeroValue227,Tryz.underlying122,Tryz.runUnderlying122,Tryz.sizeOf122,Tryz.isAgg122,Tryz.zeroValue122,Tryz.underlying21,Tryz.runUnderlying21,Tryz.sizeOf21,Tryz.isAgg21,Tryz.zeroValue21,by kernel_rfl⟩
end
section
set_option linter.unusedVariables false
def n3317(o:Addr)(day t_0 t_1:Int):T:=.someA (some o) fun a=>.cl 105 #[.pointer (some (a.add 16))] fun v=>.unTup v fun l=>.unNil l (.someA (some o) fun a=>.need (Value.pointer (some (a.add 16))=(.pointer (some (o.add 16)))) (.someA (some o) fun a=>.loadM (a.add 15) fun p=>.sem false (Instr.lookup 120 (.map p) (.agg #[day,t_0,t_1]) true) fun v=>.unTup v fun l=>.unCons l fun v vs=>.ui v fun n=>.unCons vs fun v vs=>.unB v fun b=>.unNil vs (.nO (a.add 15) (.someA (some o) fun a_1=>.nq a_1 a (.nds [.val (.pointer (some o)),b] (bif !b then .someA (some o) fun a=>.loadS (((a.add 0).add 0).add 0) fun p n c=>.loadS (((a.add 0).add 0).add 1) fun p_1 n_1 c_1=>.cI 108 #[day,.agg #[t_0,t_1]] fun n_2=>.nd (.agg #[.slice p n c,.slice p_1 n_1 c_1]) (.loadS (((a.add 0).add 0).add 0) fun p_2 n_3 c_2=>.loadS (((a.add 0).add 0).add 1) fun p_3 n_4 c_3=>.ne (.agg #[.slice p_2 n_3 c_2,.slice p_3 n_4 c_3]) (.agg #[.slice p n c,.slice p_1 n_1 c_1]) (.nds [.O ((a.add 0).add 0),.O (a.add 0)] (.someA (some o) fun a_2=>.nq a_2 a (.nd (.pointer (some o)) (.cI 107 #[.agg #[.slice p n c,.slice p_1 n_1 c_1],n_2] fun n_5=>.loadS (((a.add 0).add 0).add 0) fun p_4 n_6 c_4=>.loadS (((a.add 0).add 0).add 1) fun p_5 n_7 c_5=>.ne (.agg #[.slice p_4 n_6 c_4,.slice p_5 n_7 c_5]) (.agg #[.slice p n c,.slice p_1 n_1 c_1]) (.nds [.O ((a.add 0).add 0),.O (a.add 0)] (.someA (some o) fun a_3=>.nq a_3 a (.nd (.pointer (some o)) (.someA (some o) fun a=>.loadM (a.add 15) fun p=>.sem false (Sem.bind (Instr.mapUpdate 120 (.map p) (.agg #[day,t_0,t_1]) (.int .i64 n_5)) fun __r=>pure (.tuple #[])) fun x=>.rt (.int .i64 n_5)))))))))) else .rt (.int .i64 n)))))))
def x3317:Ctx:={ P:=Tryz.prog,priv:=[5,7],loops:=[],joins:=[] }
theorem w3317(o:Addr)(day t_0 t_1:Int){h:LH}{Q Q0:Value->LH->Prop}(hw:(n3317 o day t_0 t_1).wp XL Tryz.prog (retQ Q0) h)(hQ:∀ v h',Q0 v h'->FWK XL Tryz.prog .deferred 106 #[.pointer (some (o.add 16))] h' fun _ h''=>Q v h''):FW XL Tryz.prog 62 #[.pointer (some o),day,.agg #[t_0,t_1]] h Q :=
 fw_deferred (C:=x3317) (f:=62) (fd:=Tryz.f62) (args:=[.pointer (some o),day,.agg #[t_0,t_1]]) (v₀:=.pointer (some (o.add 16))) XL_ok rfl (fun _ _=>trivial) (by kernel_rfl) (by kernel_rfl) rfl rfl rfl rfl rfl rfl (fun _=>rfl) (by kernel_rfl) ((show deferT x3317 _ _ _ _ _ _ _ _ [.pointer (some o),day,.agg #[t_0,t_1]]=n3317 o day t_0 t_1 by kernel_rfl)▸hw) hQ
end
section
set_option linter.unusedVariables false
variable {X:XP} {h:LH} {A:Value->LH->Prop}
def n3134(sp:Option Addr)(sn sc:Nat)(f:Value):T:=.loop [.int .i64 0,.int .i64 0] (fun vs=>.pi vs fun n vs=>.pi vs fun n_1 vs=>.unNil vs (bif decide (n_1<(↑sn:Int)) then .need (0<=n_1/\n_1<(↑sn:Int)) (.someA sp fun a=>.li (a.add (n_1.toNat*1)) fun n_2=>.callv false f #[n_2] fun v=>.unB v fun b=>bif b then .rn [n_1,n_1] else .ag [n,.int .i64 (wrap .i64 (n_1+1))]) else .bk [n,n_1])) (fun vs=>.pi vs fun n vs=>.pi vs fun n vs=>.unNil vs (.rt (.int .i64 (-1)))) (fun vs=>.pi vs fun n vs=>.pi vs fun n_1 vs=>.unNil vs (.rt (.int .i64 n))) fun x x_1=>.fail
theorem w3134(sp:Option Addr)(sn sc:Nat)(f:Value):FX X 102 #[.slice sp sn sc,f] h A (n3134 sp sn sc f):=fk [] [⟨0,[(4,.int .i64),(8,.int .i64)],[],[],[],[]⟩] [] Tryz.f102
end
section
set_option linter.unusedVariables false
variable {X:XP} {h:LH} {A:Value->LH->Prop}
def n3206(sp:Option Addr)(sn sc:Nat)(f:Value):T:=.cI 102 #[.slice sp sn sc,f] fun n=>.rt (.bool (decide (n>=0)))
theorem w3206(sp:Option Addr)(sn sc:Nat)(f:Value):FX X 58 #[.slice sp sn sc,f] h A (n3206 sp sn sc f):=fk [] [] [] Tryz.f58
end
section
attribute [local irreducible] T.wp CV FWK
theorem d3134{h:LH}{p:Option Addr}{n c:Nat}{l:List Int}{fv:Value}{g:Int->Bool}(hl:Sl IntE 1 h.get p n l)(hf:∀ x∈l,CV X0 Tryz.prog fv #[.int .i64 x] h fun r h'=>r=.bool (g x)/\h'=h) :
  Pu Tryz.prog 102 #[.slice p n c,fv] h (.int .i64 (placeF g 0 l)):=by
 refine w3134 _ _ _ _ X0_ok ?_;unfold n3134;have hn:=hl.1;have hb:=hl.2.1;refine t_loop (fun m vs h'=>h'=h/\∃ i:Nat,vs=[.int .i64 0,.int .i64 i]/\i<=n/\m=n-i/\placeF g 0 l=placeF g i (l.drop i)) ⟨rfl,0,rfl,Nat.zero_le _,rfl,rfl⟩ ?_;rintro Y m vs _ hY ⟨rfl,i,rfl,hi,rfl,hc⟩;refine yJ (fun e1=>?_) (fun e1=>?_)
 ·obtain⟨x,a,hx,ha,e2⟩:=hl.at (i:=i) (by omega);unfold IntE at e2;refine gZ ?_;refine t_callv (hf x (List.mem_of_getElem? hx)) ?_;rintro _ _ ⟨rfl,rfl⟩;refine gZ ?_;rw[drop_of hx,placeF]at hc;refine t_cond (fun e3=>?_) (fun e3=>?_)
  ·refine gZ ?_;refine t_ret ⟨?_,rfl⟩;rw[hc,if_pos e3]
  ·refine t_again (hY (n-(i+1)) _ _ (by omega) ⟨rfl,i+1,?_,by omega,rfl,?_⟩)
   ·rw[wrap_id (by omega) (by omega)];rfl
   ·rw[hc,if_neg (by simp[e3])]
 ·refine gZ ?_;refine t_ret ⟨?_,rfl⟩;rw[hc,List.drop_eq_nil_of_le (by omega)];rfl
theorem d3206{h:LH}{p:Option Addr}{n c:Nat}{l:List Int}{fv:Value}{g:Int->Bool}(hl:Sl IntE 1 h.get p n l)(hf:∀ x∈l,CV X0 Tryz.prog fv #[.int .i64 x] h fun r h'=>r=.bool (g x)/\h'=h) :
  Pu Tryz.prog 58 #[.slice p n c,fv] h (.bool (l.any g)):=by
 refine w3206 _ _ _ _ X0_ok ?_;unfold n3206;refine t_pu (d3134 hl hf) ?_;refine gZ ?_;refine t_ret ⟨?_,rfl⟩;rw[placeF_ge]
theorem c3314{h:LH}{z:Addr}{f:DFileC}(hz:h.get.cell? (z.add 14)=some (.slice f.p f.n f.c))(hb:(f.n:Int)<4611686018427387904)(v:Int):Pu Tryz.prog 57 #[v,.pointer (some z)] h (.bool (!isIn v 0 ((f.n:Int)-1))):=by
 refine w3314 _ _ X0_ok ?_;unfold n3314;refine gZ ?_;rw[wrap_id (by omega) (by omega)];refine t_pu (c1102 _ _ _) ?_;refine gZ ?_;exact t_ret ⟨rfl,rfl⟩
def startV(k:Int×Int×Int):Value:=.agg #[.int .i64 k.1,.int .i64 k.2.1,.int .i64 k.2.2]
theorem startInj(a b:Int×Int×Int)(h:startV a=startV b):a=b:=by
 obtain⟨a1,a2,a3⟩:=a;obtain⟨b1,b2,b3⟩:=b;unfold startV at h;simp at h;obtain⟨h1,h2,h3⟩:=h;subst h1 h2 h3;rfl
def offCells(f:DFileC)(y:DFile)(m:Nat)(s:Int):List Value:=dfCells f y++[.map (some m),.int .i32 s,.int .u32 0]
theorem none_le{h h':LH}{r:Nat}(hl:h.le h')(hn:h'.get r=none):h.get r=none:=by
 cases hx:h.get r with
 | none=>rfl
 | some x=>rw[hl.1 _ _ hx]at hn;cases hn
theorem c3307{h:LH}{f:DFileC}{y:DFile}(hr:DFileR h.get f y)(ok:DFileOk y){p:Option Addr}{n c:Nat}{l:List Int}(hs:Sl IntE 1 h.get p n l)(hin:∀ v∈l,0<=v/\v<(y.apps.length:Int)) :
  Gr Tryz.prog 28 #[dfV f y,.slice p n c] h fun r h'=>∃ b m,r=.tuple #[.pointer (some ⟨b,0,none⟩),.int .i64 0]/\h.get b=none/\h.get m=none/\b≠m/\h'.get b=some (true,.cells (offCells f y m 0).toArray 129 (0,0))/\HoldsO startV h'.get m fun _=>none:=by
 refine w3307 _ _ _ _ _ _ _ _ _ _ _ _ _ _ _ _ _ _ _ _ _ _ _ _ X0_ok ?_;unfold n3307;have hn:=hr.apps.1;have hnb:=hr.apps.2.1;refine t_newG fun r h1 le1 hr0 hb1 _=>?_;have at1:DfAt h1.get ⟨r,0,none⟩ f y:=dfAt_of hb1 fun i v hv=>(by simpa[dfCells] using hv);obtain⟨g0,g1,g2,g3,g4,g5,g6,g7,g8,g9,g10,g11,g12,g13,g14⟩:=at1;refine gZ ?_;refine t_gr (c3313 (hr.le le1.1) ok) ?_;rintro _ h2 le2 rfl;have le02:=LH.le_trans le1 le2;have at2:DfAt h2.get ⟨r,0,none⟩ f y:=(DfAt.mk g0 g1 g2 g3 g4 g5 g6 g7 g8 g9 g10 g11 g12 g13 g14).le le2.1;clear g0 g1 g2 g3 g4 g5 g6 g7 g8 g9 g10 g11 g12 g13 g14;have lec:=LH.le_refl h2;have any0:(l.any fun v=>!isIn v 0 ((f.n:Int)-1))=false:=by
  rw[List.any_eq_false];intro v hv;have:=hin v hv;unfold isIn;simp;omega
 obtain⟨g0,g1,g2,g3,g4,g5,g6,g7,g8,g9,g10,g11,g12,g13,g14⟩:=at2.le lec.1;refine gZ ?_;refine t_cond (fun e=>absurd e (by decide)) (fun _=>?_);obtain⟨g0,g1,g2,g3,g4,g5,g6,g7,g8,g9,g10,g11,g12,g13,g14⟩:=at2.le lec.1;refine gZ ?_;refine t_both ?_ ?_
 ·refine t_makeMapG fun m hM leM hm0 hm=>?_;have hm00:=none_le (LH.le_trans le02 lec) hm0;have lec:=LH.le_trans lec leM;obtain⟨g0,g1,g2,g3,g4,g5,g6,g7,g8,g9,g10,g11,g12,g13,g14⟩:=at2.le lec.1;refine gZ ?_;refine t_both ?_ ?_
  ·refine t_newG fun b hN leN hb0 hb _=>?_;have hb00:=none_le (LH.le_trans le02 lec) hb0;have hne:b≠m:=fun e=>by rw[e,hm]at hb0;cases hb0
   have lec:=LH.le_trans lec leN;obtain⟨g0,g1,g2,g3,g4,g5,g6,g7,g8,g9,g10,g11,g12,g13,g14⟩:=at2.le lec.1;refine gZ ?_;refine t_pu (d3206 (hs.le IntE.grow (LH.le_trans le02 lec).1) (g:=fun v=>!isIn v 0 ((f.n:Int)-1)) (fun v _=>?_)) ?_
   ·exact CV.mono (cv_fw X0_ok (by rfl) (c3314 g14 (by omega) v)) (by rintro w h' ⟨rfl,rfl⟩;exact⟨rfl,rfl⟩)
   rw[any0];refine gZ ?_;refine t_pu (c1076 _ _) ?_;refine gZ ?_;exact t_ret ⟨LH.le_trans le02 lec,b,m,rfl,hb00,hm00,hne,hb,#[],0,leN.1 _ _ hm,MapO.nil⟩
  ·refine t_pu (d3206 (hs.le IntE.grow (LH.le_trans le02 lec).1) (g:=fun v=>!isIn v 0 ((f.n:Int)-1)) (fun v _=>?_)) ?_
   ·exact CV.mono (cv_fw X0_ok (by rfl) (c3314 g14 (by omega) v)) (by rintro w h' ⟨rfl,rfl⟩;exact⟨rfl,rfl⟩)
   rw[any0];refine gZ ?_;refine t_both ?_ ?_
   ·refine t_newG fun b hN leN hb0 hb _=>?_;have hb00:=none_le (LH.le_trans le02 lec) hb0;have hne:b≠m:=fun e=>by rw[e,hm]at hb0;cases hb0
    have lec:=LH.le_trans lec leN;obtain⟨g0,g1,g2,g3,g4,g5,g6,g7,g8,g9,g10,g11,g12,g13,g14⟩:=at2.le lec.1;refine gZ ?_;refine t_pu (c1076 _ _) ?_;refine gZ ?_;exact t_ret ⟨LH.le_trans le02 lec,b,m,rfl,hb00,hm00,hne,hb,#[],0,leN.1 _ _ hm,MapO.nil⟩
   ·refine t_pu (c1076 _ _) ?_;refine gZ ?_;refine t_newG fun b hN leN hb0 hb _=>?_;have hb00:=none_le (LH.le_trans le02 lec) hb0;have hne:b≠m:=fun e=>by rw[e,hm]at hb0;cases hb0
    have lec:=LH.le_trans lec leN;obtain⟨g0,g1,g2,g3,g4,g5,g6,g7,g8,g9,g10,g11,g12,g13,g14⟩:=at2.le lec.1;refine gZ ?_;exact t_ret ⟨LH.le_trans le02 lec,b,m,rfl,hb00,hm00,hne,hb,#[],0,leN.1 _ _ hm,MapO.nil⟩
 ·refine t_pu (d3206 (hs.le IntE.grow (LH.le_trans le02 lec).1) (g:=fun v=>!isIn v 0 ((f.n:Int)-1)) (fun v _=>?_)) ?_
  ·exact CV.mono (cv_fw X0_ok (by rfl) (c3314 g14 (by omega) v)) (by rintro w h' ⟨rfl,rfl⟩;exact⟨rfl,rfl⟩)
  rw[any0];refine gZ ?_;refine t_both ?_ ?_
  ·refine t_makeMapG fun m hM leM hm0 hm=>?_;have hm00:=none_le (LH.le_trans le02 lec) hm0;have lec:=LH.le_trans lec leM;obtain⟨g0,g1,g2,g3,g4,g5,g6,g7,g8,g9,g10,g11,g12,g13,g14⟩:=at2.le lec.1;refine gZ ?_;refine t_both ?_ ?_
   ·refine t_newG fun b hN leN hb0 hb _=>?_;have hb00:=none_le (LH.le_trans le02 lec) hb0;have hne:b≠m:=fun e=>by rw[e,hm]at hb0;cases hb0
    have lec:=LH.le_trans lec leN;obtain⟨g0,g1,g2,g3,g4,g5,g6,g7,g8,g9,g10,g11,g12,g13,g14⟩:=at2.le lec.1;refine gZ ?_;refine t_pu (c1076 _ _) ?_;refine gZ ?_;exact t_ret ⟨LH.le_trans le02 lec,b,m,rfl,hb00,hm00,hne,hb,#[],0,leN.1 _ _ hm,MapO.nil⟩
   ·refine t_pu (c1076 _ _) ?_;refine gZ ?_;refine t_newG fun b hN leN hb0 hb _=>?_;have hb00:=none_le (LH.le_trans le02 lec) hb0;have hne:b≠m:=fun e=>by rw[e,hm]at hb0;cases hb0
    have lec:=LH.le_trans lec leN;obtain⟨g0,g1,g2,g3,g4,g5,g6,g7,g8,g9,g10,g11,g12,g13,g14⟩:=at2.le lec.1;refine gZ ?_;exact t_ret ⟨LH.le_trans le02 lec,b,m,rfl,hb00,hm00,hne,hb,#[],0,leN.1 _ _ hm,MapO.nil⟩
  ·refine t_pu (c1076 _ _) ?_;refine gZ ?_;refine t_makeMapG fun m hM leM hm0 hm=>?_;have hm00:=none_le (LH.le_trans le02 lec) hm0;have lec:=LH.le_trans lec leM;obtain⟨g0,g1,g2,g3,g4,g5,g6,g7,g8,g9,g10,g11,g12,g13,g14⟩:=at2.le lec.1;refine gZ ?_;refine t_newG fun b hN leN hb0 hb _=>?_;have hb00:=none_le (LH.le_trans le02 lec) hb0;have hne:b≠m:=fun e=>by rw[e,hm]at hb0;cases hb0
   have lec:=LH.le_trans lec leN;obtain⟨g0,g1,g2,g3,g4,g5,g6,g7,g8,g9,g10,g11,g12,g13,g14⟩:=at2.le lec.1;refine gZ ?_;exact t_ret ⟨LH.le_trans le02 lec,b,m,rfl,hb00,hm00,hne,hb,#[],0,leN.1 _ _ hm,MapO.nil⟩
end
end Go.Y
section
namespace Go.TM
def cameF(kinds:Int)(l:List DPaper)(day:Int)(k:Nat):Bool:=l.any fun p=>decide (p.day<=day)&&(decide (p.kind<kinds)&&decide (p.kind=(k:Int)))
def neededF(kinds:Int)(k:Nat):Bool:=decide ((k:Int)<kinds)
theorem cameF_snoc(kinds:Int)(l:List DPaper)(x:DPaper)(day:Int):cameF kinds (l++[x]) day=fun k=>cameF kinds l day k||(decide (x.day<=day)&&(decide (x.kind<kinds)&&decide (x.kind=(k:Int)))):=by
 funext k;unfold cameF;rw[List.any_append];simp
def four(g:Nat->Bool):Array Value:=#[.bool (g 0),.bool (g 1),.bool (g 2),.bool (g 3)]
theorem four_set{g:Nat->Bool}{n:Nat}(hn:n<4):(four g).setIfInBounds n (.bool true)=four fun k=>g k||decide (k=n):=by
 match n,hn with
 | 0,_=>simp[four]
 | 1,_=>simp[four]
 | 2,_=>simp[four]
 | 3,_=>simp[four]
theorem four_at{g:Nat->Bool}{n:Nat}(hn:n<4):(four g)[n]?=some (.bool (g n)):=by
 match n,hn with
 | 0,_=>rfl
 | 1,_=>rfl
 | 2,_=>rfl
 | 3,_=>rfl
section
variable {P:Program} {E:Halt->Cells->Prop} {h:Cells}
theorem lwp_equalA4{Q:Bool->Cells->Prop}{t el:TypeId}{s b:Nat}{z:Option Value}{a₀ a₁ a₂ a₃ b₀ b₁ b₂ b₃:Bool}(hu:P.underlying t=some (.array 4 el))(he:isBoolT P el=true)(hi:(P.info? el).map (fun i=>(i.size,i.bytes,i.zero))=some (1,b,z))
 (hq:Q (decide ([a₀,a₁,a₂,a₃]=[b₀,b₁,b₂,b₃])) h):Sem.lwp P (Op.equal t (.agg #[.bool a₀,.bool a₁,.bool a₂,.bool a₃]) (.agg #[.bool b₀,.bool b₁,.bool b₂,.bool b₃])) Q E h:=by
 obtain⟨inf,g1,g2,_,_⟩:=info_of hi;unfold Op.equal;have hmd:Op.maxDepth=9998+1+1:=rfl;rw[hmd,Op.equalIn];rw[lwp_bind,lwp_underlying hu];simp only[lwp_bind,lwp_sizeOf g1,g2];simp only[Std.Legacy.Range.forIn_eq_forIn_range',show (List.range' 0 ([:4]:Std.Legacy.Range).size)=[0,1,2,3] by decide,List.forIn_cons,List.forIn_nil,lwp_bind];have step:∀ (i:Nat) (x y:Bool) {K:Bool->Cells->Prop},(#[Value.bool a₀,.bool a₁,.bool a₂,.bool a₃])[i*1]?=some (.bool x)->(#[Value.bool b₀,.bool b₁,.bool b₂,.bool b₃])[i*1]?=some (.bool y)->K (x==y) h ->
   Sem.lwp P (part el #[Value.bool a₀,.bool a₁,.bool a₂,.bool a₃] (i*1)) (fun p h=>Sem.lwp P (part el #[Value.bool b₀,.bool b₁,.bool b₂,.bool b₃] (i*1)) (fun q h=>Sem.lwp P (Op.equalIn (9998+1) el p q) K E h) E h) E h:=by
  intro i x y K h1 h2 hk;refine lwp_partB he h1 (lwp_partB he h2 (lwp_equalB he hk))
 refine step 0 a₀ b₀ rfl rfl ?_;by_cases e0:a₀=b₀
 ·subst e0;simp only[beq_self_eq_true,Bool.not_true,Bool.false_eq_true,if_false,lwp_pure,lwp_bind];refine step 1 a₁ b₁ rfl rfl ?_;by_cases e1:a₁=b₁
  ·subst e1;simp only[beq_self_eq_true,Bool.not_true,Bool.false_eq_true,if_false,lwp_pure,lwp_bind];refine step 2 a₂ b₂ rfl rfl ?_;by_cases e2:a₂=b₂
   ·subst e2;simp only[beq_self_eq_true,Bool.not_true,Bool.false_eq_true,if_false,lwp_pure,lwp_bind];refine step 3 a₃ b₃ rfl rfl ?_;by_cases e3:a₃=b₃
    ·subst e3;simpa[lwp_pure] using hq
    ·have e':(a₃==b₃)=false:=by simpa using e3
     simpa[lwp_pure,e3,e'] using hq
   ·have e':(a₂==b₂)=false:=by simpa using e2
    simpa[lwp_pure,e2,e'] using hq
  ·have e':(a₁==b₁)=false:=by simpa using e1
   simpa[lwp_pure,e1,e'] using hq
 ·have e':(a₀==b₀)=false:=by simpa using e0
  simpa[lwp_pure,e0,e'] using hq
end
theorem t_eqA4{X:XP}{P:Program}{Q:Leaf->LH->Prop}{h:LH}{K:Value->T}{t el:TypeId}{x y:Operand}{b:Nat}{z:Option Value}{a₀ a₁ a₂ a₃ b₀ b₁ b₂ b₃:Bool}(hu:P.underlying t=some (.array 4 el))(he:isBoolT P el=true)(hi:(P.info? el).map (fun i=>(i.size,i.bytes,i.zero))=some (1,b,z))(hg:P.eqGuardType P.depth t=false)
 (hk:(K (.bool (decide ([a₀,a₁,a₂,a₃]=[b₀,b₁,b₂,b₃])))).wp X P Q h) :
  (T.sem false (Sem.bind (eqGuard .eql t x y (.agg #[.bool a₀,.bool a₁,.bool a₂,.bool a₃]) (.agg #[.bool b₀,.bool b₁,.bool b₂,.bool b₃])) fun _=>binOp .eql t (.agg #[.bool a₀,.bool a₁,.bool a₂,.bool a₃]) (.agg #[.bool b₀,.bool b₁,.bool b₂,.bool b₃])) K).wp X P Q h:=by
 refine t_sem (A:=fun w h'=>w=.bool (decide ([a₀,a₁,a₂,a₃]=[b₀,b₁,b₂,b₃]))/\h'=h.get) (Sem.lwp_bind _ _ ?_) (by rintro w h' ⟨rfl,rfl⟩;exact hk);unfold eqGuard;simp only[Bool.not_true,Bool.false_eq_true,if_false,lwp_bind,lwp_program,hg,Bool.not_false,if_true,lwp_pure];unfold binOp;rw[lwp_bind];exact lwp_equalA4 (s:=1) hu he hi ⟨rfl,rfl⟩
end Go.TM
namespace Go.Y
attribute [local irreducible] T.wp CV FWK
structure OffS(s:Int)(h:Cells)(b m:Nat)(f:DFileC)(y:DFile):Prop where
 blk:h b=some (true,.cells (offCells f y m s).toArray 129 (0,0))
 ne:b≠m
 map:∃ M,HoldsO startV h m M/\∀ k v,M k=some v->v=.int .i64 (endsD y.cal k.1 ⟨k.2.1,k.2.2⟩)
 data:∃ d:Cells,d.le h/\d b=none/\d m=none/\DFileR d f y/\Lens d
abbrev OffR:=OffS 0
theorem OffS.at{s:Int}{h:Cells}{b m:Nat}{f:DFileC}{y:DFile}(o:OffS s h b m f y):DfAt h ⟨b,0,none⟩ f y:=dfAt_of o.blk fun i v hv=>by
 have hi:=(List.getElem?_eq_some_iff.1 hv).1;rw[List.getElem?_toArray,offCells,List.getElem?_append_left hi];exact hv
theorem OffS.dfile{s:Int}{h:Cells}{b m:Nat}{f:DFileC}{y:DFile}(o:OffS s h b m f y):DFileR h f y:=by
 obtain⟨d,h1,_,_,h2,_⟩:=o.data;exact h2.le h1
theorem OffS.lens{s:Int}{h:Cells}{b m:Nat}{f:DFileC}{y:DFile}(o:OffS s h b m f y):Lens h:=by
 obtain⟨d,h1,_,_,_,h2⟩:=o.data;exact h2.le h1
theorem OffS.isMap{s:Int}{h:Cells}{b m:Nat}{f:DFileC}{y:DFile}(o:OffS s h b m f y):IsMap h m:=by
 obtain⟨M,h1,_⟩:=o.map;exact h1.isMap
theorem OffS.le{s:Int}{h h':Cells}{b m:Nat}{f:DFileC}{y:DFile}(hl:h.le h')(o:OffS s h b m f y):OffS s h' b m f y:=by
 obtain⟨M,h1,h2⟩:=o.map;obtain⟨d,d1,d2⟩:=o.data;exact⟨hl _ _ o.blk,o.ne,⟨M,h1.le hl,h2⟩,d,Cells.le_trans d1 hl,d2⟩
theorem und1337:Tryz.prog.underlying 136=some (.array 4 4):=by kernel_rfl
theorem c3316{X:XP}(hX:XOK X){h:LH}{b:Nat}{f:DFileC}{y:DFile}(at_:DfAt h.get ⟨b,0,none⟩ f y)(hk:1<=y.kinds/\y.kinds<=4):FW X Tryz.prog 61 #[.pointer (some ⟨b,0,none⟩)] h fun r h'=>h.le h'/\r=.agg (four (neededF y.kinds)):=by
 refine w3316 _ hX ?_;unfold n3316;refine t_newG fun r h1 le1 hr0 hb1 _=>?_;have g2:=(at_.le le1.1).g2;have g2':h1.get.cell? (Addr.add (Addr.add ⟨b,0,none⟩ 0) 2)=some (.int .i64 y.kinds):=by rw[Addr.add_add'];exact g2
 refine gZ ?_;refine t_loopB (fun mm vs h'=>h.le h'/\∃ i:Nat,vs=[.int .i64 i]/\(i:Int)<=y.kinds/\mm=y.kinds.toNat-i/\h'.get r=some (true,.cells (four fun k=>decide (k<i)) 136 (0,0)))
  (fun vs h'=>h.le h'/\∃ i:Nat,vs=[.int .i64 i]/\h'.get r=some (true,.cells (four (neededF y.kinds)) 136 (0,0))) ⟨le1,0,rfl,by omega,rfl,by rw[hb1];rfl⟩ ?_ ?_
 ·rintro Y mm vs h2 hY ⟨le2,i,rfl,hi,rfl,hb2⟩;refine yJ (fun e1=>?_) (fun e1=>?_)
  ·have hi4:i<4:=by omega
   have hin:0<=(i:Int)/\(i:Int)<((4:Nat):Int):=by omega
   refine gZ ?_;have ea:Addr.add (Addr.add ⟨r,0,none⟩ ((i:Int).toNat*1)) 0=⟨r,i,none⟩:=by rw[add_plain,add_plain];simp
   rw[ea];refine t_storeG hb2 rfl (four_at hi4) fun h3 kp3 hb3=>?_;refine t_again (hY (y.kinds.toNat-(i+1)) _ _ (by omega) ⟨kp3.le_of le2 hr0,i+1,?_,by omega,rfl,?_⟩)
   ·rw[wrap_id (by omega) (by omega)];rfl
   ·rw[hb3,four_set hi4];congr 4;funext k;by_cases e:k=i
    ·subst e;simp
    ·have:decide (k<i+1)=decide (k<i):=by rw[decide_eq_decide];omega
     simp[e,this]
  ·refine gH ⟨le2,i,rfl,?_⟩;rw[hb2];congr 4;funext k;unfold neededF;rw[decide_eq_decide];omega
 ·rintro vs h2 ⟨le2,i,rfl,hb2⟩;have r0:=cell_blk hb2 (four_at (n:=0) (by decide));have r1:h2.get.cell? (Addr.add ⟨r,0,none⟩ 1)=some (.bool (neededF y.kinds 1)):=by rw[add_plain];exact cell_blk hb2 (four_at (n:=1) (by decide))
  have r2:h2.get.cell? (Addr.add ⟨r,0,none⟩ 2)=some (.bool (neededF y.kinds 2)):=by rw[add_plain];exact cell_blk hb2 (four_at (n:=2) (by decide))
  have r3:h2.get.cell? (Addr.add ⟨r,0,none⟩ 3)=some (.bool (neededF y.kinds 3)):=by rw[add_plain];exact cell_blk hb2 (four_at (n:=3) (by decide))
  have r0':h2.get.cell? (Addr.add ⟨r,0,none⟩ 0)=some (.bool (neededF y.kinds 0)):=by rw[add_plain];exact r0
  refine gZ ?_;exact t_ret ⟨le2,rfl⟩
theorem c3315{X:XP}(hX:XOK X){h:LH}{b:Nat}{f:DFileC}{y:DFile}(at_:DfAt h.get ⟨b,0,none⟩ f y){a:DApp}{g:AppC}(ar:AppR h.get g a)(ok:∀ p∈a.papers,0<=p.kind/\p.kind<=3)(day:Int) :
  FW X Tryz.prog 60 #[.pointer (some ⟨b,0,none⟩),appV g a,day] h fun r h'=>h.le h'/\r=.agg (four (cameF y.kinds a.papers day)):=by
 refine w3315 _ _ _ _ _ _ _ _ _ _ _ _ hX ?_;unfold n3315;refine t_newG fun r h1 le1 hr0 hb1 _=>?_;have hn:=ar.papers.1;have hb:=ar.papers.2.1;refine t_loopB (fun mm vs h'=>h.le h'/\∃ i:Nat,vs=[.int .i64 i]/\i<=g.n1/\mm=g.n1-i/\h'.get r=some (true,.cells (four (cameF y.kinds (a.papers.take i) day)) 136 (0,0)))
  (fun vs h'=>h.le h'/\∃ i:Nat,vs=[.int .i64 i]/\h'.get r=some (true,.cells (four (cameF y.kinds a.papers day)) 136 (0,0))) ⟨le1,0,rfl,Nat.zero_le _,rfl,by rw[hb1];rfl⟩ ?_ ?_
 ·rintro Y mm vs h2 hY ⟨le2,i,rfl,hi,rfl,hb2⟩;refine yJ (fun e1=>?_) (fun e1=>?_)
  ·obtain⟨x,ad,hx,ha,e2,e3⟩:=(ar.papers.le DPaperE.grow le2.1).at (i:=i) (by omega);obtain⟨k0,k3⟩:=ok x (List.mem_of_getElem? hx);have ht:a.papers.take (i+1)=a.papers.take i++[x]:=by rw[List.take_add_one,hx];rfl
   have next:∀ h3:LH,h.le h3->h3.get r=some (true,.cells (four (cameF y.kinds (a.papers.take (i+1)) day)) 136 (0,0))->Y [.int .i64 (wrap .i64 ((i:Int)+1))] h3:=fun h3 le3 hb3=>by
    refine hY (g.n1-(i+1)) _ _ (by omega) ⟨le3,i+1,?_,by omega,rfl,hb3⟩;rw[wrap_id (by omega) (by omega)];rfl
   have stay:¬ (x.day<=day/\x.kind<y.kinds)->Y [.int .i64 (wrap .i64 ((i:Int)+1))] h2:=fun hno=>by
    refine next h2 le2 ?_
    rw[hb2,ht,cameF_snoc];congr 4;funext k;by_cases e4:x.day<=day
    ·by_cases e5:x.kind<y.kinds
     ·exact absurd ⟨e4,e5⟩ hno
     ·simp[e5]
    ·simp[e4]
   have g2:=(at_.le le2.1).g2;have g2':h2.get.cell? (Addr.add (Addr.add ⟨b,0,none⟩ 0) 2)=some (.int .i64 y.kinds):=by rw[Addr.add_add'];exact g2
   refine yJ (fun e4=>?_) (fun e4=>?_)
   ·refine gZ ?_;refine t_if (fun e5=>?_) (fun e5=>t_again (stay fun hh=>e5 hh.2));have hin:0<=x.kind/\x.kind<((4:Nat):Int):=by omega
    refine gZ ?_;have ea:Addr.add (Addr.add ⟨r,0,none⟩ (x.kind.toNat*1)) 0=⟨r,x.kind.toNat,none⟩:=by rw[add_plain,add_plain];simp
    rw[ea];have hk4:x.kind.toNat<4:=by omega
    refine t_storeG hb2 rfl (four_at hk4) fun h3 kp3 hb3=>?_;refine t_again (next h3 (kp3.le_of le2 hr0) ?_);rw[hb3,four_set hk4,ht,cameF_snoc];congr 4;funext k;have:decide (k=x.kind.toNat)=decide (x.kind=(k:Int)):=by rw[decide_eq_decide];omega
    simp[e4,e5,this]
   ·refine gZ ?_;exact t_again (stay fun hh=>e4 hh.1)
  ·refine gH ⟨le2,i,rfl,?_⟩;rw[hb2,List.take_of_length_le (by omega)]
 ·rintro vs h2 ⟨le2,i,rfl,hb2⟩;have r1:h2.get.cell? (Addr.add ⟨r,0,none⟩ 1)=some (.bool (cameF y.kinds a.papers day 1)):=by rw[add_plain];exact cell_blk hb2 (four_at (n:=1) (by decide))
  have r2:h2.get.cell? (Addr.add ⟨r,0,none⟩ 2)=some (.bool (cameF y.kinds a.papers day 2)):=by rw[add_plain];exact cell_blk hb2 (four_at (n:=2) (by decide))
  have r3:h2.get.cell? (Addr.add ⟨r,0,none⟩ 3)=some (.bool (cameF y.kinds a.papers day 3)):=by rw[add_plain];exact cell_blk hb2 (four_at (n:=3) (by decide))
  have r0':h2.get.cell? (Addr.add ⟨r,0,none⟩ 0)=some (.bool (cameF y.kinds a.papers day 0)):=by rw[add_plain];exact cell_blk hb2 (four_at (n:=0) (by decide))
  refine gZ ?_;exact t_ret ⟨le2,rfl⟩
end Go.Y
end
section
namespace Go.TM
structure Kb(b m:Nat)(h h':LH):Prop where
 get:∀ r x,r≠b->r≠m->h.get r=some x->h'.get r=some x
 rest:h'.chans=h.chans/\h'.pend=h.pend/\h'.todo=h.todo
theorem Kb.trans{b m:Nat}{x y z:LH}(h1:Kb b m x y)(h2:Kb b m y z):Kb b m x z:=⟨fun r v hb hm hx=>h2.get r v hb hm (h1.get r v hb hm hx),h2.rest.1.trans h1.rest.1,h2.rest.2.1.trans h1.rest.2.1,h2.rest.2.2.trans h1.rest.2.2⟩
theorem Kb.of_kp{b m:Nat}{h h':LH}(k:Kp m h h'):Kb b m h h':=⟨fun r x _ hm hx=>k.get r x hm hx,k.rest⟩
end Go.TM
namespace Go.Y
attribute [local irreducible] T.wp CV FWK
theorem und1327:Tryz.prog.underlying 120=some (.map 181 3):=by kernel_rfl
theorem keyStart(k:Int×Int×Int):FKey Tryz.prog 181 (startV k):=.inr (.inr ⟨nest_of (by kernel_rfl),k.1,k.2.1,k.2.2,rfl⟩)
theorem off_word{f:DFileC}{y:DFile}{m:Nat}{s s':Int}:(offCells f y m s).toArray.setIfInBounds 16 (.int .i32 s')=(offCells f y m s').toArray:=by
 simp[offCells,dfCells]
theorem off_16{f:DFileC}{y:DFile}{m:Nat}{s:Int}:(offCells f y m s).toArray[16]?=some (.int .i32 s):=by
 simp[offCells,dfCells]
theorem off_15{f:DFileC}{y:DFile}{m:Nat}{s:Int}:(offCells f y m s).toArray[15]?=some (.map (some m)):=by
 simp[offCells,dfCells]
theorem OffS.word{s s':Int}{h:Cells}{b m:Nat}{f:DFileC}{y:DFile}(o:OffS s h b m f y):OffS s' (h.setCell ⟨b,16,none⟩ (.int .i32 s')) b m f y:=by
 have same:∀ r,r≠b->h.setCell ⟨b,16,none⟩ (.int .i32 s') r=h r:=fun r hr=>by unfold Cells.setCell;rw[if_neg hr]
 obtain⟨M,⟨es,c,h1,h2⟩,h3⟩:=o.map;obtain⟨d,d1,d2,d3⟩:=o.data;refine⟨?_,o.ne,⟨M,⟨es,c,by rw[same _ o.ne.symm];exact h1,h2⟩,h3⟩,d,fun r x hx=>?_,d2,d3⟩
 ·unfold Cells.setCell;rw[if_pos rfl,o.blk];show some (true,Obj.cells ((offCells f y m s).toArray.setIfInBounds 16 (.int .i32 s')) 129 (0,0))=_;rw[off_word]
 ·rw[same _ (fun e=>by rw[e,d2]at hx;cases hx)];exact d1 _ _ hx
theorem OffS.c16{s:Int}{h:Cells}{b m:Nat}{f:DFileC}{y:DFile}(o:OffS s h b m f y):h.cell? ⟨b,16,none⟩=some (.int .i32 s):=cell_blk o.blk off_16
theorem OffS.c15{s:Int}{h:Cells}{b m:Nat}{f:DFileC}{y:DFile}(o:OffS s h b m f y):h.cell? (Addr.add ⟨b,0,none⟩ 15)=some (.map (some m)):=by rw[add_plain];exact cell_blk o.blk off_15
theorem kb_word{h:LH}{b m:Nat}{v:Value}:Kb b m h { h with get:=h.get.setCell ⟨b,16,none⟩ v } :=
 ⟨fun r x hb _ hx=>by show h.get.setCell _ _ r=_;unfold Cells.setCell;rw[if_neg hb];exact hx,rfl,rfl,rfl⟩
theorem c3317{h:LH}{b m:Nat}{f:DFileC}{y:DFile}(o:OffR h.get b m f y)(ok:DFileOk y){day:Int}(hd:DayOk day){t:DTerm}(ht:TermOk t) :
  FW XL Tryz.prog 62 #[.pointer (some ⟨b,0,none⟩),day,.agg #[.int .i64 t.n,.int .i64 t.unit]] h fun r h'=>r=.int .i64 (endsD y.cal day t)/\Kp m h h'/\OffR h'.get b m f y:=by
 have e16:Addr.add ⟨b,0,none⟩ 16=⟨b,16,none⟩:=by rw[add_plain]
 refine w3317 ⟨b,0,none⟩ day t.n t.unit (Q0:=fun v h'=>v=.int .i64 (endsD y.cal day t)/\Kb b m h h'/\OffS 1 h'.get b m f y) ?_ ?_
 ·unfold n3317;refine gS2 rfl ?_;rw[e16];refine t_call (A:=fun v h1=>v=.tuple #[]/\Kb b m h h1/\OffS 1 h1.get b m f y) (LkW.fw_lock mulib o.c16 (by simp[Cells.frozen?,o.blk]) ⟨_,o.blk⟩ ⟨rfl,kb_word,o.word⟩) ?_;rintro _ h1 ⟨rfl,kb1,o1⟩;have c15:=o1.c15;refine gZ ?_;obtain⟨M,⟨es,c,hm,hM⟩,hv⟩:=o1.map;refine t_getO (day,t.n,t.unit) rfl startInj und1327 inf3 hm hM keyStart (fun v hv'=>?_) fun hno=>?_
  ·have e:=hv _ _ hv';subst e;simp only[if_true];refine yF ?_;exact t_ret ⟨rfl,kb1,o1⟩
  ·simp only[if_true];obtain⟨d0,d1,_⟩:=o1.at.nest;have d0':h1.get.cell? (Addr.add (Addr.add (Addr.add ⟨b,0,none⟩ 0) 0) 0)=some (.slice f.cal.p0 f.cal.n0 f.cal.c0):=by rw[Addr.add_add']at d0 ⊢;rw[Addr.add_add'];exact d0
   have d1':h1.get.cell? (Addr.add (Addr.add (Addr.add ⟨b,0,none⟩ 0) 0) 1)=some (.slice f.cal.p1 f.cal.n1 f.cal.c1):=by rw[Addr.add_add']at d1 ⊢;rw[Addr.add_add'];exact d1
   refine yT ?_;refine gZ ?_;refine t_call (FW.top (c1080 o1.lens hd ht.1 ht.2)) ?_;rintro _ _ ⟨rfl,v,rfl,hlead⟩;refine gZ ?_;refine t_gr (c1079 o1.dfile.cal (day:=v) ⟨Int.le_trans hd.1 (hlead.from hd.2 ht.1.1),hlead.most⟩) ?_;rintro _ h2 le2 rfl;have hend:Te.nextT y.cal.cal v=endsD y.cal day t:=endsD_is ⟨v,hlead,rfl⟩;rw[hend];have o2:=o1.le le2.1;have c15':=o2.c15;have q0:=Cells.cell?_le le2.1 d0';have q1:=Cells.cell?_le le2.1 d1';refine gZ ?_;refine t_putO (day,t.n,t.unit) rfl startInj und1327 (le2.1 _ _ hm) hM keyStart fun es' c' hM'=>?_;refine t_ret ⟨rfl,kb1.trans ((Kb.of_kp (Kp.of_le le2)).trans (Kb.of_kp Kp.upd)),?_⟩;obtain⟨d,d1,d2,d3,d4⟩:=o2.data;refine⟨?_,o2.ne,⟨_,⟨es',c',Cells.upd_self _ _ _,hM'⟩,fun k w hw=>?_⟩,d,fun r x hx=>?_,d2,d3,d4⟩
   ·show h2.get.upd m _ b=_;rw[Cells.upd_ne _ _ o2.ne];exact o2.blk
   ·unfold updO at hw;split at hw
    ·rename_i e;subst e;cases hw;rfl
    ·exact hv k w hw
   ·show h2.get.upd m _ r=_;rw[Cells.upd_ne _ _ (fun e=>by rw[e,d3]at hx;cases hx)];exact d1 _ _ hx
 ·rintro v h1 ⟨rfl,kb1,o1⟩;rw[e16];refine LkW.fwk_unlock mulib o1.c16 (by simp[Cells.frozen?,o1.blk]) ⟨_,o1.blk⟩ ?_;have o2:OffR _ b m f y:=o1.word (s':=0);refine⟨rfl,⟨fun r x hr hx=>?_,(kb1.trans kb_word).rest⟩,o2⟩;by_cases e:r=b
  ·subst e;rw[o.blk]at hx;cases hx;exact o2.blk
  ·exact(kb1.trans kb_word).get r x e hr hx
end Go.Y
end
section
namespace Go.TM
variable {P:Program} {X:XP} {Q:Leaf->LH->Prop}
end Go.TM
namespace Go.TM
variable {P:Program} {X:XP} {Q:Leaf->LH->Prop}
theorem t_buildR{h:LH}{k:Value->T}{t el:TypeId}{n s b:Nat}{parts:Array (Nat×Value)}{z:Value}(ws:List Value)(hu:P.underlying t=some (.slice el))(hi:(P.info? el).map (fun i=>(i.size,i.bytes,i.zero))=some (s,b,some z))(hn:n*s<=2^24)(hpos:n*s≠0)
 (hf:Instr.fill (fun i=>some (i*s,s)) ((Array.range (n*s)).map (z.cells[·%z.cells.size]!)) parts.toList=some ws.toArray)
 (hk:∀ r h',h.le h'->h.get r=none->(∀ (j:Nat) w,ws[j]?=some w->h'.get.cell? (Addr.add ⟨r,0,none⟩ j)=some w)->(k (.slice (some ⟨r,0,none⟩) n n)).wp X P Q h'):(T.sem false (Instr.buildSlice t n parts) k).wp X P Q h :=
 t_build hu hi hn hpos hf fun r hr=>hk r _ (LH.upd_le hr) hr fun j w hj=>by
  rw[add_plain,Nat.zero_add];exact cell_upd (by simpa using hj)
end Go.TM
namespace Go.TM
variable {P:Program} {X:XP} {Q:Leaf->LH->Prop}
theorem setCell_updU{h:Cells}{r o:Nat}{cs:Array Value}{el:TypeId}{fz:Nat×Nat}{v:Value}:(h.upd r (true,.cells cs el fz)).setCell ⟨r,o,none⟩ v=h.upd r (true,.cells (cs.setIfInBounds o v) el fz):=by
 funext k;unfold Cells.setCell Cells.upd;by_cases e:k=r
 ·subst e;simp
 ·simp[e]
theorem frozen_upd{h:Cells}{r o:Nat}{cs:Array Value}{el:TypeId}:(h.upd r (true,.cells cs el (0,0))).frozen? ⟨r,o,none⟩=false:=by
 unfold Cells.frozen?;simp[Cells.upd]
theorem t_storeU{h:LH}{r o:Nat}{cs:Array Value}{el:TypeId}{a:Addr}{v:Value}{k:T}(ha:a=⟨r,o,none⟩)(h1:isOne v=true)(ho:o<cs.size)(hk:k.wp X P Q { h with get:=h.get.upd r (true,.cells (cs.setIfInBounds o v) el (0,0)) }) :
  (T.store a v k).wp X P Q { h with get:=h.get.upd r (true,.cells cs el (0,0)) }:=by
 subst ha;refine t_store (v₀:=cs[o]) h1 ⟨_,Cells.upd_self _ _ _⟩ (cell_upd (by simp[ho])) frozen_upd ?_;show k.wp X P Q { h with get:=(h.get.upd r (true,.cells cs el (0,0))).setCell ⟨r,o,none⟩ v };rw[setCell_updU];exact hk
end Go.TM
end
section
namespace Go.Y
set_option linter.unusedVariables false
variable {X:XP} {h:LH} {A:Value->LH->Prop}
def n2092(xp:Option Addr)(xn xc:Nat):T:=.cI 104 #[.int .u64 (IntKind.wrap .u64 (↑xn:Int))] fun n=>.cl 103 #[.slice xp xn xc,.int .i64 0,.int .i64 (↑xn:Int),n] fun v=>.unTup v fun l=>.unNil l (.rt (.tuple #[]))
theorem w2092(xp:Option Addr)(xn xc:Nat):FX X 59 #[.slice xp xn xc] h A (n2092 xp xn xc):=fk [] [] [] Tryz.f59
def n2101(datap:Option Addr)(datan datac:Nat)(a b limit:Int):T:=.loop [a,b,limit,true,true] (fun vs=>.pi vs fun n vs=>.pi vs fun n_1 vs=>.pi vs fun n_2 vs=>.popB vs fun b vs=>.popB vs fun b_1 vs=>.unNil vs (bif decide (wrap .i64 (n_1-n)<=12) then .cl 122 #[.slice datap datan datac,n,n_1] fun v=>.unTup v fun l=>.unNil l (.rn [n,n_1,n_2,b,b_1]) else bif n_2==0 then .cl 123 #[.slice datap datan datac,n,n_1] fun v=>.unTup v fun l=>.unNil l (.rn [n,n_1,n_2,b,b_1]) else .blk (bif !b then .cl 124 #[.slice datap datan datac,n,n_1] fun v=>.unTup v fun l=>.unNil l (.ag [.int .i64 (wrap .i64 (n_2-1))]) else .ag [n_2]) (fun vs=>.pi vs fun n_3 vs=>.unNil vs (.cT 125 #[.slice datap datan datac,n,n_1] fun v vs=>.ui v fun n_4=>.unCons vs fun v vs=>.ui v fun n_5=>.unNil vs (.blk (bif n_5==2 then .cl 126 #[.slice datap datan datac,n,n_1] fun v=>.unTup v fun l=>.unNil l (.ag [.int .i64 (wrap .i64 (wrap .i64 (n_1-1)-wrap .i64 (n_4-n))),.int .i64 1]) else .ag [n_4,n_5]) (fun vs=>.pi vs fun n_6 vs=>.pi vs fun n_7 vs=>.unNil vs (.blk (bif b then bif b_1 then bif n_7==1 then .cB 127 #[.slice datap datan datac,n,n_1] fun b=>bif b then .rn [] else .ag [] else .ag [] else .ag [] else .ag []) (fun vs=>.unNil vs (.blk (bif decide (n>0) then .need (0<=wrap .i64 (n-1)/\wrap .i64 (n-1)<(↑datan:Int)) (.someA datap fun a=>.li (a.add ((wrap .i64 (n-1)).toNat*1)) fun n_8=>.need (0<=n_6/\n_6<(↑datan:Int)) (.someA datap fun a_1=>.li (a_1.add (n_6.toNat*1)) fun n_9=>.cB 128 #[n_8,n_9] fun b=>.need (0<=n_6/\n_6<(↑datan:Int)) (.someA datap fun a_2=>.ne (.pointer (some (a_2.add (n_6.toNat*1)))) (.pointer (some (a_1.add (n_6.toNat*1)))) (.nds [n_6,.S datap datan datac] (.need (0<=wrap .i64 (n-1)/\wrap .i64 (n-1)<(↑datan:Int)) (.someA datap fun a_3=>.ne (.pointer (some (a_3.add ((wrap .i64 (n-1)).toNat*1)))) (.pointer (some (a.add ((wrap .i64 (n-1)).toNat*1)))) (.nds [.val (.int .i64 (wrap .i64 (n-1))),n,.S datap datan datac,.B (decide (n>0)),n] (bif !b then .cI 129 #[.slice datap datan datac,n,n_1,n_6] fun n=>.leaf (.out 1 [n]) else .ag [n])))))))) else .nds [.U,.U,.U,.U,.U,.B (decide (n>0)),n,.U,.U,.U,.U,.U,.B (decide (n>0)),n,.U,.U,.U,.U,.U,.B (decide (n>0)),n] (.ag [n])) (fun vs=>.pi vs fun n_8 vs=>.unNil vs (.cT 130 #[.slice datap datan datac,n_8,n_1,n_6] fun v vs=>.ui v fun n_9=>.unCons vs fun v vs=>.unB v fun b=>.unNil vs (.need ((8:Int)≠0) (bif decide (wrap .i64 (n_9-n_8)<wrap .i64 (n_1-n_9)) then .cl 103 #[.slice datap datan datac,n_8,n_9,n_3] fun v=>.unTup v fun l=>.unNil l (.ag [.int .i64 (wrap .i64 (n_9+1)),n_1,n_3,.bool (decide (wrap .i64 (n_9-n_8)>=wrap .i64 (Int.tdiv (wrap .i64 (n_1-n)) 8))),b]) else .cl 103 #[.slice datap datan datac,.int .i64 (wrap .i64 (n_9+1)),n_1,n_3] fun v=>.unTup v fun l=>.unNil l (.ag [n_8,n_9,n_3,.bool (decide (wrap .i64 (n_1-n_9)>=wrap .i64 (Int.tdiv (wrap .i64 (n_1-n)) 8))),b]))))) (fun vs=>.pi vs fun n vs=>.unNil vs (.rn [n,n_1,n_3,b,b_1])) fun x x_1=>bif Nat.beq x 1 then .pi x_1 fun n vs=>.unNil vs (.ag [n,n_1,n_3,b,b_1]) else .fail)) (fun vs=>.unNil vs (.rn [n,n_1,n_3,b,b_1])) fun x x_1=>.fail)) (fun vs=>.pi vs fun n_6 vs=>.pi vs fun n_7 vs=>.unNil vs (.rn [n,n_1,n_3,b,b_1])) fun x x_1=>.fail))) (fun vs=>.pi vs fun n_3 vs=>.unNil vs (.rn [n,n_1,n_3,b,b_1])) fun x x_1=>.fail)) (fun vs=>.pi vs fun n vs=>.pi vs fun n vs=>.pi vs fun n vs=>.popB vs fun b vs=>.popB vs fun b vs=>.unNil vs (.rt (.tuple #[]))) (fun vs=>.pi vs fun n vs=>.pi vs fun n vs=>.pi vs fun n vs=>.popB vs fun b vs=>.popB vs fun b vs=>.unNil vs (.rt (.tuple #[]))) fun x x_1=>.fail
theorem w2101(datap:Option Addr)(datan datac:Nat)(a b limit:Int):FX X 103 #[.slice datap datan datac,a,b,limit] h A (n2101 datap datan datac a b limit):=fk [] [⟨0,[(1,.int .i64),(2,.int .i64),(3,.int .i64),(8,.bool),(9,.bool)],[],[],[],[]⟩] [⟨20,[(1,.int .i64)],[],[1],[],[]⟩,⟨17,[],[],[],[],[]⟩,⟨15,[(11,.int .i64),(12,.int .i64)],[],[],[],[]⟩,⟨10,[(3,.int .i64)],[],[],[],[]⟩] Tryz.f103
def n2102(x:Int):T:=.cI 132 #[.int .u64 x] fun n=>.rt (.int .i64 n)
theorem w2102(x:Int):FX X 104 #[.int .u64 x] h A (n2102 x):=fk [] [] [] Tryz.f104
def n2105(datap:Option Addr)(datan datac:Nat)(a b:Int):T:=.loop [.int .i64 (wrap .i64 (a+1))] (fun vs=>.pi vs fun n vs=>.unNil vs (bif decide (n<b) then .loop [n] (fun vs=>.pi vs fun n vs=>.unNil vs (.blk (bif decide (n>a) then .need (0<=n/\n<(↑datan:Int)) (.someA datap fun a_1=>.li (a_1.add (n.toNat*1)) fun n_1=>.need (0<=wrap .i64 (n-1)/\wrap .i64 (n-1)<(↑datan:Int)) (.someA datap fun a_2=>.li (a_2.add ((wrap .i64 (n-1)).toNat*1)) fun n_2=>.cB 128 #[n_1,n_2] fun b=>.need (0<=wrap .i64 (n-1)/\wrap .i64 (n-1)<(↑datan:Int)) (.someA datap fun a_3=>.ne (.pointer (some (a_3.add ((wrap .i64 (n-1)).toNat*1)))) (.pointer (some (a_2.add ((wrap .i64 (n-1)).toNat*1)))) (.nds [.val (.int .i64 (wrap .i64 (n-1))),n,.S datap datan datac] (.need (0<=n/\n<(↑datan:Int)) (.someA datap fun a_4=>.ne (.pointer (some (a_4.add (n.toNat*1)))) (.pointer (some (a_1.add (n.toNat*1)))) (.nds [n,.S datap datan datac,.B (decide (n>a)),a,n] (bif b then .ag [] else .leaf (.out 2 []))))))))) else .nds [.U,.U,.U,.U,.U,.B (decide (n>a)),a,n,.U,.U,.U,.U,.U,.B (decide (n>a)),a,n] (.leaf (.out 2 []))) (fun vs=>.unNil vs (.need (0<=wrap .i64 (n-1)/\wrap .i64 (n-1)<(↑datan:Int)) (.someA datap fun a=>.li (a.add ((wrap .i64 (n-1)).toNat*1)) fun n_1=>.need (0<=n/\n<(↑datan:Int)) (.someA datap fun a=>.li (a.add (n.toNat*1)) fun n_2=>.need (0<=n/\n<(↑datan:Int)) (.someA datap fun a_1=>.store ((a_1.add (n.toNat*1)).add 0) (.int .i64 n_1) (.need (0<=n/\n<(↑datan:Int)) (.someA datap fun a_2=>.ne (.pointer (some (a_2.add (n.toNat*1)))) (.pointer (some (a.add (n.toNat*1)))) (.nds [n,.S datap datan datac,.val (.int .i64 (wrap .i64 (n-1))),n,.S datap datan datac] (.need (0<=wrap .i64 (n-1)/\wrap .i64 (n-1)<(↑datan:Int)) (.someA datap fun a=>.store ((a.add ((wrap .i64 (n-1)).toNat*1)).add 0) (.int .i64 n_2) (.ag [.int .i64 (wrap .i64 (n-1))]))))))))))) (fun vs=>.unNil vs (.rn [n])) fun x x_1=>bif Nat.beq x 2 then .unNil x_1 (.bk [n]) else .fail)) (fun vs=>.pi vs fun n_1 vs=>.unNil vs (.ag [.int .i64 (wrap .i64 (n+1))])) (fun vs=>.pi vs fun n_1 vs=>.unNil vs (.rn [n])) fun x x_1=>.fail else .bk [n])) (fun vs=>.pi vs fun n vs=>.unNil vs (.rt (.tuple #[]))) (fun vs=>.pi vs fun n vs=>.unNil vs (.rt (.tuple #[]))) fun x x_1=>.fail
theorem w2105(datap:Option Addr)(datan datac:Nat)(a b:Int):FX X 122 #[.slice datap datan datac,a,b] h A (n2105 datap datan datac a b):=fk [] [⟨2,[(7,.int .i64)],[],[],[],[]⟩,⟨0,[(6,.int .i64)],[],[],[],[]⟩] [⟨6,[],[],[2],[],[]⟩] Tryz.f122
def n2111(x y:Int):T:=.cB 142 #[x] fun b=>bif b then .cB 142 #[y] fun b=>bif !b then .rt (.bool true) else .rt (.bool (decide (x<y))) else .rt (.bool (decide (x<y)))
theorem w2111(x y:Int):FX X 128 #[x,y] h A (n2111 x y):=fk [] [] [] Tryz.f128
def n2115(x:Int):T:=.blk (bif decide (x>=4294967296) then .need ((0:Int)<=32) (.ag [.int .u64 (Int.fdiv x (2^32)),.int .i64 32]) else .ag [.int .u64 x,.int .i64 0]) (fun vs=>.popI .u64 vs fun n vs=>.pi vs fun n_1 vs=>.unNil vs (.blk (bif decide (n>=65536) then .need ((0:Int)<=16) (.ag [.int .u64 (Int.fdiv n (2^16)),.int .i64 (wrap .i64 (n_1+16))]) else .ag [.int .u64 n,n_1]) (fun vs=>.popI .u64 vs fun n vs=>.pi vs fun n_2 vs=>.unNil vs (bif decide (n>=256) then .need ((0:Int)<=8) (.sem false (Instr.index 9 (.string { data:=List.toArray (List.append (List.append [0,1,2,2,3,3,3,3,4,4,4,4,4,4,4,4,5,5,5,5,5,5,5,5,5,5,5,5,5,5,5,5,6,6,6,6,6,6,6,6,6,6,6,6,6,6,6,6,6,6,6,6,6,6,6,6,6,6,6,6,6,6,6,6] [7,7,7,7,7,7,7,7,7,7,7,7,7,7,7,7,7,7,7,7,7,7,7,7,7,7,7,7,7,7,7,7,7,7,7,7,7,7,7,7,7,7,7,7,7,7,7,7,7,7,7,7,7,7,7,7,7,7,7,7,7,7,7,7]) (List.append [8,8,8,8,8,8,8,8,8,8,8,8,8,8,8,8,8,8,8,8,8,8,8,8,8,8,8,8,8,8,8,8,8,8,8,8,8,8,8,8,8,8,8,8,8,8,8,8,8,8,8,8,8,8,8,8,8,8,8,8,8,8,8,8] [8,8,8,8,8,8,8,8,8,8,8,8,8,8,8,8,8,8,8,8,8,8,8,8,8,8,8,8,8,8,8,8,8,8,8,8,8,8,8,8,8,8,8,8,8,8,8,8,8,8,8,8,8,8,8,8,8,8,8,8,8,8,8,8])) }) (.int .u8 (IntKind.wrap .u8 (Int.fdiv n (2^8))))) fun v=>.unI .u8 v fun n=>.rt (.int .i64 (wrap .i64 (wrap .i64 (n_2+8)+wrap .i64 n)))) else .sem false (Instr.index 9 (.string { data:=List.toArray (List.append (List.append [0,1,2,2,3,3,3,3,4,4,4,4,4,4,4,4,5,5,5,5,5,5,5,5,5,5,5,5,5,5,5,5,6,6,6,6,6,6,6,6,6,6,6,6,6,6,6,6,6,6,6,6,6,6,6,6,6,6,6,6,6,6,6,6] [7,7,7,7,7,7,7,7,7,7,7,7,7,7,7,7,7,7,7,7,7,7,7,7,7,7,7,7,7,7,7,7,7,7,7,7,7,7,7,7,7,7,7,7,7,7,7,7,7,7,7,7,7,7,7,7,7,7,7,7,7,7,7,7]) (List.append [8,8,8,8,8,8,8,8,8,8,8,8,8,8,8,8,8,8,8,8,8,8,8,8,8,8,8,8,8,8,8,8,8,8,8,8,8,8,8,8,8,8,8,8,8,8,8,8,8,8,8,8,8,8,8,8,8,8,8,8,8,8,8,8] [8,8,8,8,8,8,8,8,8,8,8,8,8,8,8,8,8,8,8,8,8,8,8,8,8,8,8,8,8,8,8,8,8,8,8,8,8,8,8,8,8,8,8,8,8,8,8,8,8,8,8,8,8,8,8,8,8,8,8,8,8,8,8,8])) }) (.int .u8 (IntKind.wrap .u8 n))) fun v=>.unI .u8 v fun n=>.rt (.int .i64 (wrap .i64 (n_2+wrap .i64 n))))) (fun vs=>.popI .u64 vs fun n vs=>.pi vs fun n vs=>.unNil vs (.rt (.int .i64 n))) fun x x_1=>.fail)) (fun vs=>.popI .u64 vs fun n vs=>.pi vs fun n vs=>.unNil vs (.rt (.int .i64 n))) fun x x_1=>.fail
theorem w2115(x:Int):FX X 132 #[.int .u64 x] h A (n2115 x):=fk [] [] [⟨7,[(0,.int .u64),(2,.int .i64)],[],[],[],[]⟩,⟨4,[(0,.int .u64),(2,.int .i64)],[],[],[],[]⟩] Tryz.f132
end Go.Y
end
section
namespace Go.TM
variable {P:Program} {X:XP} {Q:Leaf->LH->Prop}
theorem t_indexStr{h:LH}{K:Value->T}{t:TypeId}{s:ByteArray}{i:Nat}(hu:P.underlying t=some .string)(hs:s.size=256)(hi:i<256)(hk:∀ b:Nat,(K (.int .u8 (b:Int))).wp X P Q h):(T.sem false (Instr.index t (.string s) (.int .u8 (i:Int))) K).wp X P Q h:=by
 refine t_sem (A:=fun w h'=>h'=h.get/\∃ b:Nat,w=.int .u8 (b:Int)) ?_ (by rintro w h' ⟨rfl,b,rfl⟩;exact hk b);unfold Instr.index;simp only[asIntOf,lwp_bind,lwp_pure,lwp_underlying hu];have h1:s[(i:Int).toNat]?=some (s[i]'(by omega)):=by
  rw[Int.toNat_natCast];exact getElem?_pos s i (by omega)
 rw[if_pos (by omega),h1];exact⟨rfl,_,rfl⟩
def Reads(cs:Array Value)(l:List Int):Prop:=∀ (i:Nat) y,l[i]?=some y->cs[i]?=some (.int .i64 y)
theorem swap_perm:∀ (m:List Int) (j:Nat) (x y:Int),m[j]?=some y->m[j+1]?=some x->((m.set (j+1) y).set j x).Perm m
 | [],j,x,y,h,_=>by simp at h
 | [a],j,x,y,_,h=>by simp at h
 | a::b::r,0,x,y,h1,h2=>by
  simp at h1 h2;subst h1;subst h2;simp only[List.set_cons_succ,List.set_cons_zero];exact List.Perm.swap _ _ _
 | a::b::r,j+1,x,y,h1,h2=>by
  simp only[List.set_cons_succ];exact(swap_perm (b::r) j x y (by simpa using h1) (by simpa using h2)).cons a
structure Ins(m:List Int)(i j:Nat):Prop where
 rest:∀ a b u v,a<b->b<=i->a≠j->b≠j->m[a]?=some u->m[b]?=some v->u<=v
 small:∀ b u v,j<b->b<=i->m[j]?=some u->m[b]?=some v->u<=v
theorem Ins.swap{m:List Int}{i j:Nat}{x y:Int}(h:Ins m i (j+1))(hj:j+1<=i)(hy:m[j]?=some y)(hx:m[j+1]?=some x)(hlt:x<y):Ins ((m.set (j+1) y).set j x) i j:=by
 have len:j+1<m.length:=(List.getElem?_eq_some_iff.1 hx).1;have get:∀ a,((m.set (j+1) y).set j x)[a]?=if a=j then some x else if a=j+1 then some y else m[a]?:=by
  intro a;rw[List.getElem?_set,List.getElem?_set];by_cases e1:a=j
  ·subst e1;simp;omega
  ·by_cases e2:a=j+1
   ·subst e2;simp;omega
   ·rw[if_neg (Ne.symm e1),if_neg (Ne.symm e2),if_neg e1,if_neg e2]
 refine⟨fun a b u v hab hbi ha hb hu hv=>?_,fun b u v hjb hbi hu hv=>?_⟩
 ·rw[get,if_neg ha]at hu;rw[get,if_neg hb]at hv;by_cases e1:a=j+1
  ·rw[if_pos e1]at hu;cases hu;rw[if_neg (by omega)]at hv;exact h.rest j b y v (by omega) hbi (by omega) (by omega) hy hv
  ·rw[if_neg e1]at hu;by_cases e2:b=j+1
   ·rw[if_pos e2]at hv;cases hv;exact h.rest a j u y (by omega) (by omega) (by omega) (by omega) hu hy
   ·rw[if_neg e2]at hv;exact h.rest a b u v hab hbi e1 e2 hu hv
 ·rw[get,if_pos rfl]at hu;cases hu;rw[get,if_neg (by omega)]at hv;by_cases e2:b=j+1
  ·rw[if_pos e2]at hv;cases hv;omega
  ·rw[if_neg e2]at hv;exact h.small b x v (by omega) hbi hx hv
theorem Ins.done{m:List Int}{i j:Nat}(h:Ins m i j)(hj:j=0\/∃ x y,m[j-1]?=some y/\m[j]?=some x/\y<=x):∀ a b u v,a<b->b<=i->m[a]?=some u->m[b]?=some v->u<=v:=by
 intro a b u v hab hbi hu hv;by_cases ea:a=j
 ·subst ea;exact h.small b u v hab hbi hu hv
 ·by_cases eb:b=j
  ·subst eb;rcases hj with h0|⟨x,y,h1,h2,h3⟩
   ·omega
   ·rw[hv]at h2;cases h2;by_cases e:a=b-1
    ·subst e;rw[hu]at h1;cases h1;exact h3
    ·exact Int.le_trans (h.rest a (b-1) u y (by omega) (by omega) ea (by omega) hu h1) h3
  ·exact h.rest a b u v hab hbi ea eb hu hv
theorem sorted_of{m:List Int}{n:Nat}(hn:m.length<=n)(h:∀ a b u v,a<b->b<n->m[a]?=some u->m[b]?=some v->u<=v):m.Pairwise (·<=·):=by
 rw[List.pairwise_iff_getElem];intro a b ha hb hab;exact h a b _ _ hab (by omega) (List.getElem?_eq_getElem ha) (List.getElem?_eq_getElem hb)
end Go.TM
namespace Go.Y
attribute [local irreducible] T.wp CV FWK
theorem c2111{h:LH}(x y:Int):Pu Tryz.prog 128 #[x,y] h (.bool (decide (x<y))):=by
 refine w2111 _ _ X0_ok ?_;unfold n2111;refine t_pu (c109 _) ?_;refine yF ?_;exact t_ret ⟨rfl,rfl⟩
theorem c2105{h:LH}{r c:Nat}{el:TypeId}:∀ {cs:Array Value} {l:List Int},Reads cs l->l.length<=12 ->
  FW X0 Tryz.prog 122 #[.slice (some ⟨r,0,none⟩) l.length c,.int .i64 0,.int .i64 (l.length:Int)] { h with get:=h.get.upd r (true,.cells cs el (0,0)) } fun v h'=>v=.tuple #[] /\
   ∃ cs' l',cs'.size=cs.size/\Reads cs' l'/\l'.Perm l/\l'.Pairwise (·<=·)/\h'={ h with get:=h.get.upd r (true,.cells cs' el (0,0)) }:=by
 intro cs l hr hl;have hcell:∀ {cs:Array Value} {m:List Int} {j:Nat} {y:Int},Reads cs m->m[j]?=some y->Cells.cell? (h.get.upd r (true,.cells cs el (0,0))) (Addr.add ⟨r,0,none⟩ ((j:Int).toNat*1))=some (.int .i64 y):=by
  intro cs m j y hm hy;rw[add_plain];have e:0+(j:Int).toNat*1=j:=by simp
  rw[e];exact cell_upd (hm j y hy)
 refine w2105 _ _ _ _ _ X0_ok ?_;unfold n2105;have hw0:wrap .i64 ((0:Int)+1)=((1:Nat):Int):=by rw[wrap_id (by omega) (by omega)];rfl
 rw[hw0];refine t_loop (fun mm vs h'=>∃ (i:Nat) (cs':Array Value) (m:List Int),vs=[.int .i64 i]/\mm=l.length+1-i/\1<=i/\i<=l.length+1/\h'={ h with get:=h.get.upd r (true,.cells cs' el (0,0)) }/\cs'.size=cs.size/\Reads cs' m/\m.Perm l/\∀ a b u v,a<b->b<i->m[a]?=some u->m[b]?=some v->u<=v)
  ⟨1,cs,l,rfl,rfl,Nat.le_refl _,by omega,rfl,rfl,hr,List.Perm.refl _,fun a b u v hab hb=>by omega⟩ ?_
 rintro Y mm vs _ hY ⟨i,cs1,m1,rfl,rfl,hi1,hi2,rfl,hsz1,hr1,hp1,hso1⟩;refine yJ (fun e1=>?_) (fun e1=>?_)
 ·have hlen1:=hp1.length_eq;refine t_loop (fun mm vs h'=>∃ (j:Nat) (cs':Array Value) (m:List Int),vs=[.int .i64 j]/\j=mm/\j<=i/\h'={ h with get:=h.get.upd r (true,.cells cs' el (0,0)) }/\cs'.size=cs.size/\Reads cs' m/\m.Perm l/\Ins m i j)
   ⟨i,cs1,m1,rfl,rfl,Nat.le_refl _,rfl,hsz1,hr1,hp1,fun a b u v hab hbi ha hb hu hv=>hso1 a b u v hab (by omega) hu hv,fun b u v h1 h2=>by omega⟩ ?_
  rintro Y2 mm vs _ hY2 ⟨j,cs2,m2,rfl,rfl,hj,rfl,hsz2,hr2,hp2,hins⟩;have hlen2:=hp2.length_eq;have fin:(∀ a b u v,a<b->b<=i->m2[a]?=some u->m2[b]?=some v->u<=v)->Y [.int .i64 (wrap .i64 ((i:Int)+1))] { h with get:=h.get.upd r (true,.cells cs2 el (0,0)) }:=by
   intro hso;refine hY (l.length+1-(i+1)) _ _ (by omega) ⟨i+1,cs2,m2,?_,rfl,by omega,by omega,rfl,hsz2,hr2,hp2,fun a b u v hab hb=>hso a b u v hab (by omega)⟩;rw[wrap_id (by omega) (by omega)];rfl
  refine gZ ?_;refine t_blk (fun vs h'=>vs=[]/\h'={ h with get:=h.get.upd r (true,.cells cs2 el (0,0)) }/\∃ (j':Nat) (x y:Int),j=j'+1/\m2[j']?=some y/\m2[j'+1]?=some x/\x<y) ?_ ?_
  ·refine t_if (fun e2=>?_) (fun e2=>?_)
   ·obtain⟨j',rfl⟩ : ∃ j',j=j'+1:=⟨j-1,by omega⟩
    obtain⟨y,hy⟩ : ∃ y,m2[j']?=some y:=⟨m2[j']'(by omega),List.getElem?_eq_getElem (by omega)⟩
    obtain⟨x,hx⟩ : ∃ x,m2[j'+1]?=some x:=⟨m2[j'+1]'(by omega),List.getElem?_eq_getElem (by omega)⟩
    have hw:wrap .i64 (((j'+1:Nat):Int)-1)=(j':Int):=by rw[wrap_id (by omega) (by omega)];omega
    rw[hw];have g1:=hcell hr2 hx;have g2:=hcell hr2 hy;refine gT (by omega) (gS2 rfl (gL0 g1 (gT (by omega) (gS2 rfl (gL0 g2 ?_)))));refine t_pu (c2111 _ _) ?_;refine yI (fun e3=>?_) (fun e3=>?_)
    ·exact t_again ⟨rfl,rfl,j',x,y,rfl,hy,hx,by simpa using e3⟩
    ·refine gR ?_;refine yT ?_;refine gZ ?_;have e3:¬ x<y:=by simpa using e3
     exact t_again (fin (hins.done (.inr ⟨x,y,by simpa using hy,hx,by omega⟩)))
   ·refine yT ?_;refine gZ ?_;exact t_again (fin (hins.done (.inl (by omega))))
  ·rintro vs _ ⟨rfl,rfl,j',x,y,rfl,hy,hx,hlt⟩;have hw:wrap .i64 (((j'+1:Nat):Int)-1)=(j':Int):=by rw[wrap_id (by omega) (by omega)];omega
   have g1:=hcell hr2 hx;have g2:=hcell hr2 hy;have hjs:j'+1<cs2.size:=(Array.getElem?_eq_some_iff.1 (hr2 _ _ hx)).1;rw[hw];refine gZ ?_;refine t_storeU (o:=j'+1) (by rw[add_plain,add_plain];simp) rfl hjs ?_;refine gZ ?_;refine t_storeU (o:=j') (by rw[add_plain,add_plain];simp) rfl (by simp;omega) ?_;refine t_again (hY2 j' _ _ (by omega) ⟨j',_,(m2.set (j'+1) y).set j' x,rfl,rfl,by omega,rfl,by simp[hsz2],?_,(swap_perm m2 j' x y hy hx).trans hp2,hins.swap (by omega) hy hx hlt⟩);intro a z hz;rw[List.getElem?_set,List.getElem?_set]at hz;by_cases e4:a=j'
   ·subst e4;rw[Array.getElem?_setIfInBounds_self_of_lt (by simp;omega)];simp at hz;rw[hz.2]
   ·rw[Array.getElem?_setIfInBounds_ne (Ne.symm e4)];rw[if_neg (Ne.symm e4)]at hz;by_cases e5:a=j'+1
    ·subst e5;rw[Array.getElem?_setIfInBounds_self_of_lt (by omega)];simp at hz;rw[hz.2]
    ·rw[Array.getElem?_setIfInBounds_ne (Ne.symm e5)];rw[if_neg (Ne.symm e5)]at hz;exact hr2 a z hz
 ·refine gZ ?_;refine t_ret ⟨rfl,cs1,m1,hsz1,hr1,hp1,sorted_of (n:=i) (by rw[hp1.length_eq];omega) hso1,rfl⟩
theorem c2101{h:LH}{r c:Nat}{el:TypeId}{cs:Array Value}{l:List Int}(hr:Reads cs l)(hl:l.length<=12)(lim:Int) :
  FW X0 Tryz.prog 103 #[.slice (some ⟨r,0,none⟩) l.length c,.int .i64 0,.int .i64 (l.length:Int),lim] { h with get:=h.get.upd r (true,.cells cs el (0,0)) } fun v h'=>v=.tuple #[] /\
   ∃ cs' l',cs'.size=cs.size/\Reads cs' l'/\l'.Perm l/\l'.Pairwise (·<=·)/\h'={ h with get:=h.get.upd r (true,.cells cs' el (0,0)) }:=by
 refine w2101 _ _ _ _ _ _ X0_ok ?_;unfold n2101;refine t_loop (fun mm vs h'=>mm=0/\vs=[.int .i64 0,.int .i64 (l.length:Int),.int .i64 lim,.bool true,.bool true]/\h'={ h with get:=h.get.upd r (true,.cells cs el (0,0)) }) ⟨rfl,rfl,rfl⟩ ?_;rintro Y mm vs _ hY ⟨rfl,rfl,rfl⟩;refine gZ ?_;have hw:wrap .i64 ((l.length:Int)-0)=(l.length:Int):=by rw[wrap_id (by omega) (by omega)];omega
 rw[hw];refine t_if (fun e=>?_) (fun e=>absurd (by omega) e);refine t_call (c2105 hr hl) ?_;rintro _ h2 ⟨rfl,hq⟩;refine gZ ?_;exact t_ret ⟨rfl,hq⟩
theorem c2115{h:LH}{x:Nat}(hx:x<256):FW X0 Tryz.prog 132 #[.int .u64 (x:Int)] h fun v h'=>h'=h/\∃ z,v=.int .i64 z:=by
 refine w2115 _ X0_ok ?_;unfold n2115;refine t_blk (fun vs h'=>vs=[.int .u64 (x:Int),.int .i64 0]/\h=h') ?_ ?_
 ·refine t_if (fun e=>by omega) (fun e=>?_);exact t_again ⟨rfl,rfl⟩
 rintro vs _ ⟨rfl,rfl⟩;refine gZ ?_;refine t_blk (fun vs h'=>vs=[.int .u64 (x:Int),.int .i64 0]/\h=h') ?_ ?_
 ·refine t_if (fun e=>by omega) (fun e=>?_);exact t_again ⟨rfl,rfl⟩
 rintro vs _ ⟨rfl,rfl⟩;refine gZ ?_;refine t_if (fun e=>by omega) (fun e=>?_);have hw:IntKind.wrap .u8 (x:Int)=(x:Int):=by
  have e1:(2^IntKind.u8.bits:Int)=256:=rfl;simp only[IntKind.wrap,e1,show IntKind.u8.signed=false from rfl,Bool.false_and,Bool.false_eq_true,if_false];omega
 rw[hw];refine t_indexStr (by kernel_rfl) (by kernel_rfl) hx fun b=>?_;refine gZ ?_;exact t_ret ⟨rfl,_,rfl⟩
theorem c2102{h:LH}{x:Nat}(hx:x<256):FW X0 Tryz.prog 104 #[.int .u64 (x:Int)] h fun v h'=>h'=h/\∃ z,v=.int .i64 z:=by
 refine w2102 _ X0_ok ?_;unfold n2102;refine t_call (c2115 hx) ?_;rintro _ _ ⟨rfl,z,rfl⟩;refine gZ ?_;exact t_ret ⟨rfl,_,rfl⟩
theorem c2092{h:LH}{r c:Nat}{el:TypeId}{cs:Array Value}{l:List Int}(hr:Reads cs l)(hl:l.length<=12) :
  FW X0 Tryz.prog 59 #[.slice (some ⟨r,0,none⟩) l.length c] { h with get:=h.get.upd r (true,.cells cs el (0,0)) } fun v h'=>v=.tuple #[] /\
   ∃ cs' l',cs'.size=cs.size/\Reads cs' l'/\l'.Perm l/\l'.Pairwise (·<=·)/\h'={ h with get:=h.get.upd r (true,.cells cs' el (0,0)) }:=by
 refine w2092 _ _ _ X0_ok ?_;unfold n2092;have hw:IntKind.wrap .u64 (l.length:Int)=(l.length:Int):=by
  have e1:(2^IntKind.u64.bits:Int)=18446744073709551616:=rfl;simp only[IntKind.wrap,e1,show IntKind.u64.signed=false from rfl,Bool.false_and,Bool.false_eq_true,if_false];omega
 rw[hw];refine t_call (c2102 (by omega)) ?_;rintro _ _ ⟨rfl,z,rfl⟩;refine gZ ?_;refine t_call (c2101 hr hl z) ?_;rintro _ h2 ⟨rfl,hq⟩;refine gZ ?_;exact t_ret ⟨rfl,hq⟩
theorem c2092n{h1:LH}:Pu Tryz.prog 59 #[.slice none 0 0] h1 (.tuple #[]):=by
 have h5:Pu Tryz.prog 122 #[.slice none 0 0,.int .i64 0,.int .i64 0] h1 (.tuple #[]):=by
  refine w2105 _ _ _ _ _ X0_ok ?_;unfold n2105;refine t_loop (fun mm vs h'=>mm=0/\vs=[.int .i64 1]/\h1=h') ⟨rfl,by rw[wrap_id (by omega) (by omega)];rfl,rfl⟩ ?_;rintro Y mm vs _ hY ⟨rfl,rfl,rfl⟩;refine gZ ?_;refine t_if (fun e=>absurd e (by omega)) (fun _=>?_);refine gZ ?_;exact t_ret ⟨rfl,rfl⟩
 have h6:∀ z:Int,Pu Tryz.prog 103 #[.slice none 0 0,.int .i64 0,.int .i64 0,.int .i64 z] h1 (.tuple #[]):=fun z=>by
  refine w2101 _ _ _ _ _ _ X0_ok ?_;unfold n2101;refine t_loop (fun mm vs h'=>mm=0/\vs=[.int .i64 0,.int .i64 0,.int .i64 z,.bool true,.bool true]/\h1=h') ⟨rfl,rfl,rfl⟩ ?_;rintro Y mm vs _ hY ⟨rfl,rfl,rfl⟩;refine gZ ?_;rw[wrap_id (n:=(0:Int)-0) (by omega) (by omega)];refine t_if (fun _=>?_) (fun e=>absurd (by omega) e);refine t_pu h5 ?_;refine gZ ?_;exact t_ret ⟨rfl,rfl⟩
 refine w2092 _ _ _ X0_ok ?_;unfold n2092;have hw:IntKind.wrap .u64 ((0:Nat):Int)=((0:Nat):Int):=by decide
 rw[hw];refine t_call (c2102 (x:=0) (by omega)) ?_;rintro _ _ ⟨rfl,z,rfl⟩;refine gZ ?_;refine t_pu (h6 _) ?_;refine gZ ?_;exact t_ret ⟨rfl,rfl⟩
theorem rows_reads{vs:List Value}{l:List Int}(r:Go.TM.Rows IntEnc vs l):vs=l.map (Value.int .i64):=by
 induction r with
 | nil=>rfl
 | snoc r he ih=>rw[he,ih];simp
theorem grown{h₀ h:Cells}{p:Option Addr}{n c:Nat}{l:List Int}(g:Growing IntEnc 3 1 h₀ h p n c l)(hne:l≠[]):∃ r cs,p=some ⟨r,0,none⟩/\h=h.upd r (true,.cells cs 3 (0,0))/\h₀ r=none/\n=l.length/\n<=c/\cs.size=c*1/\Reads cs l /\
  ∀ cs' l',cs'.size=cs.size->Reads cs' l'->l'.length=l.length->Growing IntEnc 3 1 h₀ (h.upd r (true,.cells cs' 3 (0,0))) p n c l':=by
 have hn:=g.count IntEnc.len (by omega);obtain⟨vs,⟨h1,h2⟩,h3⟩:=g.row;have hvs:=rows_reads h3;rcases h2 with⟨_,h2,_⟩|⟨r,cs,rfl,hr,hcs,hnc,hv⟩
 ·exfalso;apply hne;exact List.eq_nil_of_length_eq_zero (by omega)
 ·refine⟨r,cs,rfl,?_,g.new _ rfl,hn,hnc,hcs,?_,?_⟩
  ·funext a;unfold Cells.upd;by_cases e:a=r
   ·subst e;simp[hr]
   ·simp[e]
  ·intro i y hy;refine hv i _ ?_;rw[hvs,List.getElem?_map,hy];rfl
  ·intro cs' l' hsz hrd hlen;have rows:∀ l:List Int,Go.TM.Rows IntEnc (l.map (Value.int .i64)) l:=by
    intro l;have:∀ (k:Nat) (l:List Int),l.length=k->Go.TM.Rows IntEnc (l.map (Value.int .i64)) l:=by
     intro k
     induction k with
     | zero=>intro l hl;rw[List.eq_nil_of_length_eq_zero hl];exact .nil
     | succ k ih =>
      intro l hl;obtain⟨a,b,rfl⟩ : ∃ a b,l=a++[b]:=⟨l.dropLast,l.getLast (by intro e;subst e;simp at hl),(List.dropLast_concat_getLast _).symm⟩
      rw[List.map_append];exact Go.TM.Rows.snoc (ih a (by simp at hl;exact hl)) rfl
    exact this _ l rfl
   refine⟨⟨l'.map (Value.int .i64),⟨by rw[List.length_map];omega,.inr ⟨r,cs',rfl,Cells.upd_self _ _ _,by rw[hsz];exact hcs,hnc,fun j v hj=>?_⟩⟩,rows l'⟩,g.new⟩;rw[List.getElem?_map]at hj;cases hy:l'[j]? with
   | none=>rw[hy]at hj;cases hj
   | some y=>rw[hy]at hj;cases hj;exact hrd j y hy
theorem sort_days{X:XP}{Q:Leaf->LH->Prop}{K:Value->T}{h0:Cells}{h:LH}{p:Option Addr}{n c:Nat}{l:List Int}(g:Growing IntEnc 3 1 h0 h.get p n c l)(hl:l.length<=12)
 (hk:∀ l' h',l'.Perm l->l'.Pairwise (·<=·)->Growing IntEnc 3 1 h0 h'.get p n c l'->(∀ r x,h0 r=some x->h.get r=some x->h'.get r=some x)->h'.chans=h.chans/\h'.pend=h.pend/\h'.todo=h.todo->(K (.tuple #[])).wp X Tryz.prog Q h') :
  (T.call false 59 #[.slice p n c] K).wp X Tryz.prog Q h:=by
 by_cases hne:l=[]
 ·subst hne;have hn:n=0:=by have:=g.count IntEnc.len (by decide);simpa using this
  subst hn;obtain⟨vs,⟨hv,hown⟩,_⟩:=g.row;rcases hown with⟨rfl,_,rfl⟩|⟨r,cs,rfl,hr,hcs,hnc,_⟩
  ·refine t_pu c2092n ?_;exact hk [] h (List.Perm.refl _) List.Pairwise.nil g (fun _ _ _ hx=>hx) ⟨rfl,rfl,rfl⟩
  ·have hst:h={ h with get:=h.get.upd r (true,.cells cs 3 (0,0)) }:=by
    obtain⟨g2,a2,b2,d2⟩:=h;simp only[LH.mk.injEq,and_self,and_true];funext a;unfold Cells.upd;by_cases e:a=r
    ·subst e;simp[show g2 a=_ from hr]
    ·simp[e]
   rw[hst];refine t_call (FW.top (c2092 (l:=[]) (r:=r) (cs:=cs) (fun i y hy=>by simp at hy) (by simp))) ?_;rintro _ _ ⟨rfl,cs',l',hsz,hrd',hperm,hso,rfl⟩;have hl':l'=[]:=List.eq_nil_of_length_eq_zero (by simpa using hperm.length_eq);subst hl';refine hk [] _ (List.Perm.refl _) List.Pairwise.nil ⟨⟨[],⟨by simp,.inr ⟨r,cs',rfl,Cells.upd_self _ _ _,by rw[hsz];exact hcs,hnc,by simp⟩⟩,.nil⟩,g.new⟩ (fun a x ha hx=>?_) ⟨rfl,rfl,rfl⟩;have hne':a≠r:=by rintro rfl;rw[g.new _ rfl]at ha;cases ha
   show Cells.upd _ _ _ a=_;rw[Cells.upd_ne _ _ hne'];rw[hst]at hx;have:(h.get.upd r (true,.cells cs 3 (0,0))) a=some x:=hx;rwa[Cells.upd_ne _ _ hne']at this
 ·obtain⟨r,cs,rfl,hup,hr0,rfl,hnc,hcs,hrd,hback⟩:=grown g hne;have hst:h={ h with get:=h.get.upd r (true,.cells cs 3 (0,0)) }:=by
   obtain⟨g2,a2,b2,d2⟩:=h;simp only[LH.mk.injEq,and_self,and_true];exact hup
  rw[hst];refine t_call (FW.top (c2092 hrd (by omega))) ?_;rintro _ _ ⟨rfl,cs',l',hsz,hrd',hperm,hso,rfl⟩;have g':=hback cs' l' hsz hrd' hperm.length_eq;refine hk l' _ hperm hso g' (fun a x ha hx=>?_) ⟨rfl,rfl,rfl⟩;have hne':a≠r:=by rintro rfl;rw[hr0]at ha;cases ha
  show Cells.upd _ _ _ a=_;rw[Cells.upd_ne _ _ hne'];exact hx
end Go.Y
end
namespace Go.Y
section
attribute [local irreducible] T.wp CV FWK
theorem t_pushI{X:XP}{Q:Leaf->LH->Prop}{h h₀:LH}{k:Value->T}{p:Option Addr}{n c:Nat}{l:List Int}{x:Int}(g:Growing IntEnc 3 1 h₀.get h.get p n c l)(hle:h₀.le h)(hn:n+1<=2^30)
 (hk:∀ p' c' h',h₀.le h'->Growing IntEnc 3 1 h₀.get h'.get p' (n+1) c' (l++[x])->(k (.slice p' (n+1) c')).wp X Tryz.prog Q h') :
  (T.sem false (Instr.buildSlice 29 1 #[(0,.int .i64 x)]) fun v=>T.unS v fun a m c2=>T.sem false (Builtin.append_ #[29,29] 29 #[.slice p n c,.slice a m c2]) k).wp X Tryz.prog Q h:=by
 refine t_build und50 inf3 (by decide) (by decide) (cells:=#[.int .i64 x]) (by kernel_rfl) fun r hr=>?_;have le2:h.le _:=LH.upd_le (x:=(true,.cells #[.int .i64 x] 3 (0,0))) hr;refine gG ?_;refine t_grow (h₀:=h₀) (x:=x) (ws:=[.int .i64 x]) rfl rfl und50 und50 inf3 rfl (by omega) hn (g.le le2.1) (LH.le_trans hle le2) rfl rfl ?_ ?_ ?_
 ·intro j w hj;rw[add_plain,Nat.zero_add];exact cell_upd (by simpa using hj)
 ·intro w hw;simp at hw;subst hw;rfl
 ·intro p' c' h₂ hle2 _ g2;exact hk p' c' h₂ hle2 g2
end
section
set_option linter.unusedVariables false
variable {X:XP} {h:LH} {A:Value->LH->Prop}
def n3309(a_0:ByteArray)(a_1p:Option Addr)(a_1n a_1c:Nat)(a_2p:Option Addr)(a_2n a_2c:Nat)(a_3p:Option Addr)(a_3n a_3c:Nat)(a_4:Option Addr)(a_5 item:Int):T:=.loop [a_5,.int .i64 0] (fun vs=>.pi vs fun n vs=>.pi vs fun n_1 vs=>.unNil vs (bif decide (n_1<(↑a_2n:Int)) then .need (0<=n_1/\n_1<(↑a_2n:Int)) (.someA a_2p fun a=>.li ((a.add (n_1.toNat*3)).add 0) fun n_2=>.li ((a.add (n_1.toNat*3)).add 1) fun n_3=>.loadS ((a.add (n_1.toNat*3)).add 2) fun p n_4 c=>.cB 63 #[.slice p n_4 c,item] fun b=>bif b then .cB 64 #[.agg #[.string a_0,.slice a_1p a_1n a_1c,.slice a_2p a_2n a_2c,.slice a_3p a_3n a_3c,.pointer a_4,a_5],.agg #[n_2,n_3,.slice p n_4 c]] fun b=>bif b then .ag [.int .i64 (if n_2<n then n_2 else n),.int .i64 (wrap .i64 (n_1+1))] else .ag [n,.int .i64 (wrap .i64 (n_1+1))] else .ag [n,.int .i64 (wrap .i64 (n_1+1))]) else .bk [n,n_1])) (fun vs=>.pi vs fun n vs=>.pi vs fun n_1 vs=>.unNil vs (.rt (.int .i64 n))) (fun vs=>.pi vs fun n vs=>.pi vs fun n vs=>.unNil vs (.rt (.int .i64 0))) fun x x_1=>.fail
theorem w3309(a_0:ByteArray)(a_1p:Option Addr)(a_1n a_1c:Nat)(a_2p:Option Addr)(a_2n a_2c:Nat)(a_3p:Option Addr)(a_3n a_3c:Nat)(a_4:Option Addr)(a_5 item:Int):FX X 33 #[.agg #[.string a_0,.slice a_1p a_1n a_1c,.slice a_2p a_2n a_2c,.slice a_3p a_3n a_3c,.pointer a_4,a_5],item] h A (n3309 a_0 a_1p a_1n a_1c a_2p a_2n a_2c a_3p a_3n a_3c a_4 a_5 item):=fk [2,7] [⟨0,[(5,.int .i64),(14,.int .i64)],[2],[],[],[]⟩] [] Tryz.f33
def n3310(a_0:ByteArray)(a_1p:Option Addr)(a_1n a_1c:Nat)(a_2p:Option Addr)(a_2n a_2c:Nat)(a_3p:Option Addr)(a_3n a_3c:Nat)(a_4:Option Addr)(a_5 day:Int):T:=.new 3 #[day] fun r=>.li ⟨r,0,none⟩ fun n=>bif decide (a_5<=n) then .cl 66 #[.agg #[.string a_0,.slice a_1p a_1n a_1c,.slice a_2p a_2n a_2c,.slice a_3p a_3n a_3c,.pointer a_4,a_5]] fun v=>.unS v fun a n c=>.cB 65 #[.slice a n c,.func (Fn.func 67) #[] #[.pointer (some ⟨r,0,none⟩)]] fun b=>.rt (.bool !b) else .rt (.bool false)
theorem w3310(a_0:ByteArray)(a_1p:Option Addr)(a_1n a_1c:Nat)(a_2p:Option Addr)(a_2n a_2c:Nat)(a_3p:Option Addr)(a_3n a_3c:Nat)(a_4:Option Addr)(a_5 day:Int):FX X 34 #[.agg #[.string a_0,.slice a_1p a_1n a_1c,.slice a_2p a_2n a_2c,.slice a_3p a_3n a_3c,.pointer a_4,a_5],day] h A (n3310 a_0 a_1p a_1n a_1c a_2p a_2n a_2c a_3p a_3n a_3c a_4 a_5 day):=fk [2] [] [] Tryz.f34
def n3318(a_0:ByteArray)(a_1p:Option Addr)(a_1n a_1c:Nat)(a_2p:Option Addr)(a_2n a_2c:Nat)(a_3p:Option Addr)(a_3n a_3c:Nat)(a_4:Option Addr)(a_5 c_0 c_1:Int)(c_2p:Option Addr)(c_2n c_2c:Nat):T:=bif decide (c_0<=a_5) then .someA a_4 fun a=>.li (((a.add 0).add 5).add 0) fun n=>.li (((a.add 0).add 5).add 1) fun n_1=>.cI 62 #[.pointer a_4,c_0,.agg #[n,n_1]] fun n=>.nds [.O ((a.add 0).add 5),.O (a.add 0)] (.someA a_4 fun a_1=>.nq a_1 a (.nds [.val (.pointer a_4),.pp 2 4,.pp 3 0,.pp 2 4,a_5,.pp 2 5,.B (decide (c_0<=a_5)),a_5,.pp 2 5,c_0,.pp 3 0] (bif decide (a_5<=n) then .someA a_4 fun a_2=>.li (((a_2.add 0).add 7).add 0) fun n_2=>.li (((a_2.add 0).add 7).add 1) fun n_3=>.cI 62 #[.pointer a_4,a_5,.agg #[n_2,n_3]] fun n_4=>.nds [.O ((a_2.add 0).add 7),.O (a_2.add 0)] (.someA a_4 fun a_3=>.nq a_3 a_2 (.nds [.val (.pointer a_4),.pp 2 4,.pp 2 5,.pp 2 4,c_1,.pp 3 1,.B (decide (a_5<=n)),.B (decide (a_5<=n)),.O ((a.add 0).add 5),.O (a.add 0)] (.someA a_4 fun a_6=>.nq a_6 a (.nds [.val (.pointer a_4),.pp 2 4,.pp 3 0,.pp 2 4,a_5,.pp 2 5,.B (decide (c_0<=a_5)),a_5,.pp 2 5,c_0,.pp 3 0] (.rt (.bool (decide (c_1<=n_4)))))))) else .nds [.U,.U,.U,.U,.U,.U,.U,.U,.U,.B (decide (a_5<=n)),.B (decide (a_5<=n)),.O ((a.add 0).add 5),.O (a.add 0)] (.someA a_4 fun a_2=>.nq a_2 a (.nds [.val (.pointer a_4),.pp 2 4,.pp 3 0,.pp 2 4,a_5,.pp 2 5,.B (decide (c_0<=a_5)),a_5,.pp 2 5,c_0,.pp 3 0,.U,.U,.U,.U,.U,.U,.U,.U,.B (decide (a_5<=n)),.B (decide (a_5<=n)),.O ((a.add 0).add 5),.O (a.add 0)] (.someA a_4 fun a_3=>.nq a_3 a (.nds [.val (.pointer a_4),.pp 2 4,.pp 3 0,.pp 2 4,a_5,.pp 2 5,.B (decide (c_0<=a_5)),a_5,.pp 2 5,c_0,.pp 3 0] (.rt (.bool false))))))))) else .nds [.U,.U,.U,.U,.U,.U,.U,.U,.U,.B (decide (c_0<=a_5)),a_5,.pp 2 5,c_0,.pp 3 0,.U,.U,.U,.U,.U,.U,.U,.U,.B (decide (c_0<=a_5)),a_5,.pp 2 5,c_0,.pp 3 0,.U,.U,.U] (.nds [.U,.U,.U,.U,.U,.U,false,.U,.U,.U,.U,.U,.U,.U,.U,.B (decide (c_0<=a_5)),a_5,.pp 2 5,c_0,.pp 3 0,.U,.U,.U,.U,.U,.U,.U,.U,false,.U] (.nds [.U,.U,.U,.U,.U,.U,.U,.B (decide (c_0<=a_5)),a_5,.pp 2 5,c_0,.pp 3 0] (.rt (.bool false))))
theorem w3318(a_0:ByteArray)(a_1p:Option Addr)(a_1n a_1c:Nat)(a_2p:Option Addr)(a_2n a_2c:Nat)(a_3p:Option Addr)(a_3n a_3c:Nat)(a_4:Option Addr)(a_5 c_0 c_1:Int)(c_2p:Option Addr)(c_2n c_2c:Nat):FX X 64 #[.agg #[.string a_0,.slice a_1p a_1n a_1c,.slice a_2p a_2n a_2c,.slice a_3p a_3n a_3c,.pointer a_4,a_5],.agg #[c_0,c_1,.slice c_2p c_2n c_2c]] h A (n3318 a_0 a_1p a_1n a_1c a_2p a_2n a_2c a_3p a_3n a_3c a_4 a_5 c_0 c_1 c_2p c_2n c_2c):=fk [2,3] [] [] Tryz.f64
def n3319(a_0:ByteArray)(a_1p:Option Addr)(a_1n a_1c:Nat)(a_2p:Option Addr)(a_2n a_2c:Nat)(a_3p:Option Addr)(a_3n a_3c:Nat)(a_4:Option Addr)(a_5:Int):T:=.loop [.slice none 0 0,.int .i64 0] (fun vs=>.popS vs fun a n c vs=>.pi vs fun n_1 vs=>.unNil vs (bif decide (n_1<(↑a_3n:Int)) then .need (0<=n_1/\n_1<(↑a_3n:Int)) (.someA a_3p fun a_1=>.li ((a_1.add (n_1.toNat*6)).add 0) fun n_2=>.li ((a_1.add (n_1.toNat*6)).add 1) fun n_3=>.li ((a_1.add (n_1.toNat*6)).add 2) fun n_4=>.li ((a_1.add (n_1.toNat*6)).add 3) fun n_5=>.li ((a_1.add (n_1.toNat*6)).add 4) fun n_6=>.li ((a_1.add (n_1.toNat*6)).add 5) fun n_7=>.cT 111 #[.agg #[.string a_0,.slice a_1p a_1n a_1c,.slice a_2p a_2n a_2c,.slice a_3p a_3n a_3c,.pointer a_4,a_5],.agg #[n_2,n_3,n_4,n_5,n_6,n_7]] fun v vs=>.unAgg v fun l=>.pi l fun n_8 vs_1=>.pi vs_1 fun n_9 vs_2=>.unNil vs_2 (.unCons vs fun v vs=>.unB v fun b=>.unNil vs (bif b then .sem false (Instr.buildSlice 22 1 #[(0,.agg #[n_8,n_9])]) fun v=>.unS v fun a_2 n_10 c_1=>.sem false (Builtin.append_ #[22,22] 22 #[.slice a n c,.slice a_2 n_10 c_1]) fun v=>.unS v fun a n c=>.ag [.slice a n c,.int .i64 (wrap .i64 (n_1+1))] else .ag [.slice a n c,.int .i64 (wrap .i64 (n_1+1))]))) else .bk [.slice a n c,n_1])) (fun vs=>.popS vs fun a n c vs=>.pi vs fun n_1 vs=>.unNil vs (.cl 112 #[.slice a n c] fun v=>.unS v fun a n c=>.rt (.slice a n c))) (fun vs=>.popS vs fun a n c vs=>.pi vs fun n vs=>.unNil vs (.rt (.slice none 0 0))) fun x x_1=>.fail
theorem w3319(a_0:ByteArray)(a_1p:Option Addr)(a_1n a_1c:Nat)(a_2p:Option Addr)(a_2n a_2c:Nat)(a_3p:Option Addr)(a_3n a_3c:Nat)(a_4:Option Addr)(a_5:Int):FX X 66 #[.agg #[.string a_0,.slice a_1p a_1n a_1c,.slice a_2p a_2n a_2c,.slice a_3p a_3n a_3c,.pointer a_4,a_5]] h A (n3319 a_0 a_1p a_1n a_1c a_2p a_2n a_2c a_3p a_3n a_3c a_4 a_5):=fk [1,5,6] [⟨0,[(3,.slice),(12,.int .i64)],[1],[],[],[]⟩] [] Tryz.f66
def n3320(s_0 s_1:Int)(z0:Addr):T:=.li z0 fun n=>.cB 31 #[n,s_0,s_1] fun b=>.rt (.bool b)
theorem w3320(s_0 s_1:Int)(z0:Addr):FX X 67 #[.agg #[s_0,s_1],.pointer (some z0)] h A (n3320 s_0 s_1 z0):=fk [2] [] [] Tryz.f67
def n3336(a_0:ByteArray)(a_1p:Option Addr)(a_1n a_1c:Nat)(a_2p:Option Addr)(a_2n a_2c:Nat)(a_3p:Option Addr)(a_3n a_3c:Nat)(a_4:Option Addr)(a_5 d_0 d_1 d_2 d_3 d_4 d_5:Int):T:=.cI 62 #[.pointer a_4,d_0,.agg #[d_1,d_2]] fun n=>.blk (bif decide (d_3>=0) then bif decide (d_3<=n) then .rn [false,.int .i64 0,.int .i64 0] else .ag [false,.int .i64 0,.int .i64 0] else .ag [false,.int .i64 0,.int .i64 0]) (fun vs=>.popB vs fun b vs=>.pi vs fun n_1 vs=>.pi vs fun n_2 vs=>.unNil vs (.blk (bif decide (d_3>=0) then bif decide (d_5>=0) then bif decide (d_4>=0) then .ag [.bool (decide (d_3<=d_5))] else .ag [false] else .ag [false] else .ag [false]) (fun vs=>.popB vs fun b_1 vs=>.unNil vs (.blk (bif b_1 then bif decide (d_5>n) then .someA a_4 fun a=>.li (((a.add 0).add 9).add 0) fun n_3=>.li (((a.add 0).add 9).add 1) fun n_4=>.cI 62 #[.pointer a_4,d_4,.agg #[n_3,n_4]] fun n_5=>.nds [.O ((a.add 0).add 9),.O (a.add 0)] (.someA a_4 fun a_1=>.nq a_1 a (.nds [.val (.pointer a_4),.pp 2 4,.pp 3 4,.pp 2 4,d_5,.pp 3 5,.B (decide (d_5>n)),.B (decide (d_5>n)),n,d_5,.pp 3 5] (.nf b_1 true (.nd b_1 (bif decide (d_5<=n_5) then .someA a_4 fun a_2=>.li (((a_2.add 0).add 11).add 0) fun n_6=>.li (((a_2.add 0).add 11).add 1) fun n_7=>.cI 62 #[.pointer a_4,n,.agg #[n_6,n_7]] fun n_8=>.nds [.O ((a_2.add 0).add 11),.O (a_2.add 0)] (.someA a_4 fun a_3=>.nq a_3 a_2 (.nds [.val (.pointer a_4),.pp 2 4,.pp 2 4,d_5,.pp 3 5,.B (decide (d_5<=n_5)),.B (decide (d_5<=n_5)),.O ((a.add 0).add 9),.O (a.add 0)] (.someA a_4 fun a_6=>.nq a_6 a (.nds [.val (.pointer a_4),.pp 2 4,.pp 3 4,.pp 2 4,d_5,.pp 3 5,.B (decide (d_5>n)),.B (decide (d_5>n)),n,d_5,.pp 3 5] (.nf b_1 true (.nd b_1 (bif decide (d_5<=n_8) then .ag [.int .i64 (if wrap .i64 (n+1)>a_5 then wrap .i64 (n+1) else a_5),.int .i64 (wrap .i64 (d_5-1))] else .ag [.int .i64 (if wrap .i64 (n+1)>a_5 then wrap .i64 (n+1) else a_5),.int .i64 36524]))))))) else .nds [.U,.U,.U,.U,.U,.U,.U,.U,.B (decide (d_5<=n_5)),.B (decide (d_5<=n_5)),.O ((a.add 0).add 9),.O (a.add 0)] (.someA a_4 fun a_2=>.nq a_2 a (.nds [.val (.pointer a_4),.pp 2 4,.pp 3 4,.pp 2 4,d_5,.pp 3 5,.B (decide (d_5>n)),.B (decide (d_5>n)),n,d_5,.pp 3 5] (.nf b_1 true (.nds [b_1,.U,.U,.U,.U,.U,.U,.U,.B (decide (d_5<=n_5)),.B (decide (d_5<=n_5)),.O ((a.add 0).add 9),.O (a.add 0)] (.someA a_4 fun a_3=>.nq a_3 a (.nds [.val (.pointer a_4),.pp 2 4,.pp 3 4,.pp 2 4,d_5,.pp 3 5,.B (decide (d_5>n)),.B (decide (d_5>n)),n,d_5,.pp 3 5] (.nf b_1 true (.nd b_1 (.ag [.int .i64 (if wrap .i64 (n+1)>a_5 then wrap .i64 (n+1) else a_5),.int .i64 36524])))))))))))))) else .nds [.U,.U,.U,.U,.U,.U,.U,.U,.U,.B (decide (d_5>n)),.B (decide (d_5>n)),n,d_5,.pp 3 5] (.nf b_1 true (.nds [b_1,.U,.U,.U,.U,.U,.U,.U,.U,.B (decide (d_5>n)),.B (decide (d_5>n)),n,d_5,.pp 3 5] (.nf b_1 true (.nds [b_1,.U,.U,.U,.U,.U,.U,.U,.U,false,.U,.U,.U,.U,.U,.U,.U,.U,.B (decide (d_5>n)),.B (decide (d_5>n)),n,d_5,.pp 3 5] (.nf b_1 true (.nds [b_1,.U,.U,.U,.U,.U,.U,.U,false,.U,.U,.U,.U,.U,.U,.U,.U,.B (decide (d_5>n)),.B (decide (d_5>n)),n,d_5,.pp 3 5] (.nf b_1 true (.nd b_1 (.ag [.int .i64 (if wrap .i64 (n+1)>a_5 then wrap .i64 (n+1) else a_5),.int .i64 36524]))))))))) else .nds [.U,b_1,.U,.U,.U,.U,.U,.U,.U,.U,.U,false,.U,b_1,.U,.U,.U,.U,.U,.U,.U,.U,false,.U,b_1,.U,.U,.U,.U,.U] (.nds [.U,.U,.U,false,.U,.U,.U,.U,.U,.U,.U,.U,false,.U,b_1,.U,.U,.U,.U,.U,.U,.U,false,.U,.U,.U,.U,.U,.U,.U] (.nds [.U,false,.U,b_1] (.ag [.int .i64 (if wrap .i64 (n+1)>a_5 then wrap .i64 (n+1) else a_5),.int .i64 36524])))) (fun vs=>.pi vs fun n vs=>.pi vs fun n_3 vs=>.unNil vs (.nds [.B (decide (n<=n_3)),n_3,.pp 7 1,n,.pp 7 0] (.rt (.tuple #[.agg #[n,n_3],.bool (decide (n<=n_3))])))) (fun vs=>.pi vs fun n vs=>.pi vs fun n vs=>.unNil vs (.rt (.tuple #[.agg #[n_1,n_2],b]))) fun x x_1=>.fail)) (fun vs=>.popB vs fun b_1 vs=>.unNil vs (.rt (.tuple #[.agg #[n_1,n_2],b]))) fun x x_1=>.fail)) (fun vs=>.popB vs fun b vs=>.pi vs fun n vs=>.pi vs fun n_1 vs=>.unNil vs (.rt (.tuple #[.agg #[n,n_1],b]))) fun x x_1=>.fail
theorem w3336(a_0:ByteArray)(a_1p:Option Addr)(a_1n a_1c:Nat)(a_2p:Option Addr)(a_2n a_2c:Nat)(a_3p:Option Addr)(a_3n a_3c:Nat)(a_4:Option Addr)(a_5 d_0 d_1 d_2 d_3 d_4 d_5:Int):FX X 111 #[.agg #[.string a_0,.slice a_1p a_1n a_1c,.slice a_2p a_2n a_2c,.slice a_3p a_3n a_3c,.pointer a_4,a_5],.agg #[d_0,d_1,d_2,d_3,d_4,d_5]] h A (n3336 a_0 a_1p a_1n a_1c a_2p a_2n a_2c a_3p a_3n a_3c a_4 a_5 d_0 d_1 d_2 d_3 d_4 d_5):=fk [2,3,4,7] [] [⟨8,[(32768,.int .i64),(32769,.int .i64)],[2,3,4],[],[],[]⟩,⟨6,[(8,.bool)],[2,3,4,7],[],[],[]⟩,⟨4,[(5,.bool),(20480,.int .i64),(20481,.int .i64)],[2,3],[],[],[]⟩] Tryz.f111
def n3337(lp:Option Addr)(ln lc:Nat):T:=.cl 139 #[.slice lp ln lc,.func (Fn.func 140) #[] #[]] fun v=>.unTup v fun l=>.unNil l (.loop [.slice none 0 0,.int .i64 0] (fun vs=>.popS vs fun a n c vs=>.pi vs fun n_1 vs=>.unNil vs (bif decide (n_1<(↑ln:Int)) then .need (0<=n_1/\n_1<(↑ln:Int)) (.someA lp fun a_1=>.li ((a_1.add (n_1.toNat*2)).add 0) fun n_2=>.li ((a_1.add (n_1.toNat*2)).add 1) fun n_3=>.blk (bif decide ((↑n:Int)>0) then .need (0<=wrap .i64 ((↑n:Int)-1)/\wrap .i64 ((↑n:Int)-1)<(↑n:Int)) (.someA a fun a=>.li ((a.add ((wrap .i64 ((↑n:Int)-1)).toNat*2)).add 1) fun n=>.ag [.bool (decide (n_2<=wrap .i64 (n+1)))]) else .nds [.U,.U,.U,.B (decide ((↑n:Int)>0)),.val (.int .i64 (↑n:Int)),.U,.U,.U,.U,.U,.B (decide ((↑n:Int)>0)),.val (.int .i64 (↑n:Int)),.U,.U,.U,.U,.B (decide ((↑n:Int)>0)),.val (.int .i64 (↑n:Int))] (.ag [false])) (fun vs=>.popB vs fun b vs=>.unNil vs (bif b then .need (0<=wrap .i64 ((↑n:Int)-1)/\wrap .i64 ((↑n:Int)-1)<(↑n:Int)) (.someA a fun a_2=>.li ((a_2.add ((wrap .i64 ((↑n:Int)-1)).toNat*2)).add 1) fun n_4=>.need (0<=wrap .i64 ((↑n:Int)-1)/\wrap .i64 ((↑n:Int)-1)<(↑n:Int)) (.someA a fun a_3=>.store (((a_3.add ((wrap .i64 ((↑n:Int)-1)).toNat*2)).add 1).add 0) (.int .i64 (if n_3>n_4 then n_3 else n_4)) (.need (0<=wrap .i64 ((↑n:Int)-1)/\wrap .i64 ((↑n:Int)-1)<(↑n:Int)) (.someA a fun a_4=>.ne (.pointer (some (a_4.add ((wrap .i64 ((↑n:Int)-1)).toNat*2)))) (.pointer (some (a_3.add ((wrap .i64 ((↑n:Int)-1)).toNat*2)))) (.ag [.slice a n c,.int .i64 (wrap .i64 (n_1+1))]))))) else .sem false (Instr.buildSlice 22 1 #[(0,.agg #[n_2,n_3])]) fun v=>.unS v fun a_2 n_4 c_1=>.sem false (Builtin.append_ #[22,22] 22 #[.slice a n c,.slice a_2 n_4 c_1]) fun v=>.unS v fun a n c=>.ag [.slice a n c,.int .i64 (wrap .i64 (n_1+1))])) (fun vs=>.popB vs fun b vs=>.unNil vs (.rn [.slice a n c,n_1])) fun x x_1=>.fail) else .bk [.slice a n c,n_1])) (fun vs=>.popS vs fun a n c vs=>.pi vs fun n_1 vs=>.unNil vs (.rt (.slice a n c))) (fun vs=>.popS vs fun a n c vs=>.pi vs fun n vs=>.unNil vs (.rt (.slice none 0 0))) fun x x_1=>.fail)
theorem w3337(lp:Option Addr)(ln lc:Nat):FX X 112 #[.slice lp ln lc] h A (n3337 lp ln lc):=fk [5] [⟨0,[(3,.slice),(11,.int .i64)],[],[],[],[]⟩] [⟨2000030,[(30,.bool)],[5],[],[],[]⟩] Tryz.f112
end
section
set_option linter.unusedVariables false
variable {X:XP} {h:LH} {A:Value->LH->Prop}
def n3343(xp:Option Addr)(xn xc:Nat)(cmp:Value):T:=.cI 104 #[.int .u64 (IntKind.wrap .u64 (↑xn:Int))] fun n=>.cl 160 #[.slice xp xn xc,.int .i64 0,.int .i64 (↑xn:Int),n,cmp] fun v=>.unTup v fun l=>.unNil l (.rt (.tuple #[]))
theorem w3343(xp:Option Addr)(xn xc:Nat)(cmp:Value):FX X 139 #[.slice xp xn xc,cmp] h A (n3343 xp xn xc cmp):=fk [] [] [] Tryz.f139
def n3344(a_0 a_1 b_0 b_1:Int):T:=.rt (.int .i64 (wrap .i64 (a_0-b_0)))
theorem w3344(a_0 a_1 b_0 b_1:Int):FX X 140 #[.agg #[a_0,a_1],.agg #[b_0,b_1]] h A (n3344 a_0 a_1 b_0 b_1):=fk [2,3] [] [] Tryz.f140
def n3349(datap:Option Addr)(datan datac:Nat)(a b limit:Int)(cmp:Value):T:=.loop [a,b,limit,true,true] (fun vs=>.pi vs fun n vs=>.pi vs fun n_1 vs=>.pi vs fun n_2 vs=>.popB vs fun b vs=>.popB vs fun b_1 vs=>.unNil vs (bif decide (wrap .i64 (n_1-n)<=12) then .cl 169 #[.slice datap datan datac,n,n_1,cmp] fun v=>.unTup v fun l=>.unNil l (.rn [n,n_1,n_2,b,b_1]) else bif n_2==0 then .cl 170 #[.slice datap datan datac,n,n_1,cmp] fun v=>.unTup v fun l=>.unNil l (.rn [n,n_1,n_2,b,b_1]) else .blk (bif !b then .cl 171 #[.slice datap datan datac,n,n_1,cmp] fun v=>.unTup v fun l=>.unNil l (.ag [.int .i64 (wrap .i64 (n_2-1))]) else .ag [n_2]) (fun vs=>.pi vs fun n_3 vs=>.unNil vs (.cT 172 #[.slice datap datan datac,n,n_1,cmp] fun v vs=>.ui v fun n_4=>.unCons vs fun v vs=>.ui v fun n_5=>.unNil vs (.blk (bif n_5==2 then .cl 173 #[.slice datap datan datac,n,n_1,cmp] fun v=>.unTup v fun l=>.unNil l (.ag [.int .i64 (wrap .i64 (wrap .i64 (n_1-1)-wrap .i64 (n_4-n))),.int .i64 1]) else .ag [n_4,n_5]) (fun vs=>.pi vs fun n_6 vs=>.pi vs fun n_7 vs=>.unNil vs (.blk (bif b then bif b_1 then bif n_7==1 then .cB 174 #[.slice datap datan datac,n,n_1,cmp] fun b=>bif b then .rn [] else .ag [] else .ag [] else .ag [] else .ag []) (fun vs=>.unNil vs (.blk (bif decide (n>0) then .need (0<=wrap .i64 (n-1)/\wrap .i64 (n-1)<(↑datan:Int)) (.someA datap fun a=>.li ((a.add ((wrap .i64 (n-1)).toNat*2)).add 0) fun n_8=>.li ((a.add ((wrap .i64 (n-1)).toNat*2)).add 1) fun n_9=>.need (0<=n_6/\n_6<(↑datan:Int)) (.someA datap fun a_1=>.li ((a_1.add (n_6.toNat*2)).add 0) fun n_10=>.li ((a_1.add (n_6.toNat*2)).add 1) fun n_11=>.callv false cmp #[.agg #[n_8,n_9],.agg #[n_10,n_11]] fun v=>.ui v fun n_12=>.need (0<=n_6/\n_6<(↑datan:Int)) (.someA datap fun a_2=>.ne (.pointer (some (a_2.add (n_6.toNat*2)))) (.pointer (some (a_1.add (n_6.toNat*2)))) (.nds [n_6,.S datap datan datac] (.need (0<=wrap .i64 (n-1)/\wrap .i64 (n-1)<(↑datan:Int)) (.someA datap fun a_3=>.ne (.pointer (some (a_3.add ((wrap .i64 (n-1)).toNat*2)))) (.pointer (some (a.add ((wrap .i64 (n-1)).toNat*2)))) (.nds [.val (.int .i64 (wrap .i64 (n-1))),n,.S datap datan datac,.B (decide (n>0)),n] (bif !decide (n_12<0) then .cI 175 #[.slice datap datan datac,n,n_1,n_6,cmp] fun n=>.leaf (.out 1 [n]) else .ag [n])))))))) else .nds [.U,.U,.U,.U,.U,.U,.B (decide (n>0)),n,.U,.U,.U,.U,.U,.B (decide (n>0)),n,.U,.U,.U,.U,.U,.B (decide (n>0)),n,.U,.U,.U,.U,.U,.B (decide (n>0)),n] (.ag [n])) (fun vs=>.pi vs fun n_8 vs=>.unNil vs (.cT 176 #[.slice datap datan datac,n_8,n_1,n_6,cmp] fun v vs=>.ui v fun n_9=>.unCons vs fun v vs=>.unB v fun b=>.unNil vs (.need ((8:Int)≠0) (bif decide (wrap .i64 (n_9-n_8)<wrap .i64 (n_1-n_9)) then .cl 160 #[.slice datap datan datac,n_8,n_9,n_3,cmp] fun v=>.unTup v fun l=>.unNil l (.ag [.int .i64 (wrap .i64 (n_9+1)),n_1,n_3,.bool (decide (wrap .i64 (n_9-n_8)>=wrap .i64 (Int.tdiv (wrap .i64 (n_1-n)) 8))),b]) else .cl 160 #[.slice datap datan datac,.int .i64 (wrap .i64 (n_9+1)),n_1,n_3,cmp] fun v=>.unTup v fun l=>.unNil l (.ag [n_8,n_9,n_3,.bool (decide (wrap .i64 (n_1-n_9)>=wrap .i64 (Int.tdiv (wrap .i64 (n_1-n)) 8))),b]))))) (fun vs=>.pi vs fun n vs=>.unNil vs (.rn [n,n_1,n_3,b,b_1])) fun x x_1=>bif Nat.beq x 1 then .pi x_1 fun n vs=>.unNil vs (.ag [n,n_1,n_3,b,b_1]) else .fail)) (fun vs=>.unNil vs (.rn [n,n_1,n_3,b,b_1])) fun x x_1=>.fail)) (fun vs=>.pi vs fun n_6 vs=>.pi vs fun n_7 vs=>.unNil vs (.rn [n,n_1,n_3,b,b_1])) fun x x_1=>.fail))) (fun vs=>.pi vs fun n_3 vs=>.unNil vs (.rn [n,n_1,n_3,b,b_1])) fun x x_1=>.fail)) (fun vs=>.pi vs fun n vs=>.pi vs fun n vs=>.pi vs fun n vs=>.popB vs fun b vs=>.popB vs fun b vs=>.unNil vs (.rt (.tuple #[]))) (fun vs=>.pi vs fun n vs=>.pi vs fun n vs=>.pi vs fun n vs=>.popB vs fun b vs=>.popB vs fun b vs=>.unNil vs (.rt (.tuple #[]))) fun x x_1=>.fail
theorem w3349(datap:Option Addr)(datan datac:Nat)(a b limit:Int)(cmp:Value):FX X 160 #[.slice datap datan datac,a,b,limit,cmp] h A (n3349 datap datan datac a b limit cmp):=fk [] [⟨0,[(1,.int .i64),(2,.int .i64),(3,.int .i64),(10,.bool),(11,.bool)],[],[],[],[]⟩] [⟨20,[(1,.int .i64)],[],[1],[],[]⟩,⟨17,[],[],[],[],[]⟩,⟨15,[(13,.int .i64),(14,.int .i64)],[],[],[],[]⟩,⟨10,[(3,.int .i64)],[],[],[],[]⟩] Tryz.f160
def n3357(datap:Option Addr)(datan datac:Nat)(a b:Int)(cmp:Value):T:=.loop [.int .i64 (wrap .i64 (a+1))] (fun vs=>.pi vs fun n vs=>.unNil vs (bif decide (n<b) then .loop [n] (fun vs=>.pi vs fun n vs=>.unNil vs (.blk (bif decide (n>a) then .need (0<=n/\n<(↑datan:Int)) (.someA datap fun a_1=>.li ((a_1.add (n.toNat*2)).add 0) fun n_1=>.li ((a_1.add (n.toNat*2)).add 1) fun n_2=>.need (0<=wrap .i64 (n-1)/\wrap .i64 (n-1)<(↑datan:Int)) (.someA datap fun a_2=>.li ((a_2.add ((wrap .i64 (n-1)).toNat*2)).add 0) fun n_3=>.li ((a_2.add ((wrap .i64 (n-1)).toNat*2)).add 1) fun n_4=>.callv false cmp #[.agg #[n_1,n_2],.agg #[n_3,n_4]] fun v=>.ui v fun n_5=>.need (0<=wrap .i64 (n-1)/\wrap .i64 (n-1)<(↑datan:Int)) (.someA datap fun a_3=>.ne (.pointer (some (a_3.add ((wrap .i64 (n-1)).toNat*2)))) (.pointer (some (a_2.add ((wrap .i64 (n-1)).toNat*2)))) (.nds [.val (.int .i64 (wrap .i64 (n-1))),n,.S datap datan datac] (.need (0<=n/\n<(↑datan:Int)) (.someA datap fun a_4=>.ne (.pointer (some (a_4.add (n.toNat*2)))) (.pointer (some (a_1.add (n.toNat*2)))) (.nds [n,.S datap datan datac,.B (decide (n>a)),a,n] (bif decide (n_5<0) then .ag [] else .leaf (.out 2 []))))))))) else .nds [.U,.U,.U,.U,.U,.U,.B (decide (n>a)),a,n,.U,.U,.U,.U,.U,.B (decide (n>a)),a,n,.U,.U,.U,.U,.U,.B (decide (n>a)),a,n] (.leaf (.out 2 []))) (fun vs=>.unNil vs (.need (0<=wrap .i64 (n-1)/\wrap .i64 (n-1)<(↑datan:Int)) (.someA datap fun a=>.li ((a.add ((wrap .i64 (n-1)).toNat*2)).add 0) fun n_1=>.li ((a.add ((wrap .i64 (n-1)).toNat*2)).add 1) fun n_2=>.need (0<=n/\n<(↑datan:Int)) (.someA datap fun a=>.li ((a.add (n.toNat*2)).add 0) fun n_3=>.li ((a.add (n.toNat*2)).add 1) fun n_4=>.need (0<=n/\n<(↑datan:Int)) (.someA datap fun a_1=>.store ((a_1.add (n.toNat*2)).add 0) (.int .i64 n_1) (.store ((a_1.add (n.toNat*2)).add 1) (.int .i64 n_2) (.need (0<=n/\n<(↑datan:Int)) (.someA datap fun a_2=>.ne (.pointer (some (a_2.add (n.toNat*2)))) (.pointer (some (a.add (n.toNat*2)))) (.nds [n,.S datap datan datac,.val (.int .i64 (wrap .i64 (n-1))),n,.S datap datan datac] (.need (0<=wrap .i64 (n-1)/\wrap .i64 (n-1)<(↑datan:Int)) (.someA datap fun a=>.store ((a.add ((wrap .i64 (n-1)).toNat*2)).add 0) (.int .i64 n_3) (.store ((a.add ((wrap .i64 (n-1)).toNat*2)).add 1) (.int .i64 n_4) (.ag [.int .i64 (wrap .i64 (n-1))]))))))))))))) (fun vs=>.unNil vs (.rn [n])) fun x x_1=>bif Nat.beq x 2 then .unNil x_1 (.bk [n]) else .fail)) (fun vs=>.pi vs fun n_1 vs=>.unNil vs (.ag [.int .i64 (wrap .i64 (n+1))])) (fun vs=>.pi vs fun n_1 vs=>.unNil vs (.rn [n])) fun x x_1=>.fail else .bk [n])) (fun vs=>.pi vs fun n vs=>.unNil vs (.rt (.tuple #[]))) (fun vs=>.pi vs fun n vs=>.unNil vs (.rt (.tuple #[]))) fun x x_1=>.fail
theorem w3357(datap:Option Addr)(datan datac:Nat)(a b:Int)(cmp:Value):FX X 169 #[.slice datap datan datac,a,b,cmp] h A (n3357 datap datan datac a b cmp):=fk [] [⟨2,[(9,.int .i64)],[],[],[],[]⟩,⟨0,[(8,.int .i64)],[],[],[],[]⟩] [⟨6,[],[],[2],[],[]⟩] Tryz.f169
end
end Go.Y
section
namespace Go.TM
def Ov(h0:Cells)(h h':LH):Prop:=(∀ r x,h0 r≠none->h.get r=some x->h'.get r=some x)/\h'.chans=h.chans/\h'.pend=h.pend/\h'.todo=h.todo
theorem Ov.refl(h0:Cells)(h:LH):Ov h0 h h:=⟨fun _ _ _ hx=>hx,rfl,rfl,rfl⟩
theorem Ov.trans{h0:Cells}{a b c:LH}(h1:Ov h0 a b)(h2:Ov h0 b c):Ov h0 a c:=⟨fun r x h0 hx=>h2.1 r x h0 (h1.1 r x h0 hx),h2.2.1.trans h1.2.1,h2.2.2.1.trans h1.2.2.1,h2.2.2.2.trans h1.2.2.2⟩
theorem Ov.le_of{h0 h h':LH}(hl:h0.le h)(o:Ov h0.get h h'):h0.le h':=⟨fun r x hx=>o.1 r x (by rw[hx];simp) (hl.1 r x hx),o.2.1.trans hl.2.1,o.2.2.1.trans hl.2.2.1,o.2.2.2.trans hl.2.2.2⟩
theorem Ov.of_le{h0:Cells}{h h':LH}(hl:h.le h'):Ov h0 h h':=⟨fun r x _ hx=>hl.1 r x hx,hl.2⟩
theorem Kp.ov{m:Nat}{h0 h h':LH}(k:Kp m h0 h)(o:Ov h0.get h h'):Kp m h0 h':=⟨fun r x hr hx=>o.1 r x (by rw[hx];simp) (k.get r x hr hx),o.2.1.trans k.rest.1,o.2.2.1.trans k.rest.2.1,o.2.2.2.trans k.rest.2.2⟩
structure SpR(el:TypeId)(h0 h:Cells)(p:Option Addr)(n c:Nat):Prop where
 row:∃ vs,OwnRow el 2 h p n c vs/\∀ v∈vs,∃ z:Int,v=.int .i64 z
 new:NewIn h0 p
 dom:∀ r,h r=none->h0 r=none
variable {el:TypeId} {h0:Cells} {h h':LH} {p:Option Addr} {n c:Nat}
theorem SpR.nil(dom:∀ r,h.get r=none->h0 r=none):SpR el h0 h.get none 0 0:=⟨⟨[],OwnRow.nil,by simp⟩,NewIn.none,dom⟩
theorem SpR.turn{g g':Cells}(hk:∀ a x,p=some a->g a.block=some x->g' a.block=some x)(hd:∀ r,g' r=none->h0 r=none)(s:SpR el h0 g p n c):SpR el h0 g' p n c:=by
 obtain⟨vs,⟨h1,h2⟩,h3⟩:=s.row;refine⟨⟨vs,⟨h1,?_⟩,h3⟩,s.new,hd⟩;rcases h2 with h2|⟨r,cs,e1,e2,e3⟩
 ·exact .inl h2
 ·exact .inr ⟨r,cs,e1,hk _ _ e1 e2,e3⟩
theorem SpR.le{g g':Cells}(hl:g.le g')(s:SpR el h0 g p n c):SpR el h0 g' p n c :=
 s.turn (fun _ _ _ hx=>hl _ _ hx) fun r hr=>s.dom r (by cases e:g r with|none=>rfl|some x=>rw[hl _ _ e]at hr;cases hr)
theorem SpR.kp{m:Nat}(k:Kp m h h')(hm:h0 m≠none)(him:h'.get m≠none)(s:SpR el h0 h.get p n c):SpR el h0 h'.get p n c :=
 s.turn (fun a _ ha hx=>k.get _ _ (fun e=>hm (by rw[<- e];exact s.new a ha)) hx) fun r hr=>s.dom r (by
  cases e:h.get r with
  | none=>rfl
  | some x=>rw[k.get r x (fun e=>him (by rw[<- e];exact hr)) e]at hr;cases hr)
theorem SpR.sl{g:Cells}(s:SpR el h0 g p n c)(hn:n<4611686018427387904):∃ l,Sl SpanE 2 g p n l:=by
 obtain⟨vs,⟨h1,h2⟩,h3⟩:=s.row;have hint:∀ j,j<n*2->∃ z:Int,vs[j]?=some (.int .i64 z):=fun j hj=>by
  have hv:vs[j]?=some (vs[j]'(by omega)):=List.getElem?_eq_getElem (by omega);obtain⟨z,hz⟩:=h3 _ (List.mem_of_getElem? hv);exact⟨z,by rw[hv,hz]⟩
 let f:Nat->Int:=fun j=>if hj:j<n*2 then (hint j hj).choose else 0
 have hf:∀ j,j<n*2->vs[j]?=some (.int .i64 (f j)):=fun j hj=>by
  show vs[j]?=some (.int .i64 (if hj:j<n*2 then (hint j hj).choose else 0));rw[dif_pos hj];exact(hint j hj).choose_spec
 refine⟨(List.range n).map fun i=>⟨f (i*2),f (i*2+1)⟩,by simp,by simpa using hn,fun i x hx=>?_⟩;rw[List.getElem?_map]at hx;obtain⟨i',hi',rfl⟩:=Option.map_eq_some_iff.1 hx;obtain⟨hil,hie⟩:=List.getElem?_eq_some_iff.1 hi';have hin:i<n:=by simpa using hil
 have:i'=i:=by simpa using hie.symm
 subst this;rcases h2 with⟨rfl,rfl,rfl⟩|⟨b,cs,rfl,hr,hcs,hnc,hv⟩
 ·omega
 ·refine⟨_,rfl,?_,?_⟩
  ·rw[add_plain,add_plain];have:=cell_blk hr (hv _ _ (hf (i'*2) (by omega)));simpa using this
  ·rw[add_plain,add_plain];have:=cell_blk hr (hv _ _ (hf (i'*2+1) (by omega)));simpa using this
section
variable {P:Program} {X:XP} {Q:Leaf->LH->Prop}
theorem t_storeSp{k:T}{a:Addr}{i o:Nat}{z:Int}(s:SpR el h0 h.get p n c)(hi:i<n)(ho:o<2){b:Addr}(hb:p=some b)(ha:a=Addr.add (Addr.add (Addr.add b (i*2)) o) 0)
 (hk:∀ h',Ov h0 h h'->SpR el h0 h'.get p n c->k.wp X P Q h'):(T.store a (.int .i64 z) k).wp X P Q h:=by
 obtain⟨vs,⟨h1,h2⟩,h3⟩:=s.row;rcases h2 with⟨_,rfl,_⟩|⟨r,cs,hp,hr,hcs,hnc,hv⟩
 ·omega
 rw[hp]at hb;cases hb;have ea:a=⟨r,i*2+o,none⟩:=by rw[ha,add_plain,add_plain,add_plain];simp
 subst ea;have hlt:i*2+o<cs.size:=by omega
 refine t_store (v₀:=cs[i*2+o]) rfl ⟨_,hr⟩ (cell_blk hr (Array.getElem?_eq_getElem hlt)) (by simp[Cells.frozen?,hr]) ?_;have hsame:∀ q,q≠r->h.get.setCell ⟨r,i*2+o,none⟩ (.int .i64 z) q=h.get q:=fun q hq=>by unfold Cells.setCell;rw[if_neg hq]
 have hself:h.get.setCell ⟨r,i*2+o,none⟩ (.int .i64 z) r=some (true,.cells (cs.setIfInBounds (i*2+o) (.int .i64 z)) el (0,0)):=by
  unfold Cells.setCell;rw[if_pos rfl,hr];rfl
 refine hk _ ⟨fun q x hq hx=>?_,rfl,rfl,rfl⟩ ⟨⟨vs.set (i*2+o) (.int .i64 z),⟨by simpa using h1,.inr ⟨r,_,hp,hself,by simpa using hcs,hnc,fun j v hj=>?_⟩⟩,fun v hv=>?_⟩,s.new,fun q hq=>s.dom q ?_⟩
 ·show h.get.setCell _ _ q=_;rw[hsame q (fun e=>hq (by rw[e];exact s.new _ hp))];exact hx
 ·rw[List.getElem?_set]at hj;by_cases e:i*2+o=j
  ·subst e;rw[if_pos rfl,if_pos (by omega)]at hj;rw[Array.getElem?_setIfInBounds_self_of_lt hlt];exact hj
  ·rw[if_neg e]at hj;rw[Array.getElem?_setIfInBounds_ne e];exact hv j v hj
 ·rcases List.mem_or_eq_of_mem_set hv with h4|h4
  ·exact h3 v h4
  ·exact⟨z,h4⟩
 ·by_cases e:q=r
  ·subst e;have h6:h.get.setCell ⟨q,i*2+o,none⟩ (.int .i64 z) q=none:=hq;rw[hself]at h6;cases h6
  ·exact(hsame q e).symm.trans hq
theorem t_pushSp{K:Value->T}{ts:Array TypeId}{ty t:TypeId}{by_:Nat}{x y:Int}(h0':ts[0]?=some t)(h1:ts[1]?=some t)(hu:P.underlying t=some (.slice el))(hi:(P.info? el).map (fun i=>(i.size,i.bytes,i.zero))=some (2,by_,some (.agg #[.int .i64 0,.int .i64 0])))(hb:by_<=1024)
 (hf:Instr.fill (fun i=>some (i*2,2)) ((Array.range (1*2)).map ((Value.agg #[.int .i64 0,.int .i64 0]).cells[·%(Value.agg #[.int .i64 0,.int .i64 0]).cells.size]!)) [(0,.agg #[.int .i64 x,y])]=some #[.int .i64 x,.int .i64 y])
 (s:SpR el h0 h.get p n c)(hn:n+1<=2^30)
 (hk:∀ p' c' h',Ov h0 h h'->SpR el h0 h'.get p' (n+1) c'->(K (.slice p' (n+1) c')).wp X P Q h') :
  (T.sem false (Instr.buildSlice t 1 #[(0,.agg #[.int .i64 x,y])]) fun v=>T.unS v fun a m mc=>T.sem false (Builtin.append_ ts ty #[.slice p n c,.slice a m mc]) K).wp X P Q h:=by
 refine t_build hu hi (by decide) (by decide) hf fun r hr=>?_;have le2:h.le _:=LH.upd_le (x:=(true,.cells #[.int .i64 x,.int .i64 y] el (0,0))) hr;refine gG ?_;have s2:=s.le le2.1;obtain⟨vs,o,h3⟩:=s2.row;refine t_append (ws:=[.int .i64 x,.int .i64 y]) h0' h1 hu hu hi rfl hb hn o rfl ?_ (by intro v hv;simp at hv;rcases hv with rfl|rfl<;>rfl) (by omega) fun p' c' h' a b d=>?_
 ·intro j w hj;rw[add_plain,Nat.zero_add];exact cell_upd (by simpa using hj)
 ·refine hk p' c' _ ⟨fun q x hq hx=>b q x (le2.1 _ _ hx) fun a ha e=>hq (by rw[<- e];exact s.new a ha),rfl,rfl,rfl⟩ ⟨⟨_,a,fun v hv=>?_⟩,?_,fun q hq=>?_⟩
  ·rcases List.mem_append.1 hv with h4|h4
   ·exact h3 v h4
   ·simp at h4;rcases h4 with rfl|rfl<;>exact⟨_,rfl⟩
  ·rcases d with rfl|⟨q,rfl,hq⟩
   ·exact s.new
   ·intro a ha;cases ha;exact s2.dom q hq
  ·by_cases e:∃ a,p=some a/\a.block=q
   ·obtain⟨a,ha,rfl⟩:=e;exact s.new a ha
   ·refine s2.dom q ?_;cases h4:Cells.upd h.get r (true,.cells #[.int .i64 x,.int .i64 y] el (0,0)) q with
    | none=>exact h4
    | some x =>
     have h5:=b q x h4 (fun a ha e'=>e ⟨a,ha,e'⟩);have h6:h' q=none:=hq;rw[h6]at h5;cases h5
end
end Go.TM
namespace Go.Y
attribute [local irreducible] T.wp CV FWK
theorem OffS.ov{h0 h h':LH}{b m:Nat}{f:DFileC}{y:DFile}(o0:OffR h0.get b m f y)(k:Kp m h0 h)(o:OffR h.get b m f y)(v:Ov h0.get h h'):OffR h'.get b m f y:=by
 obtain⟨M,⟨es,c,h1,h2⟩,h3⟩:=o.map;obtain⟨d,d1,d2,d3,d4⟩:=o0.data;have k':=k.ov v;have hm:h0.get m≠none:=by
  obtain⟨_,_,_,e⟩:=o0.isMap;rw[e];simp
 exact⟨k'.get _ _ o0.ne o0.blk,o0.ne,⟨M,⟨es,c,v.1 _ _ hm h1,h2⟩,h3⟩,d,fun r x hx=>k'.get r x (fun e=>by rw[e,d3]at hx;cases hx) (d1 _ _ hx),d2,d3,d4⟩
theorem und22':Tryz.prog.underlying 22=some (.slice 28):=by kernel_rfl
theorem inf30':(Tryz.prog.info? 28).map (fun i=>(i.size,i.bytes,i.zero))=some (2,16,some (.agg #[.int .i64 0,.int .i64 0])):=by kernel_rfl
theorem c3344{h:LH}(a b c d:Int):Pu Tryz.prog 140 #[.agg #[a,b],.agg #[c,d]] h (.int .i64 (wrap .i64 (a-c))):=by
 refine w3344 _ _ _ _ X0_ok ?_;unfold n3344;exact t_ret ⟨rfl,rfl⟩
theorem c3357{h:LH}{h0:Cells}{p:Option Addr}{n c:Nat}(s:SpR 28 h0 h.get p n c)(hn:n<=12) :
  FW X0 Tryz.prog 169 #[.slice p n c,.int .i64 0,.int .i64 (n:Int),.func (.func 140) #[] #[]] h fun v h'=>v=.tuple #[]/\SpR 28 h0 h'.get p n c/\Ov h0 h h':=by
 refine w3357 _ _ _ _ _ _ X0_ok ?_;unfold n3357;have hw0:wrap .i64 ((0:Int)+1)=((1:Nat):Int):=by rw[wrap_id (by omega) (by omega)];rfl
 rw[hw0];refine t_loop (fun mm vs h'=>∃ i:Nat,vs=[.int .i64 i]/\mm=n+1-i/\1<=i/\i<=n+1/\SpR 28 h0 h'.get p n c/\Ov h0 h h') ⟨1,rfl,rfl,Nat.le_refl _,by omega,s,Ov.refl _ _⟩ ?_;rintro Y mm vs h1 hY ⟨i,rfl,rfl,hi1,hi2,s1,v1⟩;refine yJ (fun e1=>?_) (fun e1=>?_)
 ·refine t_loop (fun mm vs h'=>∃ j:Nat,vs=[.int .i64 j]/\j=mm/\j<=i/\SpR 28 h0 h'.get p n c/\Ov h0 h h') ⟨i,rfl,rfl,Nat.le_refl _,s1,v1⟩ ?_;rintro Y2 mm vs h2 hY2 ⟨j,rfl,rfl,hj,s2,v2⟩;have fin:Y [.int .i64 (wrap .i64 ((i:Int)+1))] h2:=by
   refine hY (n+1-(i+1)) _ _ (by omega) ⟨i+1,?_,rfl,by omega,by omega,s2,v2⟩;rw[wrap_id (by omega) (by omega)];rfl
  refine gZ ?_;refine t_blk (fun vs h'=>vs=[]/\h'=h2/\0<j) ?_ ?_
  ·refine t_if (fun e2=>?_) (fun e2=>?_)
   ·obtain⟨j',rfl⟩ : ∃ j',j=j'+1:=⟨j-1,by omega⟩
    have hw:wrap .i64 (((j'+1:Nat):Int)-1)=(j':Int):=by rw[wrap_id (by omega) (by omega)];omega
    rw[hw];obtain⟨l,hs⟩:=s2.sl (by omega);obtain⟨x,a,hx,ha,e3,e4⟩:=hs.at (i:=j'+1) (by omega);obtain⟨x',a',hx',ha',e5,e6⟩:=hs.at (i:=j') (by omega);have hin1:0<=((j'+1:Nat):Int)/\((j'+1:Nat):Int)<(n:Int):=by omega
    have hin2:0<=(j':Int)/\(j':Int)<(n:Int):=by omega
    subst ha;cases ha';refine gZ ?_;have hcmp:∀ a b c d:Int,CV X0 Tryz.prog (.func (.func 140) #[] #[]) #[.agg #[.int .i64 a,.int .i64 b],.agg #[.int .i64 c,.int .i64 d]] h2 (fun r h'=>r=.int .i64 (wrap .i64 (a-c))/\h'=h2) :=
     fun a b c d=>CV.mono (cv_fw X0_ok (by rfl) (c3344 a b c d)) (by rintro w h' ⟨rfl,rfl⟩;exact⟨rfl,rfl⟩)
    refine t_callv (hcmp _ _ _ _) ?_;rintro _ _ ⟨rfl,rfl⟩;refine yJ (fun e7=>?_) (fun e7=>?_)
    ·exact t_again ⟨rfl,rfl,by omega⟩
    ·refine gR ?_;refine yT ?_;refine gZ ?_;exact t_again fin
   ·refine yT ?_;refine gZ ?_;exact t_again fin
  ·rintro vs _ ⟨rfl,rfl,hpos⟩;obtain⟨j',rfl⟩ : ∃ j',j=j'+1:=⟨j-1,by omega⟩
   have hw:wrap .i64 (((j'+1:Nat):Int)-1)=(j':Int):=by rw[wrap_id (by omega) (by omega)];omega
   rw[hw];obtain⟨l,hs⟩:=s2.sl (by omega);obtain⟨x,a,hx,ha,e3,e4⟩:=hs.at (i:=j'+1) (by omega);obtain⟨x',a',hx',ha',e5,e6⟩:=hs.at (i:=j') (by omega);have hin1:0<=((j'+1:Nat):Int)/\((j'+1:Nat):Int)<(n:Int):=by omega
   have hin2:0<=(j':Int)/\(j':Int)<(n:Int):=by omega
   subst ha;cases ha';refine gZ ?_;refine t_storeSp s2 (i:=j'+1) (o:=0) (by omega) (by omega) rfl rfl fun h3 v3 s3=>?_;refine t_storeSp s3 (i:=j'+1) (o:=1) (by omega) (by omega) rfl rfl fun h4 v4 s4=>?_;refine gZ ?_;refine t_storeSp s4 (i:=j') (o:=0) (by omega) (by omega) rfl rfl fun h5 v5 s5=>?_;refine t_storeSp s5 (i:=j') (o:=1) (by omega) (by omega) rfl rfl fun h6 v6 s6=>?_;exact t_again (hY2 j' _ _ (by omega) ⟨j',rfl,rfl,by omega,s6,v2.trans (v3.trans (v4.trans (v5.trans v6)))⟩)
 ·refine gZ ?_;refine t_ret ⟨rfl,s1,v1⟩
theorem c3349{h:LH}{h0:Cells}{p:Option Addr}{n c:Nat}(s:SpR 28 h0 h.get p n c)(hn:n<=12)(lim:Int) :
  FW X0 Tryz.prog 160 #[.slice p n c,.int .i64 0,.int .i64 (n:Int),lim,.func (.func 140) #[] #[]] h fun v h'=>v=.tuple #[]/\SpR 28 h0 h'.get p n c/\Ov h0 h h':=by
 refine w3349 _ _ _ _ _ _ _ X0_ok ?_;unfold n3349;refine t_loop (fun mm vs h'=>mm=0/\vs=[.int .i64 0,.int .i64 (n:Int),.int .i64 lim,.bool true,.bool true]/\h=h') ⟨rfl,rfl,rfl⟩ ?_;rintro Y mm vs _ hY ⟨rfl,rfl,rfl⟩;refine gZ ?_;have hw:wrap .i64 ((n:Int)-0)=(n:Int):=by rw[wrap_id (by omega) (by omega)];omega
 rw[hw];refine t_if (fun e=>?_) (fun e=>absurd (by omega) e);refine t_call (c3357 s hn) ?_;rintro _ h2 ⟨rfl,hq⟩;refine gZ ?_;exact t_ret ⟨rfl,hq⟩
theorem c3343{h:LH}{h0:Cells}{p:Option Addr}{n c:Nat}(s:SpR 28 h0 h.get p n c)(hn:n<=12) :
  FW X0 Tryz.prog 139 #[.slice p n c,.func (.func 140) #[] #[]] h fun v h'=>v=.tuple #[]/\SpR 28 h0 h'.get p n c/\Ov h0 h h':=by
 refine w3343 _ _ _ _ X0_ok ?_;unfold n3343;have hw:IntKind.wrap .u64 (n:Int)=(n:Int):=by
  have e1:(2^IntKind.u64.bits:Int)=18446744073709551616:=rfl;simp only[IntKind.wrap,e1,show IntKind.u64.signed=false from rfl,Bool.false_and,Bool.false_eq_true,if_false];omega
 rw[hw];refine t_call (c2102 (by omega)) ?_;rintro _ _ ⟨rfl,z,rfl⟩;refine gZ ?_;refine t_call (c3349 s hn z) ?_;rintro _ h2 ⟨rfl,hq⟩;refine gZ ?_;exact t_ret ⟨rfl,hq⟩
end Go.Y
end
section
namespace Go.TM
theorem sorted_unique:∀ {a b:List Int},a.Perm b->a.Pairwise (·<=·)->b.Pairwise (·<=·)->a=b
 | [],b,p,_,_=>(List.eq_nil_of_length_eq_zero (by simpa using p.length_eq.symm)).symm
 | x::a,[],p,_,_=>by simp at p
 | x::a,z::b,p,ha,hb=>by
  have h1:x∈z::b:=p.mem_iff.1 (by simp);have h2:z∈x::a:=p.mem_iff.2 (by simp);rw[List.pairwise_cons]at ha hb;have e:x=z:=by
   rcases List.mem_cons.1 h1 with e|h1
   ·exact e
   ·rcases List.mem_cons.1 h2 with e|h2
    ·exact e.symm
    ·have:=ha.1 z h2;have:=hb.1 x h1;omega
  subst e;rw[sorted_unique (List.Perm.cons_inv p) ha.2 hb.2]
def sortD(l:List Int):List Int:=by
 classical exact if h:∃ s:List Int,s.Perm l/\s.Pairwise (·<=·) then h.choose else []
theorem sortD_is{l s:List Int}(h1:s.Perm l)(h2:s.Pairwise (·<=·)):s=sortD l:=by
 have hex:∃ s:List Int,s.Perm l/\s.Pairwise (·<=·):=⟨s,h1,h2⟩
 unfold sortD;rw[dif_pos hex];exact sorted_unique (h1.trans hex.choose_spec.1.symm) h2 hex.choose_spec.2
def daysD(kinds:Int)(l:List DPaper):List Int:=(l.filter fun p=>decide (p.kind<kinds)).map (·.day)
theorem daysD_snoc(kinds:Int)(l:List DPaper)(x:DPaper):daysD kinds (l++[x])=daysD kinds l++(if x.kind<kinds then [x.day] else []):=by
 unfold daysD;rw[List.filter_append,List.map_append];by_cases e:x.kind<kinds<;>simp[e]
def sameK(g g':Nat->Bool):Bool:=decide ([g 0,g 1,g 2,g 3]=[g' 0,g' 1,g' 2,g' 3])
def scanD(y:DFile)(a:DApp)(first:Int):List Int->Option (Int×Bool)
 | []=>none
 | d::l=>if sameK (cameF y.kinds a.papers d) (neededF y.kinds)=true then some (d,decide (d<=endsD y.cal first y.mend)) else scanD y a first l
def fileD(y:DFile)(a:DApp):Option (Int×Bool):=scanD y a ((sortD (daysD y.kinds a.papers)).getD 0 0) (sortD (daysD y.kinds a.papers))
end Go.TM
namespace Go.Y
attribute [local irreducible] T.wp CV FWK
def filedV(g:AppC)(a:DApp)(b:Nat)(d:Int):Value:=.agg #[.string a.name,.slice g.p1 g.n1 g.c1,.slice g.p2 g.n2 g.c2,.slice g.p3 g.n3 g.c3,.pointer (some ⟨b,0,none⟩),.int .i64 d]
def noFiled:Value:=.agg #[.string { data:=#[] },.slice none 0 0,.slice none 0 0,.slice none 0 0,.pointer none,.int .i64 0]
theorem c3308{h:LH}{b m:Nat}{f:DFileC}{y:DFile}(o:OffR h.get b m f y)(ok:DFileOk y){i:Nat}{a:DApp}(ha:y.apps[i]?=some a) :
  FW XL Tryz.prog 32 #[.pointer (some ⟨b,0,none⟩),.int .i64 i] h fun r h'=>Kp m h h'/\OffR h'.get b m f y /\
   ((fileD y a=none/\r=.tuple #[noFiled,.bool false])\/∃ d k g,fileD y a=some (d,k)/\DayOk d/\AppR h'.get g a/\r=.tuple #[filedV g a b d,.bool k]):=by
 refine w3308 _ _ XL_ok ?_;unfold n3308;have aok:=ok.app a (List.mem_of_getElem? ha);have g14:h.get.cell? (Addr.add (Addr.add ⟨b,0,none⟩ 0) 14)=some (.slice f.p f.n f.c):=by rw[Addr.add_add'];exact o.at.g14
 have hn:=o.dfile.apps.1;have hilt:i<f.n:=by rw[hn];exact(List.getElem?_eq_some_iff.1 ha).1
 obtain⟨a',ad,ha',hp,g,e0,e1,e2,e3,ar⟩:=o.dfile.apps.at (i:=i) hilt;rw[ha]at ha';cases ha';have hin:0<=(i:Int)/\(i:Int)<(f.n:Int):=by omega
 refine gZ ?_;refine t_loadStr e0 ?_;refine gZ ?_;have hn1:=ar.papers.1;have hb1:=ar.papers.2.1;have h8:=aok.papers8;refine t_loopB (fun mm vs h'=>h.le h'/\∃ (j:Nat) (p:Option Addr) (n c:Nat),vs=[.slice p n c,.int .i64 j]/\j<=g.n1/\mm=g.n1-j/\Growing IntEnc 3 1 h.get h'.get p n c (daysD y.kinds (a.papers.take j)))
  (fun vs h'=>h.le h'/\∃ (j:Nat) (p:Option Addr) (n c:Nat),vs=[.slice p n c,.int .i64 j]/\Growing IntEnc 3 1 h.get h'.get p n c (daysD y.kinds a.papers)) ⟨LH.le_refl _,0,none,0,0,rfl,Nat.zero_le _,rfl,Growing.nil⟩ ?_ ?_
 ·rintro Y mm vs h2 hY ⟨le2,j,p,n,c,rfl,hj,rfl,gr⟩;refine yJ (fun q1=>?_) (fun q1=>?_)
  ·obtain⟨x,ax,hx,hax,k1,k2⟩:=(ar.papers.le DPaperE.grow le2.1).at (i:=j) (by omega);have ht:a.papers.take (j+1)=a.papers.take j++[x]:=by rw[List.take_add_one,hx];rfl
   have g2:h2.get.cell? (Addr.add (Addr.add ⟨b,0,none⟩ 0) 2)=some (.int .i64 y.kinds):=by rw[Addr.add_add'];exact(o.at.le le2.1).g2
   have hcnt:=gr.count IntEnc.len (by decide);have hsz:(daysD y.kinds (a.papers.take j)).length<=8:=by
    unfold daysD;rw[List.length_map];refine Nat.le_trans (List.length_filter_le _ _) ?_;rw[List.length_take];omega
   refine yJ (fun q2=>?_) (fun q2=>?_)
   ·refine t_pushI gr le2 (by omega) fun p' c' h3 le3 g3=>?_;refine gZ ?_;refine t_again (hY (g.n1-(j+1)) _ _ (by omega) ⟨le3,j+1,p',n+1,c',?_,by omega,rfl,?_⟩)
    ·rw[wrap_id (by omega) (by omega)];rfl
    ·rw[ht,daysD_snoc,if_pos q2];exact g3
   ·refine t_again (hY (g.n1-(j+1)) _ _ (by omega) ⟨le2,j+1,p,n,c,?_,by omega,rfl,?_⟩)
    ·rw[wrap_id (by omega) (by omega)];rfl
    ·rw[ht,daysD_snoc,if_neg q2,List.append_nil];exact gr
  ·refine gH ⟨le2,j,p,n,c,rfl,?_⟩;rw[List.take_of_length_le (by omega)]at gr;exact gr
 rintro vs h2 ⟨le2,j,p,n,c,rfl,gr⟩;have hsz:(daysD y.kinds a.papers).length<=8:=by
  unfold daysD;rw[List.length_map];exact Nat.le_trans (List.length_filter_le _ _) h8
 refine gZ ?_;refine sort_days gr (by omega) fun s h3 hperm hsort gr3 keep3 same3=>?_;have le3:h.le h3:=⟨fun r x hx=>keep3 r x hx (le2.1 r x hx),same3.1.trans le2.2.1,same3.2.1.trans le2.2.2.1,same3.2.2.trans le2.2.2.2⟩
 have es:=sortD_is hperm hsort;have hss:=gr3.sl IntEnc.len (by omega) IntEnc.e (by rw[hperm.length_eq];omega);have hns:=hss.1;have hls:s.length<=8:=by rw[hperm.length_eq];exact hsz
 have hday:∀ v∈s,DayOk v:=fun v hv=>by
  have:=hperm.mem_iff.1 hv;unfold daysD at this;obtain⟨q,hq,rfl⟩:=List.mem_map.1 this;exact(aok.papers q (List.mem_filter.1 hq).1).2
 have efile:fileD y a=scanD y a (s.getD 0 0) s:=by unfold fileD;rw[<- es]
 rw[efile];clear gr gr3 keep3 es efile;refine gZ ?_;refine t_loop (fun mm vs h'=>h3.le h'/\∃ j:Nat,vs=[.bool false,.int .i64 j,.string { data:=#[] },.slice none 0 0,.slice none 0 0,.slice none 0 0,.pointer none,.int .i64 0]/\j<=n/\mm=n-j/\scanD y a (s.getD 0 0) s=scanD y a (s.getD 0 0) (s.drop j)) ⟨LH.le_refl _,0,rfl,Nat.zero_le _,rfl,rfl⟩ ?_;rintro Y mm vs h4 hY ⟨le4,j,rfl,hj,rfl,hsc⟩;have le04:=LH.le_trans le3 le4;refine yJ (fun q1=>?_) (fun q1=>?_)
 ·obtain⟨v,av,hv,hav,k1⟩:=(hss.le IntE.grow le4.1).at (i:=j) (by omega);unfold IntE at k1;rw[drop_of hv,scanD]at hsc;refine gZ ?_;refine t_call (c3315 XL_ok (o.at.le le04.1) (ar.rd (Rd.of_le le04.1)) (fun q hq=>(aok.papers q hq).1) v) ?_;rintro _ h5 ⟨le5,rfl⟩;have le05:=LH.le_trans le04 le5;refine gZ ?_;refine t_call (c3316 XL_ok (o.at.le le05.1) ok.kinds) ?_;rintro _ h6 ⟨le6,rfl⟩;have le06:=LH.le_trans le05 le6;refine gZ ?_;refine t_eqA4 und1337 (by kernel_rfl) inf4b (by kernel_rfl) ?_;refine yI (fun q2=>?_) (fun q2=>?_)
  ·rw[if_pos (show sameK _ _=true from q2)]at hsc;have o6:=o.le le06.1;obtain⟨v0,av0,hv0,hav0,k2⟩:=(hss.le IntE.grow (LH.le_trans le4 (LH.le_trans le5 le6)).1).at (i:=0) (by omega);unfold IntE at k2;have k2':h6.get.cell? (av0.add 0)=some (.int .i64 v0):=by rw[Addr.add_add']at k2;simpa using k2
   have t0:h6.get.cell? (Addr.add (Addr.add (Addr.add ⟨b,0,none⟩ 0) 3) 0)=some (.int .i64 y.mend.n):=by rw[Addr.add_add',Addr.add_add'];exact o6.at.g3
   have t1:h6.get.cell? (Addr.add (Addr.add (Addr.add ⟨b,0,none⟩ 0) 3) 1)=some (.int .i64 y.mend.unit):=by rw[Addr.add_add',Addr.add_add'];exact o6.at.g4
   have hin0:0<=(0:Int)/\(0:Int)<(n:Int):=by omega
   have hd0:s.getD 0 0=v0:=by rw[List.getD_eq_getElem?_getD,hv0];rfl
   refine gZ ?_;refine t_call (c3317 o6 ok (hday v0 (List.mem_of_getElem? hv0)) ok.mend) ?_;rintro _ h7 ⟨rfl,kp7,o7⟩;refine gZ ?_;refine t_ret ⟨(Kp.of_le le06).trans kp7,o7,.inr ⟨v,_,g,hsc,hday v (List.mem_of_getElem? hv),(ar.rd (Rd.of_le le06.1)).rd (kp7.rd o6.isMap),?_⟩⟩;rw[hd0];rfl
  ·rw[if_neg (by rw[show sameK _ _=false from q2];simp)]at hsc;refine t_again (hY (n-(j+1)) _ _ (by omega) ⟨LH.le_trans le4 (LH.le_trans le5 le6),j+1,?_,by omega,rfl,hsc⟩);rw[wrap_id (by omega) (by omega)];rfl
 ·refine gH ?_;refine gZ ?_;rw[List.drop_eq_nil_of_le (by omega)]at hsc;exact t_ret ⟨Kp.of_le le04,o.le le04.1,.inl ⟨hsc,rfl⟩⟩
end Go.Y
end
section
namespace Go.TM
theorem endsD_ok{c:CalD}{s:Int}{t:DTerm}(hs:DayOk s)(ht:TermOk t):DayOk (endsD c s t):=by
 classical
 by_cases h:∃ e,Te.EndsAt c.cal s t.unit t.n e
 ·obtain⟨e,he⟩:=h;rw[<- endsD_is he];have:=he.range hs.2 ht.1.1;exact⟨Int.le_trans hs.1 this.1,this.2⟩
 ·unfold endsD;rw[dif_neg h];exact⟨by omega,by omega⟩
end Go.TM
namespace Go.Y
attribute [local irreducible] T.wp CV FWK
theorem OffS.nest{h:Cells}{b m:Nat}{f:DFileC}{y:DFile}(o:OffR h b m f y):h.cell? (Addr.add (Addr.add (Addr.add ⟨b,0,none⟩ 0) 5) 0)=some (.int .i64 y.reach.n)/\h.cell? (Addr.add (Addr.add (Addr.add ⟨b,0,none⟩ 0) 5) 1)=some (.int .i64 y.reach.unit) /\
  h.cell? (Addr.add (Addr.add (Addr.add ⟨b,0,none⟩ 0) 7) 0)=some (.int .i64 y.late.n)/\h.cell? (Addr.add (Addr.add (Addr.add ⟨b,0,none⟩ 0) 7) 1)=some (.int .i64 y.late.unit) /\
  h.cell? (Addr.add (Addr.add (Addr.add ⟨b,0,none⟩ 0) 9) 0)=some (.int .i64 y.ask.n)/\h.cell? (Addr.add (Addr.add (Addr.add ⟨b,0,none⟩ 0) 9) 1)=some (.int .i64 y.ask.unit) /\
  h.cell? (Addr.add (Addr.add (Addr.add ⟨b,0,none⟩ 0) 11) 0)=some (.int .i64 y.most.n)/\h.cell? (Addr.add (Addr.add (Addr.add ⟨b,0,none⟩ 0) 11) 1)=some (.int .i64 y.most.unit):=by
 simp only[Addr.add_add'];have a:=o.at;exact⟨a.g5,a.g6,a.g7,a.g8,a.g9,a.g10,a.g11,a.g12⟩
def boolR(r:Value):Prop:=∃ t:Bool,r=.bool t
theorem c3318{h:LH}{b m:Nat}{f:DFileC}{y:DFile}(o:OffR h.get b m f y)(ok:DFileOk y){g:AppC}{a:DApp}{d:Int}(hd:DayOk d){c0 c1:Int}(hc:DayOk c0){q:Option Addr}{n c:Nat} :
  FW XL Tryz.prog 64 #[filedV g a b d,.agg #[c0,c1,.slice q n c]] h fun r h'=>boolR r/\Kp m h h'/\OffR h'.get b m f y:=by
 unfold filedV;refine w3318 _ _ _ _ _ _ _ _ _ _ _ _ _ _ _ _ _ XL_ok ?_;unfold n3318;refine t_if (fun e1=>?_) (fun e1=>?_)
 ·obtain⟨t1,t2,_⟩:=o.nest;refine gZ ?_;refine t_call (c3317 o ok hc ok.reach) ?_;rintro _ h1 ⟨rfl,kp1,o1⟩;refine yJ (fun e2=>?_) (fun e2=>?_)
  ·obtain⟨_,_,t3,t4,_⟩:=o1.nest;refine gZ ?_;refine t_call (c3317 o1 ok hd ok.late) ?_;rintro _ h2 ⟨rfl,kp2,o2⟩;refine gZ ?_;exact t_ret ⟨⟨_,rfl⟩,kp1.trans kp2,o2⟩
  ·refine gZ ?_;exact t_ret ⟨⟨_,rfl⟩,kp1,o1⟩
 ·refine gZ ?_;exact t_ret ⟨⟨_,rfl⟩,Kp.refl _ _,o⟩
theorem c3309{h:LH}{b m:Nat}{f:DFileC}{y:DFile}(o:OffR h.get b m f y)(ok:DFileOk y){g:AppC}{a:DApp}(ha:a∈y.apps)(ar:AppR h.get g a){d:Int}(hd:DayOk d)(item:Int) :
  FW XL Tryz.prog 33 #[filedV g a b d,item] h fun r h'=>(∃ z:Int,r=.int .i64 z)/\Kp m h h'/\OffR h'.get b m f y:=by
 unfold filedV;refine w3309 _ _ _ _ _ _ _ _ _ _ _ _ _ XL_ok ?_;unfold n3309;have aok:=ok.app a ha;have hn:=ar.claims.1;have hb:=ar.claims.2.1;refine t_loop (fun mm vs h'=>Kp m h h'/\OffR h'.get b m f y/\∃ (v:Int) (i:Nat),vs=[.int .i64 v,.int .i64 i]/\i<=g.n2/\mm=g.n2-i) ⟨Kp.refl _ _,o,d,0,rfl,Nat.zero_le _,rfl⟩ ?_;rintro Y mm vs h1 hY ⟨kp1,o1,v,i,rfl,hi,rfl⟩;have next:∀ (v':Int) h2,Kp m h h2->OffR h2.get b m f y->i<g.n2->Y [.int .i64 v',.int .i64 (wrap .i64 ((i:Int)+1))] h2:=fun v' h2 k2 o2 hlt=>by
  refine hY (g.n2-(i+1)) _ _ (by omega) ⟨k2,o2,v',i+1,?_,by omega,rfl⟩;rw[wrap_id (by omega) (by omega)];rfl
 refine yJ (fun e1=>?_) (fun e1=>?_)
 ·have hlt:i<g.n2:=by omega
  obtain⟨x,ax,hx,hax,k1,k2,q,n,c,k3,hs⟩:=(ar.claims.rd DClaimE.grow (kp1.rd o.isMap)).at (i:=i) hlt;have hin:0<=(i:Int)/\(i:Int)<(g.n2:Int):=by omega
  refine gZ ?_;refine t_pu (c100 hs _) ?_;refine yI (fun e2=>?_) (fun e2=>?_)
  ·refine t_call (c3318 (g:=g) (a:=a) o1 ok hd (aok.claims x (List.mem_of_getElem? hx)).1) ?_;rintro _ h2 ⟨⟨t,rfl⟩,kp2,o2⟩;refine yI (fun e3=>?_) (fun e3=>?_)
   ·exact t_again (next _ _ (kp1.trans kp2) o2 hlt)
   ·exact t_again (next _ _ (kp1.trans kp2) o2 hlt)
  ·exact t_again (next _ _ kp1 o1 hlt)
 ·refine gH ?_;refine gZ ?_;exact t_ret ⟨⟨_,rfl⟩,kp1,o1⟩
theorem _root_.Go.TM.DoneOk.day{n:Int}(h:DoneOk n)(h0:0<=n):DayOk n:=by
 rcases h with rfl|h
 ·omega
 ·exact h
theorem c3336{h:LH}{b m:Nat}{f:DFileC}{y:DFile}(o:OffR h.get b m f y)(ok:DFileOk y){g:AppC}{a:DApp}{d:Int}{x:DDue}(hx:DayOk x.start/\TermOk x.term/\DoneOk x.done/\DoneOk x.freed/\DoneOk x.asked) :
  FW XL Tryz.prog 111 #[filedV g a b d,.agg #[.int .i64 x.start,.int .i64 x.term.n,.int .i64 x.term.unit,.int .i64 x.done,.int .i64 x.freed,.int .i64 x.asked]] h fun r h'=>(∃ (p q:Int) (t:Bool),r=.tuple #[.agg #[.int .i64 p,.int .i64 q],.bool t])/\Kp m h h'/\OffR h'.get b m f y:=by
 unfold filedV;refine w3336 _ _ _ _ _ _ _ _ _ _ _ _ _ _ _ _ _ _ XL_ok ?_;unfold n3336;refine t_call (c3317 o ok hx.1 hx.2.1) ?_;rintro _ h1 ⟨rfl,kp1,o1⟩;have hn:=endsD_ok (c:=y.cal) hx.1 hx.2.1;generalize endsD y.cal x.start x.term=n at hn;refine gZ ?_;refine t_blk (fun vs h'=>vs=[.bool false,.int .i64 0,.int .i64 0]/\h'=h1) ?_ ?_
 ·refine t_if (fun e1=>?_) (fun e1=>?_)
  ·refine t_if (fun e2=>?_) (fun e2=>?_)
   ·refine gZ ?_;exact t_ret ⟨⟨_,_,_,rfl⟩,kp1,o1⟩
   ·exact t_again ⟨rfl,rfl⟩
  ·exact t_again ⟨rfl,rfl⟩
 rintro vs h1' ⟨rfl,e⟩;subst e;refine gZ ?_;refine t_blk (fun vs h'=>(∃ t:Bool,vs=[.bool t]/\(t=true->0<=x.freed))/\h'=h1') ?_ ?_
 ·refine t_if (fun e1=>?_) (fun e1=>?_)
  ·refine t_if (fun e2=>?_) (fun e2=>?_)
   ·refine t_if (fun e3=>?_) (fun e3=>?_)
    ·exact t_again ⟨⟨_,rfl,fun _=>e3⟩,rfl⟩
    ·exact t_again ⟨⟨_,rfl,fun e=>by cases e⟩,rfl⟩
   ·exact t_again ⟨⟨_,rfl,fun e=>by cases e⟩,rfl⟩
  ·exact t_again ⟨⟨_,rfl,fun e=>by cases e⟩,rfl⟩
 rintro vs h1 ⟨⟨t,rfl,ht⟩,e⟩;subst e;refine gZ ?_;refine t_blk (fun vs h'=>(∃ p q:Int,vs=[.int .i64 p,.int .i64 q])/\Kp m h h'/\OffR h'.get b m f y) ?_ ?_
 ·refine t_cond (fun e1=>?_) (fun e1=>?_)
  ·have hf:=ht e1;subst e1;refine t_if (fun e2=>?_) (fun e2=>?_)
   ·obtain⟨_,_,_,_,t5,t6,_⟩:=o1.nest;refine gZ ?_;refine t_call (c3317 o1 ok (DoneOk.day hx.2.2.2.1 hf) ok.ask) ?_;rintro _ h2 ⟨rfl,kp2,o2⟩;refine yJ (fun e3=>?_) (fun e3=>?_)
    ·obtain⟨_,_,_,_,_,_,t7,t8⟩:=o2.nest;refine gZ ?_;refine t_call (c3317 o2 ok hn ok.most) ?_;rintro _ h3 ⟨rfl,kp3,o3⟩;refine yJ (fun e4=>?_) (fun e4=>?_)
     ·exact t_again ⟨⟨_,_,rfl⟩,kp1.trans (kp2.trans kp3),o3⟩
     ·exact t_again ⟨⟨_,_,rfl⟩,kp1.trans (kp2.trans kp3),o3⟩
    ·refine gZ ?_;exact t_again ⟨⟨_,_,rfl⟩,kp1.trans kp2,o2⟩
   ·refine gZ ?_;exact t_again ⟨⟨_,_,rfl⟩,kp1,o1⟩
  ·subst e1;refine gZ ?_;exact t_again ⟨⟨_,_,rfl⟩,kp1,o1⟩
 rintro vs h4 ⟨⟨p,q,rfl⟩,kp4,o4⟩;refine gZ ?_;exact t_ret ⟨⟨_,_,_,rfl⟩,kp4,o4⟩
end Go.Y
end
namespace Go.Y
section
attribute [local irreducible] T.wp CV FWK
theorem t_pushS22{X:XP}{Q:Leaf->LH->Prop}{h:LH}{h0:Cells}{p:Option Addr}{n c:Nat}{K:Value->T}{x y:Int}(s:SpR 28 h0 h.get p n c)(hn:n+1<=2^30)
 (hk:∀ p' c' h',Ov h0 h h'->SpR 28 h0 h'.get p' (n+1) c'->(K (.slice p' (n+1) c')).wp X Tryz.prog Q h') :
  (T.sem false (Instr.buildSlice 22 1 #[(0,.agg #[x,y])]) fun v=>T.unS v fun a m mc=>T.sem false (Builtin.append_ #[22,22] 22 #[.slice p n c,.slice a m mc]) K).wp X Tryz.prog Q h :=
 t_pushSp rfl rfl und22' inf30' (by decide) (by kernel_rfl) s hn hk
theorem c3337{h:LH}{h0:Cells}{p:Option Addr}{n c:Nat}(s:SpR 28 h0 h.get p n c)(hn:n<=12) :
  FW X0 Tryz.prog 112 #[.slice p n c] h fun v h'=>Ov h0 h h'/\∃ p' n' c',v=.slice p' n' c'/\n'<=n/\SpR 28 h0 h'.get p' n' c':=by
 refine w3337 _ _ _ X0_ok ?_;unfold n3337;refine t_call (c3343 s hn) ?_;rintro _ h1 ⟨rfl,s1,v1⟩;refine gZ ?_;refine t_loop (fun mm vs h'=>h1.le h'/\∃ (q:Option Addr) (k d i:Nat),vs=[.slice q k d,.int .i64 i]/\k<=i/\i<=n/\mm=n-i/\SpR 28 h1.get h'.get q k d) ⟨LH.le_refl _,none,0,0,0,rfl,Nat.le_refl _,Nat.zero_le _,rfl,SpR.nil fun _ hr=>hr⟩ ?_;rintro Y mm vs h2 hY ⟨le2,q,k,d,i,rfl,hki,hi,rfl,s2⟩;have next:∀ (q':Option Addr) (k' d':Nat) h3,h1.le h3->k'<=i+1->i<n->SpR 28 h1.get h3.get q' k' d'->Y [.slice q' k' d',.int .i64 (wrap .i64 ((i:Int)+1))] h3:=fun q' k' d' h3 le3 hk hlt s3=>by
  refine hY (n-(i+1)) _ _ (by omega) ⟨le3,q',k',d',i+1,?_,hk,by omega,rfl,s3⟩;rw[wrap_id (by omega) (by omega)];rfl
 refine yJ (fun e1=>?_) (fun e1=>?_)
 ·have hlt:i<n:=by omega
  obtain⟨l,hs⟩:=(s1.le le2.1).sl (by omega);obtain⟨x,a,hx,rfl,e3,e4⟩:=hs.at (i:=i) hlt;have hin:0<=(i:Int)/\(i:Int)<(n:Int):=by omega
  refine gZ ?_;refine t_blk (fun vs h'=>(∃ t:Bool,vs=[.bool t]/\(t=true->0<k))/\h'=h2) ?_ ?_
  ·refine t_if (fun e5=>?_) (fun e5=>?_)
   ·have hk:0<k:=by omega
    have hw:wrap .i64 ((k:Int)-1)=((k-1:Nat):Int):=by rw[wrap_id (by omega) (by omega)];omega
    rw[hw];obtain⟨l2,hs2⟩:=s2.sl (by omega);obtain⟨x2,a2,hx2,rfl,f3,f4⟩:=hs2.at (i:=k-1) (by omega);have hin2:0<=((k-1:Nat):Int)/\((k-1:Nat):Int)<(k:Int):=by omega
    refine gZ ?_;exact t_again ⟨⟨_,rfl,fun _=>hk⟩,rfl⟩
   ·refine gZ ?_;exact t_again ⟨⟨_,rfl,fun e=>by cases e⟩,rfl⟩
  rintro vs h3 ⟨⟨t,rfl,ht⟩,e⟩;subst e;refine yI (fun e5=>?_) (fun e5=>?_)
  ·have hk:=ht e5;subst e5;have hw:wrap .i64 ((k:Int)-1)=((k-1:Nat):Int):=by rw[wrap_id (by omega) (by omega)];omega
   rw[hw];obtain⟨l2,hs2⟩:=s2.sl (by omega);obtain⟨x2,a2,hx2,rfl,f3,f4⟩:=hs2.at (i:=k-1) (by omega);have hin2:0<=((k-1:Nat):Int)/\((k-1:Nat):Int)<(k:Int):=by omega
   refine gZ ?_;refine t_storeSp s2 (i:=k-1) (o:=1) (by omega) (by omega) rfl rfl fun h4 v4 s4=>?_;refine gZ ?_;exact t_again (next _ _ _ _ (v4.le_of le2) (by omega) hlt s4)
  ·refine t_pushS22 s2 (by omega) fun q' d' h4 v4 s4=>?_;refine gZ ?_;exact t_again (next _ _ _ _ (v4.le_of le2) (by omega) hlt s4)
 ·refine gH ?_;refine gZ ?_;refine t_ret ⟨v1.trans (Ov.of_le le2),q,k,d,rfl,by omega,s2.row,fun a ha=>s1.dom _ (s2.new a ha),fun r hr=>s1.dom r (s2.dom r hr)⟩
theorem c3319{h:LH}{b m:Nat}{f:DFileC}{y:DFile}(o:OffR h.get b m f y)(ok:DFileOk y){g:AppC}{a:DApp}(ha:a∈y.apps)(ar:AppR h.get g a){d:Int} :
  FW XL Tryz.prog 66 #[filedV g a b d] h fun r h'=>(∃ p n c,r=.slice p n c/\n<=4/\SpR 28 h.get h'.get p n c)/\Kp m h h'/\OffR h'.get b m f y:=by
 have fv:∀ d,filedV g a b d=.agg #[.string a.name,.slice g.p1 g.n1 g.c1,.slice g.p2 g.n2 g.c2,.slice g.p3 g.n3 g.c3,.pointer (some ⟨b,0,none⟩),.int .i64 d]:=fun _=>rfl;rw[fv];refine w3319 _ _ _ _ _ _ _ _ _ _ _ _ XL_ok ?_;unfold n3319;have aok:=ok.app a ha;have hn:=ar.dues.1;have hb:=ar.dues.2.1;have h4:=aok.dues4;have dom:∀ {h':LH},Kp m h h'->OffR h'.get b m f y->∀ r,h'.get r=none->h.get r=none:=fun k o' r hr=>by
  cases e:h.get r with
  | none=>rfl
  | some x =>
   rw[k.get r x (fun e2=>?_) e]at hr
   ·cases hr
   ·subst e2;obtain⟨_,_,_,e3⟩:=o'.isMap;rw[e3]at hr;cases hr
 have hm:h.get m≠none:=by
  obtain⟨_,_,_,e⟩:=o.isMap;rw[e];simp
 refine t_loop (fun mm vs h'=>Kp m h h'/\OffR h'.get b m f y/\∃ (p:Option Addr) (n c i:Nat),vs=[.slice p n c,.int .i64 i]/\n<=i/\i<=g.n3/\mm=g.n3-i/\SpR 28 h.get h'.get p n c) ⟨Kp.refl _ _,o,none,0,0,0,rfl,Nat.le_refl _,Nat.zero_le _,rfl,SpR.nil fun _ hr=>hr⟩ ?_;rintro Y mm vs h1 hY ⟨kp1,o1,p,n,c,i,rfl,hni,hi,rfl,s1⟩;have next:∀ (p':Option Addr) (n' c':Nat) h3,Kp m h h3->OffR h3.get b m f y->n'<=i+1->i<g.n3->SpR 28 h.get h3.get p' n' c'->Y [.slice p' n' c',.int .i64 (wrap .i64 ((i:Int)+1))] h3:=fun p' n' c' h3 k3 o3 hk hlt s3=>by
  refine hY (g.n3-(i+1)) _ _ (by omega) ⟨k3,o3,p',n',c',i+1,?_,hk,by omega,rfl,s3⟩;rw[wrap_id (by omega) (by omega)];rfl
 refine yJ (fun e1=>?_) (fun e1=>?_)
 ·have hlt:i<g.n3:=by omega
  obtain⟨x,ax,hx,hax,k0,k1,k2,k3,k4,k5⟩:=(ar.dues.rd DDueE.grow (kp1.rd o.isMap)).at (i:=i) hlt;have hin:0<=(i:Int)/\(i:Int)<(g.n3:Int):=by omega
  refine gZ ?_;rw[<- fv];refine t_call (c3336 o1 ok (aok.dues x (List.mem_of_getElem? hx))) ?_;rintro _ h2 ⟨⟨u,v,t,rfl⟩,kp2,o2⟩;have hm2:h2.get m≠none:=by
   obtain⟨_,_,_,e⟩:=o2.isMap;rw[e];simp
  have s2:=s1.kp kp2 hm hm2;have kp02:=kp1.trans kp2;refine yI (fun e2=>?_) (fun e2=>?_)
  ·refine t_pushS22 s2 (by omega) fun p' c' h3 v3 s3=>?_;refine gZ ?_;exact t_again (next _ _ _ _ (kp02.ov v3) (OffS.ov o kp02 o2 v3) (by omega) hlt s3)
  ·exact t_again (next _ _ _ _ kp02 o2 (by omega) hlt s2)
 ·refine gH ?_;refine gZ ?_;refine t_call (FW.top (c3337 s1 (by omega))) ?_;rintro _ h2 ⟨v2,p',n',c',rfl,hn',s2⟩;refine gZ ?_;exact t_ret ⟨⟨_,_,_,rfl,by omega,s2⟩,kp1.ov v2,OffS.ov o kp1 o1 v2⟩
theorem c3320{h:LH}{z:Addr}{d:Int}(hz:h.get.cell? z=some (.int .i64 d))(s t:Int):Pu Tryz.prog 67 #[.agg #[s,t],.pointer (some z)] h (.bool (isIn d s t)):=by
 refine w3320 _ _ _ X0_ok ?_;unfold n3320;refine gZ ?_;refine t_pu (c1102 _ _ _) ?_;refine gZ ?_;exact t_ret ⟨rfl,rfl⟩
theorem c3310{h:LH}{b m:Nat}{f:DFileC}{y:DFile}(o:OffR h.get b m f y)(ok:DFileOk y){g:AppC}{a:DApp}(ha:a∈y.apps)(ar:AppR h.get g a){d:Int}(day:Int) :
  FW XL Tryz.prog 34 #[filedV g a b d,day] h fun r h'=>boolR r/\Kp m h h'/\OffR h'.get b m f y:=by
 have fv:∀ d,filedV g a b d=.agg #[.string a.name,.slice g.p1 g.n1 g.c1,.slice g.p2 g.n2 g.c2,.slice g.p3 g.n3 g.c3,.pointer (some ⟨b,0,none⟩),.int .i64 d]:=fun _=>rfl;rw[fv];refine w3310 _ _ _ _ _ _ _ _ _ _ _ _ _ XL_ok ?_;unfold n3310;refine t_newG fun r h1 le1 hr0 hr _=>?_;have c0:h1.get.cell? ⟨r,0,none⟩=some (.int .i64 day):=cell_blk hr rfl;have o1:=o.le le1.1;have kp1:Kp m h h1:=Kp.of_le le1;refine yJ (fun e1=>?_) (fun e1=>?_)
 ·rw[<- fv];refine t_call (c3319 o1 ok ha (ar.rd (Rd.of_le le1.1))) ?_;rintro _ h2 ⟨⟨p,n,c,rfl,hn,s2⟩,kp2,o2⟩;have c2:=kp2.rd o1.isMap _ _ c0;obtain⟨l,hs⟩:=s2.sl (by omega);refine gZ ?_;refine t_gr (c79 hs (g:=fun x=>isIn day x.first x.last) fun x h' hl=>?_) ?_
  ·exact CV.mono (cv_fw X0_ok (by rfl) (c3320 (Cells.cell?_le hl.1 c2) x.first x.last)) (by rintro w h' ⟨rfl,rfl⟩;exact⟨LH.le_refl _,rfl⟩)
  rintro _ h3 le3 rfl;refine gZ ?_;exact t_ret ⟨⟨_,rfl⟩,kp1.trans (kp2.trans (Kp.of_le le3)),o2.le le3.1⟩
 ·exact t_ret ⟨⟨_,rfl⟩,kp1,o1⟩
end
section
set_option linter.unusedVariables false
variable {X:XP} {h:LH} {A:Value->LH->Prop}
def n3302(x_0p:Option Addr)(x_0n x_0c:Nat)(x_1p:Option Addr)(x_1n x_1c:Nat)(x_2 x_3 x_4 x_5 x_6 x_7 x_8 x_9 x_10 x_11 x_12 x_13:Int)(x_14p:Option Addr)(x_14n x_14c:Nat)(one two item:Int):T:=.sem false (Instr.buildSlice 29 2 #[(0,.int .i64 one),(1,.int .i64 two)]) fun v=>.unS v fun a n c=>.cT 28 #[.agg #[.slice x_0p x_0n x_0c,.slice x_1p x_1n x_1c,x_2,x_3,x_4,x_5,x_6,x_7,x_8,x_9,x_10,x_11,x_12,x_13,.slice x_14p x_14n x_14c],.slice a n c] fun v vs=>.unP v fun a=>.unCons vs fun v vs=>.ui v fun n=>.unNil vs (.cB 31 #[item,.int .i64 0,.int .i64 (wrap .i64 (x_13-1))] fun b=>.cI 30 #[.bool !b,.int .i64 6] fun n_1=>.sem false (Instr.buildSlice 131 2 #[(0,.int .i64 n),(1,.int .i64 n_1)]) fun v=>.unS v fun a_1 n c=>.cI 29 #[.slice a_1 n c] fun n=>bif n != 0 then .rt (.tuple #[false,n]) else .cT 32 #[.pointer a,one] fun v vs=>.unAgg v fun l=>.popStr l fun s vs_1=>.popS vs_1 fun a_2 n c vs_2=>.popS vs_2 fun a_3 n_2 c_1 vs_3=>.popS vs_3 fun a_4 n_3 c_2 vs_4=>.popP vs_4 fun a_5 vs_5=>.pi vs_5 fun n_4 vs_6=>.unNil vs_6 (.unCons vs fun v vs=>.unB v fun b=>.unNil vs (.cT 32 #[.pointer a,two] fun v vs=>.unAgg v fun l=>.popStr l fun s_1 vs_7=>.popS vs_7 fun a n_5 c_3 vs_8=>.popS vs_8 fun a_6 n_6 c_4 vs_9=>.popS vs_9 fun a_7 n_7 c_5 vs_10=>.popP vs_10 fun a_8 vs_11=>.pi vs_11 fun n_8 vs_12=>.unNil vs_12 (.unCons vs fun v vs=>.unB v fun b_1=>.unNil vs (.blk (bif !b then .nds [.B (!b),b,.U,.U,true,.B (!b),b,true,.B (!b),b,true,.B (!b),b] (.rn [false,.int .i64 0]) else bif !b_1 then .nds [.U,.U,.B (!b_1),.B (!b_1),b_1] (.nf (!b) false (.nds [.B (!b),b,.B (!b_1),.B (!b_1),b_1] (.nf (!b) false (.nds [.B (!b),b,.B (!b_1),.B (!b_1),b_1] (.nf (!b) false (.nds [.B (!b),b] (.rn [false,.int .i64 0]))))))) else .cI 33 #[.agg #[.string s,.slice a_2 n c,.slice a_3 n_2 c_1,.slice a_4 n_3 c_2,.pointer a_5,n_4],item] fun n=>.nds [item,.val (.agg #[.string s_1,.slice a n_5 c_3,.slice a_6 n_6 c_4,.slice a_7 n_7 c_5,.pointer a_8,n_8]),.B (!b_1),.B (!b_1),b_1] (.nf (!b) false (.nds [.B (!b),b] (.cI 33 #[.agg #[.string s_1,.slice a n_5 c_3,.slice a_6 n_6 c_4,.slice a_7 n_7 c_5,.pointer a_8,n_8],item] fun n_9=>.nds [.B (!b_1),.B (!b_1),b_1] (.nf (!b) false (.nds [.B (!b),b] (bif decide (n>=n_9) then .rn [false,.int .i64 0] else .ag [false,.int .i64 0]))))))) (fun vs=>.popB vs fun b vs=>.pi vs fun n_9 vs=>.unNil vs (bif decide (n_4>n_8) then .rt (.tuple #[true,.int .i64 0]) else .cB 34 #[.agg #[.string s,.slice a_2 n c,.slice a_3 n_2 c_1,.slice a_4 n_3 c_2,.pointer a_5,n_4],n_8] fun b=>.rt (.tuple #[b,.int .i64 0]))) (fun vs=>.popB vs fun b vs=>.pi vs fun n vs=>.unNil vs (.rt (.tuple #[b,n]))) fun x x_1=>.fail)))))
theorem w3302(x_0p:Option Addr)(x_0n x_0c:Nat)(x_1p:Option Addr)(x_1n x_1c:Nat)(x_2 x_3 x_4 x_5 x_6 x_7 x_8 x_9 x_10 x_11 x_12 x_13:Int)(x_14p:Option Addr)(x_14n x_14c:Nat)(one two item:Int):FX X 7 #[.agg #[.slice x_0p x_0n x_0c,.slice x_1p x_1n x_1c,x_2,x_3,x_4,x_5,x_6,x_7,x_8,x_9,x_10,x_11,x_12,x_13,.slice x_14p x_14n x_14c],one,two,item] h A (n3302 x_0p x_0n x_0c x_1p x_1n x_1c x_2 x_3 x_4 x_5 x_6 x_7 x_8 x_9 x_10 x_11 x_12 x_13 x_14p x_14n x_14c one two item):=fk [4,12,14] [] [⟨9,[(8,.bool),(9,.int .i64)],[4,12,14],[],[],[]⟩] Tryz.f7
def n3303(x_0p:Option Addr)(x_0n x_0c:Nat)(x_1p:Option Addr)(x_1n x_1c:Nat)(x_2 x_3 x_4 x_5 x_6 x_7 x_8 x_9 x_10 x_11 x_12 x_13:Int)(x_14p:Option Addr)(x_14n x_14c:Nat)(app:Int):T:=.sem false (Instr.buildSlice 29 1 #[(0,.int .i64 app)]) fun v=>.unS v fun a n c=>.cT 28 #[.agg #[.slice x_0p x_0n x_0c,.slice x_1p x_1n x_1c,x_2,x_3,x_4,x_5,x_6,x_7,x_8,x_9,x_10,x_11,x_12,x_13,.slice x_14p x_14n x_14c],.slice a n c] fun v vs=>.unP v fun a=>.unCons vs fun v vs=>.ui v fun n=>.unNil vs (bif n != 0 then .rt (.tuple #[.int .i64 0,false,n]) else .cT 32 #[.pointer a,app] fun v vs=>.unAgg v fun l=>.popStr l fun s vs_1=>.popS vs_1 fun a n c vs_2=>.popS vs_2 fun a n c vs_3=>.popS vs_3 fun a n c vs_4=>.popP vs_4 fun a vs_5=>.pi vs_5 fun n vs_6=>.unNil vs_6 (.unCons vs fun v vs=>.unB v fun b=>.unNil vs (bif b then .rt (.tuple #[n,true,.int .i64 0]) else .rt (.tuple #[.int .i64 0,false,.int .i64 0]))))
theorem w3303(x_0p:Option Addr)(x_0n x_0c:Nat)(x_1p:Option Addr)(x_1n x_1c:Nat)(x_2 x_3 x_4 x_5 x_6 x_7 x_8 x_9 x_10 x_11 x_12 x_13:Int)(x_14p:Option Addr)(x_14n x_14c:Nat)(app:Int):FX X 8 #[.agg #[.slice x_0p x_0n x_0c,.slice x_1p x_1n x_1c,x_2,x_3,x_4,x_5,x_6,x_7,x_8,x_9,x_10,x_11,x_12,x_13,.slice x_14p x_14n x_14c],app] h A (n3303 x_0p x_0n x_0c x_1p x_1n x_1c x_2 x_3 x_4 x_5 x_6 x_7 x_8 x_9 x_10 x_11 x_12 x_13 x_14p x_14n x_14c app):=fk [2,8] [] [] Tryz.f8
def n3304(u_0 u_1 u_2 u_3:Int)(u_4p:Option Addr)(u_4n u_4c:Nat)(u_5p:Option Addr)(u_5n u_5c:Nat)(u_6p:Option Addr)(u_6n u_6c:Nat)(land day item:Int):T:=.cT 20 #[.agg #[u_0,u_1,u_2,u_3,.slice u_4p u_4n u_4c,.slice u_5p u_5n u_5c,.slice u_6p u_6n u_6c],land,day] fun v vs=>.unS v fun a n c=>.unCons vs fun v vs=>.ui v fun n_1=>.unNil vs (bif n_1 != 0 then .rt (.tuple #[false,false]) else bif (↑n:Int) != u_0 then .rt (.tuple #[false,false]) else .need (0<=item/\item<(↑n:Int)) (.someA a fun a=>.li (a.add (item.toNat*1)) fun n=>.rt (.tuple #[.bool (n==1),true])))
theorem w3304(u_0 u_1 u_2 u_3:Int)(u_4p:Option Addr)(u_4n u_4c:Nat)(u_5p:Option Addr)(u_5n u_5c:Nat)(u_6p:Option Addr)(u_6n u_6c:Nat)(land day item:Int):FX X 9 #[.agg #[u_0,u_1,u_2,u_3,.slice u_4p u_4n u_4c,.slice u_5p u_5n u_5c,.slice u_6p u_6n u_6c],land,day,item] h A (n3304 u_0 u_1 u_2 u_3 u_4p u_4n u_4c u_5p u_5n u_5c u_6p u_6n u_6c land day item):=fk [4] [] [] Tryz.f9
end
end Go.Y
section
namespace Go.TM
def filedOf(y:DFile)(a:DApp):Int×Bool:=match fileD y a with
 | some (d,true)=>(d,true)
 | _=>(0,false)
end Go.TM
namespace Go.Y
attribute [local irreducible] T.wp CV FWK
theorem c3308w{h:LH}{b m:Nat}{f:DFileC}{y:DFile}(o:OffR h.get b m f y)(ok:DFileOk y){i:Nat}{a:DApp}(ha:y.apps[i]?=some a) :
  FW XL Tryz.prog 32 #[.pointer (some ⟨b,0,none⟩),i] h fun r h'=>Kp m h h'/\OffR h'.get b m f y/\∃ (s:ByteArray) (p1:Option Addr) (n1 c1:Nat) (p2:Option Addr) (n2 c2:Nat) (p3:Option Addr) (n3 c3:Nat) (z:Option Addr) (d:Int) (k:Bool),
   r=.tuple #[.agg #[.string s,.slice p1 n1 c1,.slice p2 n2 c2,.slice p3 n3 c3,.pointer z,.int .i64 d],.bool k]/\DayOk d/\filedOf y a=(if k then (d,true) else (0,false)) /\
   (k=true->∃ g,AppR h'.get g a/\.agg #[.string s,.slice p1 n1 c1,.slice p2 n2 c2,.slice p3 n3 c3,.pointer z,.int .i64 d]=filedV g a b d):=by
 refine FW.mono (c3308 o ok ha) ?_;rintro r h' ⟨kp,o',⟨hn,rfl⟩|⟨d,k,g,hf,hd,ar,rfl⟩⟩
 ·refine⟨kp,o',_,_,_,_,_,_,_,_,_,_,_,_,_,rfl,⟨by omega,by omega⟩,?_,fun e=>by cases e⟩;unfold filedOf;rw[hn];rfl
 ·refine⟨kp,o',_,_,_,_,_,_,_,_,_,_,_,_,_,rfl,hd,?_,fun _=>⟨g,ar,rfl⟩⟩;unfold filedOf;rw[hf];cases k<;>rfl
theorem und29':Tryz.prog.underlying 29=some (.slice 3):=und50
theorem und134f:Tryz.prog.underlying 131=some (.slice 45):=by kernel_rfl
theorem inf31':(Tryz.prog.info? 45).map (fun i=>(i.size,i.bytes,i.zero))=some (1,8,some (.int .i64 0)):=by kernel_rfl
theorem sl_two{h:Cells}{r:Nat}{x y:Int}(h0:h.cell? (Addr.add ⟨r,0,none⟩ 0)=some (.int .i64 x))(h1:h.cell? (Addr.add ⟨r,0,none⟩ 1)=some (.int .i64 y)):Sl IntE 1 h (some ⟨r,0,none⟩) 2 [x,y]:=by
 refine⟨rfl,by simp,fun i v hv=>⟨_,rfl,?_⟩⟩
 match i,hv with
 | 0,hv=>cases hv;exact h0
 | 1,hv =>
  cases hv;unfold IntE;rw[add_plain]at h1 ⊢;rw[add_plain];exact h1
theorem sl_one{h:Cells}{r:Nat}{x:Int}(h0:h.cell? (Addr.add ⟨r,0,none⟩ 0)=some (.int .i64 x)):Sl IntE 1 h (some ⟨r,0,none⟩) 1 [x]:=by
 refine⟨rfl,by simp,fun i v hv=>⟨_,rfl,?_⟩⟩
 match i,hv with
 | 0,hv=>cases hv;exact h0
theorem off_of{h h1:LH}(le1:h.le h1){f:DFileC}{y:DFile}(hr:DFileR h.get f y)(hl:Lens h.get){b m:Nat}(hb:h.get b=none)(hm:h.get m=none)(hne:b≠m)(hbk:h1.get b=some (true,.cells (offCells f y m 0).toArray 129 (0,0)))(hh:HoldsO startV h1.get m fun _=>none):OffR h1.get b m f y :=
 ⟨hbk,hne,⟨_,hh,fun _ _ e=>by cases e⟩,h.get,le1.1,hb,hm,hr,hl⟩
theorem c3303{h:LH}{f:DFileC}{y:DFile}(hr:DFileR h.get f y)(ok:DFileOk y)(hl:Lens h.get){i:Nat}{a:DApp}(ha:y.apps[i]?=some a) :
  FW XL Tryz.prog 8 #[dfV f y,i] h fun r h'=>h.le h'/\DayOk (filedOf y a).1/\r=.tuple #[.int .i64 (filedOf y a).1,.bool (filedOf y a).2,.int .i64 0]:=by
 have hil:i<y.apps.length:=(List.getElem?_eq_some_iff.1 ha).1;refine w3303 _ _ _ _ _ _ _ _ _ _ _ _ _ _ _ _ _ _ _ _ _ _ XL_ok ?_;unfold n3303;refine t_buildR [.int .i64 i] und29' inf3 (by decide) (by decide) (by kernel_rfl) fun r h1 le1 _ hc=>?_;refine gZ ?_;refine t_gr (c3307 (hr.le le1.1) ok (sl_one (hc 0 _ rfl)) (fun v hv=>by simp at hv;subst hv;omega)) ?_;rintro _ h2 le2 ⟨b,m,rfl,hb,hm,hne,hbk,hh⟩;have o2:=off_of le2 (hr.le le1.1) (hl.le le1.1) hb hm hne hbk hh;refine yF ?_;refine t_call (c3308w o2 ok ha) ?_;rintro _ h3 ⟨kp3,o3,s,p1,n1,c1,p2,n2,c2,p3,n3,c3,z,d,k,rfl,hd,he,-⟩;have le3:h.le h3:=LH.le_trans le1 (kp3.le_of le2 hm);rw[he];refine yI (fun e=>?_) (fun e=>?_)
 ·subst e;exact t_ret ⟨le3,hd,rfl⟩
 ·subst e;exact t_ret ⟨le3,⟨by simp,by simp⟩,rfl⟩
theorem c3302{h:LH}{f:DFileC}{y:DFile}(hr:DFileR h.get f y)(ok:DFileOk y)(hl:Lens h.get){i j:Nat}{a a2:DApp}(ha:y.apps[i]?=some a)(ha2:y.apps[j]?=some a2){item:Int}(hit:0<=item/\item<y.items) :
  FW XL Tryz.prog 7 #[dfV f y,i,j,item] h fun r h'=>h.le h'/\∃ t:Bool,r=.tuple #[.bool t,.int .i64 0]/\(t=true->(filedOf y a2).2=true):=by
 have hil:i<y.apps.length:=(List.getElem?_eq_some_iff.1 ha).1;have hjl:j<y.apps.length:=(List.getElem?_eq_some_iff.1 ha2).1;have hits:=ok.items;refine w3302 _ _ _ _ _ _ _ _ _ _ _ _ _ _ _ _ _ _ _ _ _ _ _ _ XL_ok ?_;unfold n3302;refine t_buildR [.int .i64 i,.int .i64 j] und29' inf3 (by decide) (by decide) (by kernel_rfl) fun r h1 le1 _ hc=>?_;refine gZ ?_;refine t_gr (c3307 (hr.le le1.1) ok (sl_two (hc 0 _ rfl) (hc 1 _ rfl)) (fun v hv=>by simp at hv;rcases hv with rfl|rfl<;>omega)) ?_;rintro _ h2 le2 ⟨b,m,rfl,hb,hm,hne,hbk,hh⟩;have o2:=off_of le2 (hr.le le1.1) (hl.le le1.1) hb hm hne hbk hh;refine gZ ?_;rw[wrap_id (by omega) (by omega)];refine t_pu (c1102 _ _ _) ?_;have e1:isIn item 0 (y.items-1)=true:=by unfold isIn;simp;omega
 rw[e1];refine gZ ?_;refine t_pu (c1076 _ _) ?_;refine gZ ?_;refine t_buildR [.int .i64 0,.int .i64 0] und134f inf31' (by decide) (by decide) (by kernel_rfl) fun r2 h2' le2' _ hc2=>?_;refine gZ ?_;refine t_pu (c1074 (sl_two (hc2 0 _ rfl) (hc2 1 _ rfl))) ?_;have o2':=o2.le le2'.1;have le02:=LH.le_trans le2 le2';refine yF ?_;refine t_call (c3308w o2' ok ha) ?_;rintro _ h3 ⟨kp3,o3,s,p1,n1,c1,p2,n2,c2,p3,n3,c3,z,d,k,rfl,hd,he,hk⟩;refine gZ ?_;refine t_call (c3308w o3 ok ha2) ?_;rintro _ h4 ⟨kp4,o4,s',p1',n1',c1',p2',n2',c2',p3',n3',c3',z',d',k',rfl,hd',he',hk'⟩;have kp24:=kp3.trans kp4;have fin:∀ {h5:LH},Kp m h2' h5->h.le h5:=fun k5=>LH.le_trans le1 (k5.le_of le02 hm);refine gZ ?_;refine t_blk (fun vs h'=>vs=[.bool false,.int .i64 0]/\Kp m h2' h'/\OffR h'.get b m f y/\Rd h3.get h'.get/\k=true/\k'=true) ?_ ?_
 ·refine t_cond (fun e2=>?_) (fun e2=>?_)
  ·refine gZ ?_;exact t_ret ⟨fin kp24,_,rfl,fun e=>by cases e⟩
  ·have ek:k=true:=by simpa using e2
   subst ek;refine t_cond (fun e3=>?_) (fun e3=>?_)
   ·refine gZ ?_;exact t_ret ⟨fin kp24,_,rfl,fun e=>by cases e⟩
   ·have ek':k'=true:=by simpa using e3
    subst ek';obtain⟨g,ar,ev⟩:=hk rfl;obtain⟨g',ar',ev'⟩:=hk' rfl;rw[ev,ev'];refine t_call (c3309 o4 ok (List.mem_of_getElem? ha) (ar.rd (kp4.rd o3.isMap)) hd item) ?_;rintro _ h5 ⟨⟨v,rfl⟩,kp5,o5⟩;refine gZ ?_;refine t_call (c3309 o5 ok (List.mem_of_getElem? ha2) (ar'.rd (kp5.rd o4.isMap)) hd' item) ?_;rintro _ h6 ⟨⟨v',rfl⟩,kp6,o6⟩;have kp26:=kp24.trans (kp5.trans kp6);refine yJ (fun e4=>?_) (fun e4=>?_)
    ·refine gZ ?_;exact t_ret ⟨fin kp26,_,rfl,fun e=>by cases e⟩
    ·exact t_again ⟨rfl,kp26,o6,fun a v hv=>kp6.rd o5.isMap a v (kp5.rd o4.isMap a v (kp4.rd o3.isMap a v hv)),rfl,rfl⟩
 rintro vs h7 ⟨rfl,kp7,o7,rd7,rfl,rfl⟩;have hf:(filedOf y a2).2=true:=by rw[he'];rfl
 refine yJ (fun e4=>?_) (fun e4=>?_)
 ·exact t_ret ⟨fin kp7,_,rfl,fun _=>hf⟩
 ·obtain⟨g,ar,ev⟩:=hk rfl;rw[ev];have ar7:AppR h7.get g a:=ar.rd rd7;refine t_call (c3310 o7 ok (List.mem_of_getElem? ha) ar7 d') ?_;rintro _ h8 ⟨⟨t,rfl⟩,kp8,o8⟩;refine gZ ?_;exact t_ret ⟨fin (kp7.trans kp8),_,rfl,fun _=>hf⟩
end Go.Y
end

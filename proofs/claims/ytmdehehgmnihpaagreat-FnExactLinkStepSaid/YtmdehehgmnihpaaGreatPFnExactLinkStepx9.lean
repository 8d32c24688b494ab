import Derived.Test.YtmdehehgmnihpaaGreatPFnExactLinkStepx5
import Derived.Test.YtmdehehgmnihpaaGreatPFnExactLinkStepx8
namespace Go.Proofs.YtmdehehgmnihpaaGreat.PFnExactLinkStep
open Go.RowKit Go.Proofs.YtmdehehgmnihpaaGreatW.PrintWords Go.Proofs.YtmdehehgmnihpaaGreatW.PrintLast Go.Proofs.YtmdehehgmnihpaaGreatW.PrintMore
attribute [local go_sem] dM dL eu ek dn dm dJ dK
set_option maxHeartbeats 8000000
set_option maxRecDepth 100000
set_option linter.unusedVariables false
set_option linter.unusedSimpArgs false
def cK.f(k:Nat)(a0_0:Int)(l0_1:List (S108))(a0_2:Int)(a0_3:Int)(l0_4:List (List Int))(l0_5:List (List Int))(l0_6:List Int)(a1_0:Int)(a1_1:Int):Option (Bool):=((fQ.f k a0_0 l0_1 a0_2 a0_3 l0_4 l0_5 l0_6 1048576).bind fun t1=>(if t1<0 then (some true) else ((dZ.f k a0_0 l0_1 a0_2 a0_3 l0_4 l0_5 l0_6).bind fun ⟨t2,t3,t4,t5,t6,t7,t8⟩=>((dA.f a1_0 a1_1).bind fun ⟨t9,t10⟩=>((dX.f k t2 t3 t4 t5 t6 t7 t8 t9 t10).bind fun ⟨t11,t12,t13,t14,t15,t16,t17,t18⟩=>((dZ.f k a0_0 l0_1 a0_2 a0_3 l0_4 l0_5 l0_6).bind fun ⟨t19,t20,t21,t22,t23,t24,t25⟩=>((dA.f a1_0 a1_1).bind fun ⟨t26,t27⟩=>((dC.f k t19 t20 t21 t22 t23 t24 t25 t26 t27).bind fun ⟨t28,t29,t30,t31,t32,t33,t34,t35⟩=>((eG.f k t28 t29 t30 t31 t32 t33 t34 t11 t12 t13 t14 t15 t16 t17).bind fun t36=>(if t36=true then (if t35=t18 then ((dZ.f k a0_0 l0_1 a0_2 a0_3 l0_4 l0_5 l0_6).bind fun ⟨t37,t38,t39,t40,t41,t42,t43⟩=>((eG.f k t19 t20 t21 t22 t23 t24 t25 t37 t38 t39 t40 t41 t42 t43).bind fun t44=>(if t44=true then ((gy.f k t19 t20 t21 t22 t23 t24 t25 1).bind fun ⟨t45,t46,t47,t48,t49⟩=>(if t45<0 then (some false) else ((eG.f k t28 t29 t30 t31 t32 t33 t34 t11 t12 t13 t14 t15 t16 t17).bind fun t50=>(if t50=true then ((gy.f k t28 t29 t30 t31 t32 t33 t34 1).bind fun ⟨t51,t52,t53,t54,t55⟩=>((fE.f k t28 t52 t30 t31 t53 t54 t55 1).bind fun t56=>(if t56<0 then (some false) else (if t56=t51 then ((dZ.f k a0_0 l0_1 a0_2 a0_3 l0_4 l0_5 l0_6).bind fun ⟨t57,t58,t59,t60,t61,t62,t63⟩=>((dA.f a1_0 a1_1).bind fun ⟨t64,t65⟩=>((dC.f k t57 t58 t59 t60 t61 t62 t63 t64 t65).bind fun ⟨t66,t67,t68,t69,t70,t71,t72,t73⟩=>((eG.f k t66 t67 t68 t69 t70 t71 t72 t11 t12 t13 t14 t15 t16 t17).bind fun t74=>(if t74=true then (if t73=t18 then ((fE.f k t28 t52 t30 t31 t53 t54 t55 1).bind fun t75=>(if t75<0 then (some false) else (if t75=t51 then (some true) else (some false)))) else (some false)) else (some false)))))) else (some false))))) else (some false))))) else (some false)))) else (some false)) else (some false)))))))))))
theorem cK.calls(k:Nat)(a0_0:Int)(A0_1:Option Addr)(c0_1:Nat)(l0_1:List (S108))(a0_2:Int)(a0_3:Int)(A0_4:Option Addr)(c0_4:Nat)(l0_4:List (List Int))(A0_5:Option Addr)(c0_5:Nat)(l0_5:List (List Int))(A0_6:Option Addr)(c0_6:Nat)(l0_6:List Int)(a1_0:Int)(a1_1:Int)(r:Bool)(w:World)(hr0_1:Kd.C k108 w A0_1 l0_1.length l0_1)(hc0_1:l0_1.length≤c0_1)(hr0_4:Kd.C (Kd.slice 3 (Kd.int .i64)) w A0_4 l0_4.length l0_4)(hc0_4:l0_4.length≤c0_4)(hr0_5:Kd.C (Kd.slice 3 (Kd.int .i64)) w A0_5 l0_5.length l0_5)(hc0_5:l0_5.length≤c0_5)(hr0_6:Kd.C (Kd.int .i64) w A0_6 l0_6.length l0_6)(hc0_6:l0_6.length≤c0_6)(hrt:A_ (r=true))(h:cK.f k a0_0 l0_1 a0_2 a0_3 l0_4 l0_5 l0_6 a1_0 a1_1=some r) :
  Calls Tryz.prog 3 #[.agg #[.int .i64 a0_0,.slice A0_1 l0_1.length c0_1,.int .i64 a0_2,.int .i64 a0_3,.slice A0_4 l0_4.length c0_4,.slice A0_5 l0_5.length c0_5,.slice A0_6 l0_6.length c0_6],.agg #[.int .i64 a1_0,.int .i64 a1_1]] w fun e w'=>e=.returned (.bool r)∧Below w.heap.size w w':=by
 have HR0_1:=A_.mk hr0_1
 have HC0_1:=A_.mk hc0_1
 clear hr0_1 hc0_1
 have HR0_4:=A_.mk hr0_4
 have HC0_4:=A_.mk hc0_4
 clear hr0_4 hc0_4
 have HR0_5:=A_.mk hr0_5
 have HC0_5:=A_.mk hc0_5
 clear hr0_5 hc0_5
 have HR0_6:=A_.mk hr0_6
 have HC0_6:=A_.mk hc0_6
 clear hr0_6 hc0_6
 obtain rfl:=hrt.out
 clear hrt
 have HB:=A_.mk (Below.refl w.heap.size w)
 unfold cK.f at h
 have H:=h
 clear h
 replace H:=oa_ H
 obtain⟨t1,A3,H⟩:=H
 replace H:=A_.mk H
 have hu30:=Tryz.underlying30
 have hu32:=Tryz.underlying32
 have hu39:=Tryz.underlying39
 go_enter Tryz.func3,Tryz.ntmps3
 have HS:=A_.mk (Nat.le_refl w.heap.size)
 go_wp2_with (first|((with_reducible refine gd_ (N:=2) rfl ?_);refine by_ 2 (cs:=#[.int .i64 a0_0,.slice A0_1 l0_1.length c0_1,.int .i64 a0_2,.int .i64 a0_3,.slice A0_4 l0_4.length c0_4,.slice A0_5 l0_5.length c0_5,.slice A0_6 l0_6.length c0_6]) (t:=30) ?_;intro gb1_ hg w1_ hbox hb;replace HS:=aHg HS hg hbox;replace HB:=aHB HB hb;have BK1:=A_.mk hbox;clear hbox hb hg)|((with_reducible refine gd_ (N:=3) rfl ?_);refine by_ 3 (cs:=#[.int .i64 a1_0,.int .i64 a1_1]) (t:=32) ?_;intro gb2_ hg w2_ hbox hb;replace HS:=aHg HS hg hbox;replace BK1:=aBb BK1 hb;replace HB:=aHB HB hb;have BK2:=A_.mk hbox;clear hbox hb hg;have Q1:=aa BK1.out))
 refine(fQ.calls k a0_0 _ _ l0_1 a0_2 a0_3 _ _ l0_4 _ _ l0_5 _ _ l0_6 1048576 t1 _ (cb_ HR0_1 HB) HC0_1.out (cb_ HR0_4 HB) HC0_4.out (cb_ HR0_5 HB) HC0_5.out (cb_ HR0_6 HB) HC0_6.out A3.out).mono ?_
 rintro e w3_ ⟨rfl,hb⟩
 revert HS BK1 HB BK2
 refine aD hb ?_
 intro HS BK1 HB BK2
 clear hb  Q1
 have Q1:=aa BK1.out
 have Q2:=ak BK2.out
 replace H:=H.out
 by_cases hc1_:t1<0
 case pos =>
  rw [if_pos hc1_] at H
  have hc1_b0:=decide_eq_true hc1_
  replace hc1_:=A_.mk hc1_
  clear H
  go_wp2
  go_ret
  exact⟨rfl,HB.out⟩
 rw [if_neg hc1_] at H
 have hc1_b0:=decide_eq_false hc1_
 replace hc1_:=A_.mk hc1_
 replace H:=oa_ H
 obtain⟨⟨t2,t3,t4,t5,t6,t7,t8⟩,A4,H⟩:=H
 try dsimp only at H
 replace H:=oa_ H
 obtain⟨⟨t9,t10⟩,A5,H⟩:=H
 try dsimp only at H
 replace H:=oa_ H
 obtain⟨⟨t11,t12,t13,t14,t15,t16,t17,t18⟩,A6,H⟩:=H
 try dsimp only at H
 replace H:=oa_ H
 obtain⟨⟨t19,t20,t21,t22,t23,t24,t25⟩,A9,H⟩:=H
 try dsimp only at H
 replace H:=oa_ H
 obtain⟨⟨t26,t27⟩,A12,H⟩:=H
 try dsimp only at H
 replace H:=oa_ H
 obtain⟨⟨t28,t29,t30,t31,t32,t33,t34,t35⟩,A13,H⟩:=H
 try dsimp only at H
 replace H:=oa_ H
 obtain⟨t36,A16,H⟩:=H
 replace H:=A_.mk H
 go_wp2_with (fail)
 refine dN (n:=11) (S:=fun w'=>(w'.cell? ⟨gb1_,0,none⟩=some (.int .i64 a0_0)∧w'.cell? ⟨gb1_,1,none⟩=some (.slice A0_1 l0_1.length c0_1)∧w'.cell? ⟨gb1_,2,none⟩=some (.int .i64 a0_2)∧w'.cell? ⟨gb1_,3,none⟩=some (.int .i64 a0_3)∧w'.cell? ⟨gb1_,4,none⟩=some (.slice A0_4 l0_4.length c0_4)∧w'.cell? ⟨gb1_,5,none⟩=some (.slice A0_5 l0_5.length c0_5)∧w'.cell? ⟨gb1_,6,none⟩=some (.slice A0_6 l0_6.length c0_6))∧(w'.cell? ⟨gb2_,0,none⟩=some (.int .i64 a1_0)∧w'.cell? ⟨gb2_,1,none⟩=some (.int .i64 a1_1))) (ds:=[9]) #[F,F,F,F,F,F,F,F,F,F,F] (by kernel_rfl) rfl rfl ⟨aa BK1.out,ak BK2.out⟩ (fun hHeld=>?_)
 clear Q1 Q2
 have hb:=aV (Below.refl w3_.heap.size w3_)
 revert HS BK1 HB BK2
 refine aD hb ?_
 intro HS BK1 HB BK2
 clear hb
 generalize w3_.drew=w30d_ at BK1 BK2 HB HS hHeld ⊢
 refine tl_ (i:=0) (N:=some 22) #[T,F,F,F,F,F,F,F,F,F,F] rfl hHeld ?_
 refine tl_ (i:=2) (N:=some 24) #[T,F,T,F,F,F,F,F,F,F,F] rfl hHeld ?_
 refine mR (σ:=Value×Value×Value×Value×Value×Value×Value×Value×Nat×Nat×Nat) 2 #[T,T,T,T,T,T,T,T,T,F,F] (fun s_=>[(23,.agg #[.int .i64 t2,s_.1,.int .i64 t4,.int .i64 t5,s_.2.1,s_.2.2.1,s_.2.2.2.1]),(25,.agg #[.int .i64 t9,.int .i64 t10]),(26,.tuple #[.agg #[.int .i64 t11,s_.2.2.2.2.1,.int .i64 t13,.int .i64 t14,s_.2.2.2.2.2.1,s_.2.2.2.2.2.2.1,s_.2.2.2.2.2.2.2.1],.bool t18]),(21,.tuple #[.agg #[.int .i64 t11,s_.2.2.2.2.1,.int .i64 t13,.int .i64 t14,s_.2.2.2.2.2.1,s_.2.2.2.2.2.2.1,s_.2.2.2.2.2.2.2.1],.bool t18]),(27,.agg #[.int .i64 t11,s_.2.2.2.2.1,.int .i64 t13,.int .i64 t14,s_.2.2.2.2.2.1,s_.2.2.2.2.2.2.1,s_.2.2.2.2.2.2.2.1]),(28,.bool t18),(6,.pointer (some ⟨s_.2.2.2.2.2.2.2.2.1,0,none⟩))]) (fun s_ w'=>((w'.cell? ⟨gb1_,0,none⟩=some (.int .i64 a0_0)∧w'.cell? ⟨gb1_,1,none⟩=some (.slice A0_1 l0_1.length c0_1)∧w'.cell? ⟨gb1_,2,none⟩=some (.int .i64 a0_2)∧w'.cell? ⟨gb1_,3,none⟩=some (.int .i64 a0_3)∧w'.cell? ⟨gb1_,4,none⟩=some (.slice A0_4 l0_4.length c0_4)∧w'.cell? ⟨gb1_,5,none⟩=some (.slice A0_5 l0_5.length c0_5)∧w'.cell? ⟨gb1_,6,none⟩=some (.slice A0_6 l0_6.length c0_6))∧(w'.cell? ⟨gb2_,0,none⟩=some (.int .i64 a1_0)∧w'.cell? ⟨gb2_,1,none⟩=some (.int .i64 a1_1)))∧w'.heap[gb1_]?=some (.cells #[.int .i64 a0_0,.slice A0_1 l0_1.length c0_1,.int .i64 a0_2,.int .i64 a0_3,.slice A0_4 l0_4.length c0_4,.slice A0_5 l0_5.length c0_5,.slice A0_6 l0_6.length c0_6] 30 (0,0))∧w'.heap[gb2_]?=some (.cells #[.int .i64 a1_0,.int .i64 a1_1] 32 (0,0))∧Below w.heap.size w w'∧w30d_.heap.size≤w'.heap.size∧(w30d_.heap.size≤s_.2.2.2.2.2.2.2.2.2.1∧s_.2.2.2.2.2.2.2.2.2.1≤s_.2.2.2.2.2.2.2.2.2.2∧s_.2.2.2.2.2.2.2.2.2.2≤w'.heap.size)∧Kd.V k68 68 w' w.heap.size (fun k_=>(s_.2.2.2.2.2.2.2.2.2.1≤k_∧k_<s_.2.2.2.2.2.2.2.2.2.2)) s_.2.2.2.2.1 t12∧Kd.V (Kd.slice 3 (Kd.int .i64)) 28 w' w.heap.size (fun k_=>(s_.2.2.2.2.2.2.2.2.2.1≤k_∧k_<s_.2.2.2.2.2.2.2.2.2.2)) s_.2.2.2.2.2.1 t15∧Kd.V (Kd.slice 3 (Kd.int .i64)) 28 w' w.heap.size (fun k_=>(s_.2.2.2.2.2.2.2.2.2.1≤k_∧k_<s_.2.2.2.2.2.2.2.2.2.2)) s_.2.2.2.2.2.2.1 t16∧Kd.V (Kd.int .i64) 3 w' w.heap.size (fun k_=>(s_.2.2.2.2.2.2.2.2.2.1≤k_∧k_<s_.2.2.2.2.2.2.2.2.2.2)) s_.2.2.2.2.2.2.2.1 t17∧w'.heap[s_.2.2.2.2.2.2.2.2.1]?=some (.cells #[.int .i64 0,.slice none 0 0,.int .i64 0,.int .i64 0,.slice none 0 0,.slice none 0 0,.slice none 0 0] 39 (0,0))∧(w30d_.heap.size≤s_.2.2.2.2.2.2.2.2.1∧s_.2.2.2.2.2.2.2.2.1<w'.heap.size∧(s_.2.2.2.2.2.2.2.2.1<s_.2.2.2.2.2.2.2.2.2.1∨s_.2.2.2.2.2.2.2.2.2.2≤s_.2.2.2.2.2.2.2.2.1))) ?_ ?_
 rotate_left
 ·intro hCont
  refine jU (i:=1) (j:=8) (Ni:=some 23) (Nj:=some 6) #[T,T,T,F,F,F,F,F,F,F,F] #[T,F,T,F,F,F,F,F,T,F,F] rfl rfl rfl rfl (by kernel_rfl) (by decide) (by decide) (fun K hK=>?_) (fun K hK=>?_)
  ·skip
   refine gz_ Tryz.func8 #[.agg #[.int .i64 a0_0,.slice A0_1 l0_1.length c0_1,.int .i64 a0_2,.int .i64 a0_3,.slice A0_4 l0_4.length c0_4,.slice A0_5 l0_5.length c0_5,.slice A0_6 l0_6.length c0_6]] ?_
   with_reducible refine (dZ.calls k a0_0 _ _ l0_1 a0_2 a0_3 _ _ l0_4 _ _ l0_5 _ _ l0_6 t2 t3 t4 t5 t6 t7 t8 _ (cb_ HR0_1 HB) HC0_1.out (cb_ HR0_4 HB) HC0_4.out (cb_ HR0_5 HB) HC0_5.out (cb_ HR0_6 HB) HC0_6.out A4.out).mono ?_
   rintro e w4_ ⟨f4_,v0_,v1_,v2_,v3_,rfl,ho0_,ho1_,ho2_,ho3_,hb⟩
   refine⟨_,rfl,?_⟩
   replace HS:=aHs HS hb.size
   obtain⟨Ao4_0,co4_0,rfl,HO4_0⟩:=sSn ho0_ HB.out.size
   obtain⟨Ao4_1,co4_1,rfl,HO4_1⟩:=sSn ho1_ HB.out.size
   obtain⟨Ao4_2,co4_2,rfl,HO4_2⟩:=sSn ho2_ HB.out.size
   obtain⟨Ao4_3,co4_3,rfl,HO4_3⟩:=sRn ho3_ HB.out.size
   revert BK1 BK2 HB
   refine aD hb ?_
   intro BK1 BK2 HB
   clear hb ho0_ ho1_ ho2_ ho3_
   refine hK.out _ _ ⟨aa BK1.out,ak BK2.out⟩ (fun hHeld=>?_)
   clear hK K
   refine nm_ ?_
   refine jU (i:=3) (j:=8) (Ni:=some 25) (Nj:=some 6) #[T,T,T,T,F,F,F,F,F,F,F] #[T,T,T,F,F,F,F,F,T,F,F] rfl rfl rfl rfl (by kernel_rfl) (by decide) (by decide) (fun K hK=>?_) (fun K hK=>?_)
   ·skip
    refine gz_ Tryz.func9 #[.agg #[.int .i64 a1_0,.int .i64 a1_1]] ?_
    with_reducible refine (dA.calls a1_0 a1_1 t9 t10 _ A5.out).mono ?_
    rintro e w5_ ⟨rfl,hb⟩
    refine⟨_,rfl,?_⟩
    revert HS HO4_0 HO4_1 HO4_2 HO4_3 BK1 BK2 HB
    refine aD hb ?_
    intro HS HO4_0 HO4_1 HO4_2 HO4_3 BK1 BK2 HB
    clear hb 
    refine hK.out _ _ ⟨aa BK1.out,ak BK2.out⟩ (fun hHeld=>?_)
    clear hK K
    refine nm_ ?_
    refine jU (i:=4) (j:=8) (Ni:=some 26) (Nj:=some 6) #[T,T,T,T,T,F,F,F,F,F,F] #[T,T,T,T,F,F,F,F,T,F,F] rfl rfl rfl rfl (by kernel_rfl) (by decide) (by decide) (fun K hK=>?_) (fun K hK=>?_)
    ·skip
     refine gz_ Tryz.func7 #[.agg #[.int .i64 t2,.slice Ao4_0 t3.length co4_0,.int .i64 t4,.int .i64 t5,.slice Ao4_1 t6.length co4_1,.slice Ao4_2 t7.length co4_2,.slice Ao4_3 t8.length co4_3],.agg #[.int .i64 t9,.int .i64 t10]] ?_
     with_reducible refine (dX.calls k t2 _ _ t3 t4 t5 _ _ t6 _ _ t7 _ _ t8 t9 t10 t11 t12 t13 t14 t15 t16 t17 t18 _ (dV HO4_0) (dS HO4_0) (dV HO4_1) (dS HO4_1) (dV HO4_2) (dS HO4_2) (je HO4_3) (jB HO4_3) A6.out).mono ?_
     rintro e w6_ ⟨v0_,v1_,v2_,v3_,rfl,ho0_,ho1_,ho2_,ho3_,hb⟩
     refine⟨_,rfl,?_⟩
     replace HS:=aHs HS hb.size
     obtain⟨Ao6_0,co6_0,rfl,HO6_0⟩:=sVm ho0_ HB.out.size
     obtain⟨Ao6_1,co6_1,rfl,HO6_1⟩:=sVm ho1_ HB.out.size
     obtain⟨Ao6_2,co6_2,rfl,HO6_2⟩:=sVm ho2_ HB.out.size
     obtain⟨Ao6_3,co6_3,rfl,HO6_3⟩:=sVm ho3_ HB.out.size
     revert HO4_0 HO4_1 HO4_2 HO4_3 BK1 BK2 HB
     refine aD hb ?_
     intro HO4_0 HO4_1 HO4_2 HO4_3 BK1 BK2 HB
     clear hb ho0_ ho1_ ho2_ ho3_
     refine hK.out _ _ ⟨aa BK1.out,ak BK2.out⟩ (fun hHeld=>?_)
     clear hK K
     refine nm_ ?_
     refine pd_ (i:=5) (N:=some 21) #[T,T,T,T,T,T,F,F,F,F,F] rfl ?_
     refine pd_ (i:=6) (N:=some 27) #[T,T,T,T,T,T,T,F,F,F,F] rfl ?_
     refine pd_ (i:=7) (N:=some 28) #[T,T,T,T,T,T,T,T,F,F,F] rfl ?_
     refine on_ (i:=8) (N:=some 6) #[T,T,T,T,T,T,T,T,T,F,F] rfl (fun K hK=>?_)
     refine bo_ (N:=6) (cs:=#[.int .i64 0,.slice none 0 0,.int .i64 0,.int .i64 0,.slice none 0 0,.slice none 0 0,.slice none 0 0]) (t:=39) ?_
     intro gb7_ hg w7_ hbox hb
     replace HS:=aHg HS hg hbox
     revert HO6_0 HO6_1 HO6_2 HO6_3 HO4_0 HO4_1 HO4_2 HO4_3 BK1 BK2 HB
     refine aD hb ?_
     intro HO6_0 HO6_1 HO6_2 HO6_3 HO4_0 HO4_1 HO4_2 HO4_3 BK1 BK2 HB
     have BK7:=A_.mk hbox
     clear hbox hb hg
     refine hK.out _ _ ⟨aa BK1.out,ak BK2.out⟩ (fun hHeld=>?_)
     clear hK K
     refine nm_ ?_
     exact nj_ (hCont (.slice Ao4_0 t3.length co4_0,.slice Ao4_1 t6.length co4_1,.slice Ao4_2 t7.length co4_2,.slice Ao4_3 t8.length co4_3,.slice Ao6_0 t12.length co6_0,.slice Ao6_1 t15.length co6_1,.slice Ao6_2 t16.length co6_2,.slice Ao6_3 t17.length co6_3,gb7_,(w5_.heap.size),(w6_.heap.size)) _ ⟨hHeld,BK1.out,BK2.out,HB.out,(ho_ HS),(by have:=HS.out;(try dsimp only);omega),HO6_0.out,HO6_1.out,HO6_2.out,HO6_3.out,BK7.out,(by have:=HS.out;(try dsimp only);omega)⟩)
    ·skip
     refine bo_ (N:=6) (cs:=#[.int .i64 0,.slice none 0 0,.int .i64 0,.int .i64 0,.slice none 0 0,.slice none 0 0,.slice none 0 0]) (t:=39) ?_
     intro gb7_ hg w7_ hbox hb
     replace HS:=aHg HS hg hbox
     revert HO4_0 HO4_1 HO4_2 HO4_3 BK1 BK2 HB
     refine aD hb ?_
     intro HO4_0 HO4_1 HO4_2 HO4_3 BK1 BK2 HB
     have BK7:=A_.mk hbox
     clear hbox hb hg
     refine hK.out _ _ ⟨aa BK1.out,ak BK2.out⟩ (fun hHeld=>?_)
     clear hK K
     refine nm_ ?_
     refine on_ (i:=4) (N:=some 26) #[T,T,T,T,T,F,F,F,T,F,F] rfl (fun K hK=>?_)
     refine gz_ Tryz.func7 #[.agg #[.int .i64 t2,.slice Ao4_0 t3.length co4_0,.int .i64 t4,.int .i64 t5,.slice Ao4_1 t6.length co4_1,.slice Ao4_2 t7.length co4_2,.slice Ao4_3 t8.length co4_3],.agg #[.int .i64 t9,.int .i64 t10]] ?_
     with_reducible refine (dX.calls k t2 _ _ t3 t4 t5 _ _ t6 _ _ t7 _ _ t8 t9 t10 t11 t12 t13 t14 t15 t16 t17 t18 _ (dV HO4_0) (dS HO4_0) (dV HO4_1) (dS HO4_1) (dV HO4_2) (dS HO4_2) (je HO4_3) (jB HO4_3) A6.out).mono ?_
     rintro e w6_ ⟨v0_,v1_,v2_,v3_,rfl,ho0_,ho1_,ho2_,ho3_,hb⟩
     refine⟨_,rfl,?_⟩
     replace HS:=aHs HS hb.size
     obtain⟨Ao6_0,co6_0,rfl,HO6_0⟩:=sVm ho0_ HB.out.size
     obtain⟨Ao6_1,co6_1,rfl,HO6_1⟩:=sVm ho1_ HB.out.size
     obtain⟨Ao6_2,co6_2,rfl,HO6_2⟩:=sVm ho2_ HB.out.size
     obtain⟨Ao6_3,co6_3,rfl,HO6_3⟩:=sVm ho3_ HB.out.size
     revert HO4_0 HO4_1 HO4_2 HO4_3 BK1 BK2 HB BK7
     refine aD hb ?_
     intro HO4_0 HO4_1 HO4_2 HO4_3 BK1 BK2 HB BK7
     clear hb ho0_ ho1_ ho2_ ho3_
     refine hK.out _ _ ⟨aa BK1.out,ak BK2.out⟩ (fun hHeld=>?_)
     clear hK K
     refine nm_ ?_
     refine pd_ (i:=5) (N:=some 21) #[T,T,T,T,T,T,F,F,T,F,F] rfl ?_
     refine pd_ (i:=6) (N:=some 27) #[T,T,T,T,T,T,T,F,T,F,F] rfl ?_
     refine pd_ (i:=7) (N:=some 28) #[T,T,T,T,T,T,T,T,T,F,F] rfl ?_
     exact nj_ (hCont (.slice Ao4_0 t3.length co4_0,.slice Ao4_1 t6.length co4_1,.slice Ao4_2 t7.length co4_2,.slice Ao4_3 t8.length co4_3,.slice Ao6_0 t12.length co6_0,.slice Ao6_1 t15.length co6_1,.slice Ao6_2 t16.length co6_2,.slice Ao6_3 t17.length co6_3,gb7_,(w7_.heap.size),(w6_.heap.size)) _ ⟨hHeld,BK1.out,BK2.out,HB.out,(ho_ HS),(by have:=HS.out;(try dsimp only);omega),HO6_0.out,HO6_1.out,HO6_2.out,HO6_3.out,BK7.out,(by have:=HS.out;(try dsimp only);omega)⟩)
   ·skip
    refine bo_ (N:=6) (cs:=#[.int .i64 0,.slice none 0 0,.int .i64 0,.int .i64 0,.slice none 0 0,.slice none 0 0,.slice none 0 0]) (t:=39) ?_
    intro gb7_ hg w7_ hbox hb
    replace HS:=aHg HS hg hbox
    revert HO4_0 HO4_1 HO4_2 HO4_3 BK1 BK2 HB
    refine aD hb ?_
    intro HO4_0 HO4_1 HO4_2 HO4_3 BK1 BK2 HB
    have BK7:=A_.mk hbox
    clear hbox hb hg
    refine hK.out _ _ ⟨aa BK1.out,ak BK2.out⟩ (fun hHeld=>?_)
    clear hK K
    refine nm_ ?_
    refine on_ (i:=3) (N:=some 25) #[T,T,T,T,F,F,F,F,T,F,F] rfl (fun K hK=>?_)
    refine gz_ Tryz.func9 #[.agg #[.int .i64 a1_0,.int .i64 a1_1]] ?_
    with_reducible refine (dA.calls a1_0 a1_1 t9 t10 _ A5.out).mono ?_
    rintro e w5_ ⟨rfl,hb⟩
    refine⟨_,rfl,?_⟩
    revert HS HO4_0 HO4_1 HO4_2 HO4_3 BK1 BK2 HB BK7
    refine aD hb ?_
    intro HS HO4_0 HO4_1 HO4_2 HO4_3 BK1 BK2 HB BK7
    clear hb 
    refine hK.out _ _ ⟨aa BK1.out,ak BK2.out⟩ (fun hHeld=>?_)
    clear hK K
    refine nm_ ?_
    refine on_ (i:=4) (N:=some 26) #[T,T,T,T,T,F,F,F,T,F,F] rfl (fun K hK=>?_)
    refine gz_ Tryz.func7 #[.agg #[.int .i64 t2,.slice Ao4_0 t3.length co4_0,.int .i64 t4,.int .i64 t5,.slice Ao4_1 t6.length co4_1,.slice Ao4_2 t7.length co4_2,.slice Ao4_3 t8.length co4_3],.agg #[.int .i64 t9,.int .i64 t10]] ?_
    with_reducible refine (dX.calls k t2 _ _ t3 t4 t5 _ _ t6 _ _ t7 _ _ t8 t9 t10 t11 t12 t13 t14 t15 t16 t17 t18 _ (dV HO4_0) (dS HO4_0) (dV HO4_1) (dS HO4_1) (dV HO4_2) (dS HO4_2) (je HO4_3) (jB HO4_3) A6.out).mono ?_
    rintro e w6_ ⟨v0_,v1_,v2_,v3_,rfl,ho0_,ho1_,ho2_,ho3_,hb⟩
    refine⟨_,rfl,?_⟩
    replace HS:=aHs HS hb.size
    obtain⟨Ao6_0,co6_0,rfl,HO6_0⟩:=sVm ho0_ HB.out.size
    obtain⟨Ao6_1,co6_1,rfl,HO6_1⟩:=sVm ho1_ HB.out.size
    obtain⟨Ao6_2,co6_2,rfl,HO6_2⟩:=sVm ho2_ HB.out.size
    obtain⟨Ao6_3,co6_3,rfl,HO6_3⟩:=sVm ho3_ HB.out.size
    revert HO4_0 HO4_1 HO4_2 HO4_3 BK1 BK2 HB BK7
    refine aD hb ?_
    intro HO4_0 HO4_1 HO4_2 HO4_3 BK1 BK2 HB BK7
    clear hb ho0_ ho1_ ho2_ ho3_
    refine hK.out _ _ ⟨aa BK1.out,ak BK2.out⟩ (fun hHeld=>?_)
    clear hK K
    refine nm_ ?_
    refine pd_ (i:=5) (N:=some 21) #[T,T,T,T,T,T,F,F,T,F,F] rfl ?_
    refine pd_ (i:=6) (N:=some 27) #[T,T,T,T,T,T,T,F,T,F,F] rfl ?_
    refine pd_ (i:=7) (N:=some 28) #[T,T,T,T,T,T,T,T,T,F,F] rfl ?_
    exact nj_ (hCont (.slice Ao4_0 t3.length co4_0,.slice Ao4_1 t6.length co4_1,.slice Ao4_2 t7.length co4_2,.slice Ao4_3 t8.length co4_3,.slice Ao6_0 t12.length co6_0,.slice Ao6_1 t15.length co6_1,.slice Ao6_2 t16.length co6_2,.slice Ao6_3 t17.length co6_3,gb7_,(w5_.heap.size),(w6_.heap.size)) _ ⟨hHeld,BK1.out,BK2.out,HB.out,(ho_ HS),(by have:=HS.out;(try dsimp only);omega),HO6_0.out,HO6_1.out,HO6_2.out,HO6_3.out,BK7.out,(by have:=HS.out;(try dsimp only);omega)⟩)
  ·skip
   refine bo_ (N:=6) (cs:=#[.int .i64 0,.slice none 0 0,.int .i64 0,.int .i64 0,.slice none 0 0,.slice none 0 0,.slice none 0 0]) (t:=39) ?_
   intro gb7_ hg w7_ hbox hb
   replace HS:=aHg HS hg hbox
   revert BK1 BK2 HB
   refine aD hb ?_
   intro BK1 BK2 HB
   have BK7:=A_.mk hbox
   clear hbox hb hg
   refine hK.out _ _ ⟨aa BK1.out,ak BK2.out⟩ (fun hHeld=>?_)
   clear hK K
   refine nm_ ?_
   refine on_ (i:=1) (N:=some 23) #[T,T,T,F,F,F,F,F,T,F,F] rfl (fun K hK=>?_)
   refine gz_ Tryz.func8 #[.agg #[.int .i64 a0_0,.slice A0_1 l0_1.length c0_1,.int .i64 a0_2,.int .i64 a0_3,.slice A0_4 l0_4.length c0_4,.slice A0_5 l0_5.length c0_5,.slice A0_6 l0_6.length c0_6]] ?_
   with_reducible refine (dZ.calls k a0_0 _ _ l0_1 a0_2 a0_3 _ _ l0_4 _ _ l0_5 _ _ l0_6 t2 t3 t4 t5 t6 t7 t8 _ (cb_ HR0_1 HB) HC0_1.out (cb_ HR0_4 HB) HC0_4.out (cb_ HR0_5 HB) HC0_5.out (cb_ HR0_6 HB) HC0_6.out A4.out).mono ?_
   rintro e w4_ ⟨f4_,v0_,v1_,v2_,v3_,rfl,ho0_,ho1_,ho2_,ho3_,hb⟩
   refine⟨_,rfl,?_⟩
   replace HS:=aHs HS hb.size
   obtain⟨Ao4_0,co4_0,rfl,HO4_0⟩:=sSn ho0_ HB.out.size
   obtain⟨Ao4_1,co4_1,rfl,HO4_1⟩:=sSn ho1_ HB.out.size
   obtain⟨Ao4_2,co4_2,rfl,HO4_2⟩:=sSn ho2_ HB.out.size
   obtain⟨Ao4_3,co4_3,rfl,HO4_3⟩:=sRn ho3_ HB.out.size
   revert BK1 BK2 HB BK7
   refine aD hb ?_
   intro BK1 BK2 HB BK7
   clear hb ho0_ ho1_ ho2_ ho3_
   refine hK.out _ _ ⟨aa BK1.out,ak BK2.out⟩ (fun hHeld=>?_)
   clear hK K
   refine nm_ ?_
   refine on_ (i:=3) (N:=some 25) #[T,T,T,T,F,F,F,F,T,F,F] rfl (fun K hK=>?_)
   refine gz_ Tryz.func9 #[.agg #[.int .i64 a1_0,.int .i64 a1_1]] ?_
   with_reducible refine (dA.calls a1_0 a1_1 t9 t10 _ A5.out).mono ?_
   rintro e w5_ ⟨rfl,hb⟩
   refine⟨_,rfl,?_⟩
   revert HS HO4_0 HO4_1 HO4_2 HO4_3 BK1 BK2 HB BK7
   refine aD hb ?_
   intro HS HO4_0 HO4_1 HO4_2 HO4_3 BK1 BK2 HB BK7
   clear hb 
   refine hK.out _ _ ⟨aa BK1.out,ak BK2.out⟩ (fun hHeld=>?_)
   clear hK K
   refine nm_ ?_
   refine on_ (i:=4) (N:=some 26) #[T,T,T,T,T,F,F,F,T,F,F] rfl (fun K hK=>?_)
   refine gz_ Tryz.func7 #[.agg #[.int .i64 t2,.slice Ao4_0 t3.length co4_0,.int .i64 t4,.int .i64 t5,.slice Ao4_1 t6.length co4_1,.slice Ao4_2 t7.length co4_2,.slice Ao4_3 t8.length co4_3],.agg #[.int .i64 t9,.int .i64 t10]] ?_
   with_reducible refine (dX.calls k t2 _ _ t3 t4 t5 _ _ t6 _ _ t7 _ _ t8 t9 t10 t11 t12 t13 t14 t15 t16 t17 t18 _ (dV HO4_0) (dS HO4_0) (dV HO4_1) (dS HO4_1) (dV HO4_2) (dS HO4_2) (je HO4_3) (jB HO4_3) A6.out).mono ?_
   rintro e w6_ ⟨v0_,v1_,v2_,v3_,rfl,ho0_,ho1_,ho2_,ho3_,hb⟩
   refine⟨_,rfl,?_⟩
   replace HS:=aHs HS hb.size
   obtain⟨Ao6_0,co6_0,rfl,HO6_0⟩:=sVm ho0_ HB.out.size
   obtain⟨Ao6_1,co6_1,rfl,HO6_1⟩:=sVm ho1_ HB.out.size
   obtain⟨Ao6_2,co6_2,rfl,HO6_2⟩:=sVm ho2_ HB.out.size
   obtain⟨Ao6_3,co6_3,rfl,HO6_3⟩:=sVm ho3_ HB.out.size
   revert HO4_0 HO4_1 HO4_2 HO4_3 BK1 BK2 HB BK7
   refine aD hb ?_
   intro HO4_0 HO4_1 HO4_2 HO4_3 BK1 BK2 HB BK7
   clear hb ho0_ ho1_ ho2_ ho3_
   refine hK.out _ _ ⟨aa BK1.out,ak BK2.out⟩ (fun hHeld=>?_)
   clear hK K
   refine nm_ ?_
   refine pd_ (i:=5) (N:=some 21) #[T,T,T,T,T,T,F,F,T,F,F] rfl ?_
   refine pd_ (i:=6) (N:=some 27) #[T,T,T,T,T,T,T,F,T,F,F] rfl ?_
   refine pd_ (i:=7) (N:=some 28) #[T,T,T,T,T,T,T,T,T,F,F] rfl ?_
   exact nj_ (hCont (.slice Ao4_0 t3.length co4_0,.slice Ao4_1 t6.length co4_1,.slice Ao4_2 t7.length co4_2,.slice Ao4_3 t8.length co4_3,.slice Ao6_0 t12.length co6_0,.slice Ao6_1 t15.length co6_1,.slice Ao6_2 t16.length co6_2,.slice Ao6_3 t17.length co6_3,gb7_,(w5_.heap.size),(w6_.heap.size)) _ ⟨hHeld,BK1.out,BK2.out,HB.out,(ho_ HS),(by have:=HS.out;(try dsimp only);omega),HO6_0.out,HO6_1.out,HO6_2.out,HO6_3.out,BK7.out,(by have:=HS.out;(try dsimp only);omega)⟩)
 rintro⟨z0_,z1_,z2_,z3_,z4_,z5_,z6_,z7_,gb7_,lo30j_,up30j_⟩ w30j_ ⟨hHeld,m0_,m1_,m2_,m3_,m4_,m5_,m6_,m7_,m8_,m9_,m10_⟩
 replace BK1:=A_.mk m0_
 replace BK2:=A_.mk m1_
 replace HB:=A_.mk m2_
 replace HS:=A_.mk (And.intro HS.out m3_)
 replace HS:=A_.mk (And.intro HS.out (show w30d_.heap.size≤lo30j_∧lo30j_≤up30j_∧up30j_≤w30j_.heap.size from m4_))
 obtain⟨Ao6_0,co6_0,ev_⟩:=Kd.gH m5_
 replace ev_:z4_=_:=ev_
 subst ev_
 have HO6_0:=A_.mk (show Kd.V k68 68 w30j_ w.heap.size (fun k_=>((lo30j_≤k_∧k_<up30j_))) (.slice Ao6_0 t12.length co6_0) t12 from m5_)
 obtain⟨Ao6_1,co6_1,ev_⟩:=Kd.gH m6_
 replace ev_:z5_=_:=ev_
 subst ev_
 have HO6_1:=A_.mk (show Kd.V (Kd.slice 3 (Kd.int .i64)) 28 w30j_ w.heap.size (fun k_=>((lo30j_≤k_∧k_<up30j_))) (.slice Ao6_1 t15.length co6_1) t15 from m6_)
 obtain⟨Ao6_2,co6_2,ev_⟩:=Kd.gH m7_
 replace ev_:z6_=_:=ev_
 subst ev_
 have HO6_2:=A_.mk (show Kd.V (Kd.slice 3 (Kd.int .i64)) 28 w30j_ w.heap.size (fun k_=>((lo30j_≤k_∧k_<up30j_))) (.slice Ao6_2 t16.length co6_2) t16 from m7_)
 obtain⟨Ao6_3,co6_3,ev_⟩:=Kd.gH m8_
 replace ev_:z7_=_:=ev_
 subst ev_
 have HO6_3:=A_.mk (show Kd.V (Kd.int .i64) 3 w30j_ w.heap.size (fun k_=>((lo30j_≤k_∧k_<up30j_))) (.slice Ao6_3 t17.length co6_3) t17 from m8_)
 have BK7:=A_.mk (show w30j_.heap[gb7_]?=some (.cells #[.int .i64 0,.slice none 0 0,.int .i64 0,.int .i64 0,.slice none 0 0,.slice none 0 0,.slice none 0 0] 39 (0,0)) from m9_)
 replace HS:=A_.mk (And.intro HS.out (show w30d_.heap.size≤gb7_∧gb7_<w30j_.heap.size∧(gb7_<lo30j_∨up30j_≤gb7_) from m10_))
 clear m0_ m1_ m2_ m3_ m4_ m5_ m6_ m7_ m8_ m9_ m10_
 refine lD (a':=?_) ?_ ?_
 rotate_left
 ·simp only [putAll,Act.put,List.setIfInBounds_toArray,List.set_cons_zero,List.set_cons_succ]
  rfl
 refine gG (i:=9) (N:=none) #[T,T,T,T,T,T,T,T,T,T,F] rfl rfl (by kernel_rfl) (by decide) (fun K hK=>?_)
 have Q1:=aa BK1.out
 have Q2:=ak BK2.out
 have Q7:=aa BK7.out
 obtain⟨qf0,qf1,qf2,qf3,qf4,qf5,qf6⟩:=gM BK7
 obtain⟨w8_,hw⟩:=lw_ ((iR w30j_ gb7_ (.int .i64 t11) (.slice Ao6_0 t12.length co6_0) (.int .i64 t13) (.int .i64 t14) (.slice Ao6_1 t15.length co6_1) (.slice Ao6_2 t16.length co6_2) (.slice Ao6_3 t17.length co6_3)))
 refine fT (w1:=w8_) (by rfl) rfl ?_ ?_
 ·rw [hw];go_simp;try rfl
 refine hK.out _ _ ?_
 clear hK K qf0 qf1 qf2 qf3 qf4 qf5 qf6 Q1 Q2 Q7
 obtain⟨hbx,hkp,hbb⟩:=iV hw BK7 HB (ho_ HS)
 clear hw
 revert BK1 BK2 HO6_0 HO6_1 HO6_2 HO6_3
 refine bC hkp HS ?_
 intro BK1 BK2 HO6_0 HO6_1 HO6_2 HO6_3
 replace BK7:=A_.mk hbx
 replace HB:=A_.mk hbb
 replace HS:=aHs HS hkp.1
 clear hkp hbb hbx
 refine pd_ (i:=10) (N:=some 7) #[T,T,T,T,T,T,T,T,T,T,T] rfl ?_
 refine fA (by kernel_rfl) ?_
 have Q1:=aa BK1.out
 go_wp2_with (first|((with_reducible refine gc_ (f:=8) rfl ?_);refine gl_ (some 30) Tryz.func8 #[.agg #[.int .i64 a0_0,.slice A0_1 l0_1.length c0_1,.int .i64 a0_2,.int .i64 a0_3,.slice A0_4 l0_4.length c0_4,.slice A0_5 l0_5.length c0_5,.slice A0_6 l0_6.length c0_6]] ?_;(with_reducible refine (dZ.calls k a0_0 _ _ l0_1 a0_2 a0_3 _ _ l0_4 _ _ l0_5 _ _ l0_6 t19 t20 t21 t22 t23 t24 t25 _ (cb_ HR0_1 HB) HC0_1.out (cb_ HR0_4 HB) HC0_4.out (cb_ HR0_5 HB) HC0_5.out (cb_ HR0_6 HB) HC0_6.out A9.out).mono ?_);rintro e w9_ ⟨f9_,v0_,v1_,v2_,v3_,rfl,ho0_,ho1_,ho2_,ho3_,hb⟩;refine⟨_,rfl,?_⟩;replace HS:=aHs HS hb.size;obtain⟨Ao9_0,co9_0,rfl,HO9_0⟩:=sSn ho0_ HB.out.size;obtain⟨Ao9_1,co9_1,rfl,HO9_1⟩:=sSn ho1_ HB.out.size;obtain⟨Ao9_2,co9_2,rfl,HO9_2⟩:=sSn ho2_ HB.out.size;obtain⟨Ao9_3,co9_3,rfl,HO9_3⟩:=sRn ho3_ HB.out.size;revert BK1 BK2 HO6_0 HO6_1 HO6_2 HO6_3 BK7 HB;refine aD hb ?_;intro BK1 BK2 HO6_0 HO6_1 HO6_2 HO6_3 BK7 HB;clear hb ho0_ ho1_ ho2_ ho3_ Q1)|((with_reducible refine gd_ (N:=8) rfl ?_);refine by_ 8 (cs:=#[.int .i64 0,.slice none 0 0,.int .i64 0,.int .i64 0,.slice none 0 0,.slice none 0 0,.slice none 0 0]) (t:=39) ?_;intro gb10_ hg w10_ hbox hb;replace HS:=aHg HS hg hbox;revert HO9_0 HO9_1 HO9_2 HO9_3 BK1 BK2 HO6_0 HO6_1 HO6_2 HO6_3 BK7 HB;refine aD hb ?_;intro HO9_0 HO9_1 HO9_2 HO9_3 BK1 BK2 HO6_0 HO6_1 HO6_2 HO6_3 BK7 HB;have BK10:=A_.mk hbox;clear hbox hb hg;have Q10:=aa BK10.out)|((with_reducible refine ae (t:=39) (p:=8) rfl ?_);obtain⟨qf0,qf1,qf2,qf3,qf4,qf5,qf6⟩:=gM BK10;refine so_ (w1:=(iR w10_ gb10_ (.int .i64 t19) (.slice Ao9_0 t20.length co9_0) (.int .i64 t21) (.int .i64 t22) (.slice Ao9_1 t23.length co9_1) (.slice Ao9_2 t24.length co9_2) (.slice Ao9_3 t25.length co9_3))) ?_;intro w11_ hw;clear qf0 qf1 qf2 qf3 qf4 qf5 qf6;obtain⟨hbx,hkp,hbb⟩:=iV hw BK10 HB (ho_ HS);clear hw;revert HO9_0 HO9_1 HO9_2 HO9_3 BK1 BK2 HO6_0 HO6_1 HO6_2 HO6_3 BK7;refine bC hkp HS ?_;intro HO9_0 HO9_1 HO9_2 HO9_3 BK1 BK2 HO6_0 HO6_1 HO6_2 HO6_3 BK7;replace BK10:=A_.mk hbx;replace HB:=A_.mk hbb;replace HS:=aHs HS hkp.1;clear hkp hbb hbx Q10))
 refine dN (n:=10) (S:=fun w'=>(w'.cell? ⟨gb2_,0,none⟩=some (.int .i64 a1_0)∧w'.cell? ⟨gb2_,1,none⟩=some (.int .i64 a1_1))∧(w'.cell? ⟨gb10_,0,none⟩=some (.int .i64 t19)∧w'.cell? ⟨gb10_,1,none⟩=some (.slice Ao9_0 t20.length co9_0)∧w'.cell? ⟨gb10_,2,none⟩=some (.int .i64 t21)∧w'.cell? ⟨gb10_,3,none⟩=some (.int .i64 t22)∧w'.cell? ⟨gb10_,4,none⟩=some (.slice Ao9_1 t23.length co9_1)∧w'.cell? ⟨gb10_,5,none⟩=some (.slice Ao9_2 t24.length co9_2)∧w'.cell? ⟨gb10_,6,none⟩=some (.slice Ao9_3 t25.length co9_3))) (ds:=[8]) #[F,F,F,F,F,F,F,F,F,F] (by kernel_rfl) rfl rfl ⟨ak BK2.out,aa BK10.out⟩ (fun hHeld=>?_)
 have hb:=aV (Below.refl w11_.heap.size w11_)
 revert HO9_0 HO9_1 HO9_2 HO9_3 BK1 BK2 HO6_0 HO6_1 HO6_2 HO6_3 BK7 BK10 HB HS
 refine aD hb ?_
 intro HO9_0 HO9_1 HO9_2 HO9_3 BK1 BK2 HO6_0 HO6_1 HO6_2 HO6_3 BK7 BK10 HB HS
 clear hb
 generalize w11_.drew=w31d_ at HO6_0 HO6_1 HO6_2 HO6_3 HO9_0 HO9_1 HO9_2 HO9_3 BK1 BK2 BK7 BK10 HB HS hHeld ⊢
 refine tl_ (i:=0) (N:=some 32) #[T,F,F,F,F,F,F,F,F,F] rfl hHeld ?_
 refine tl_ (i:=1) (N:=some 33) #[T,T,F,F,F,F,F,F,F,F] rfl hHeld ?_
 refine mR (σ:=Value×Value×Value×Value×Nat×Nat×Nat×(Nat→Nat)) 2 #[T,T,T,T,T,T,T,T,F,F] (fun s_=>[(34,.agg #[.int .i64 t26,.int .i64 t27]),(35,.tuple #[.agg #[.int .i64 t28,s_.1,.int .i64 t30,.int .i64 t31,s_.2.1,s_.2.2.1,s_.2.2.2.1],.bool t35]),(31,.tuple #[.agg #[.int .i64 t28,s_.1,.int .i64 t30,.int .i64 t31,s_.2.1,s_.2.2.1,s_.2.2.2.1],.bool t35]),(36,.agg #[.int .i64 t28,s_.1,.int .i64 t30,.int .i64 t31,s_.2.1,s_.2.2.1,s_.2.2.2.1]),(37,.bool t35),(9,.pointer (some ⟨s_.2.2.2.2.1,0,none⟩))]) (fun s_ w'=>((w'.cell? ⟨gb2_,0,none⟩=some (.int .i64 a1_0)∧w'.cell? ⟨gb2_,1,none⟩=some (.int .i64 a1_1))∧(w'.cell? ⟨gb10_,0,none⟩=some (.int .i64 t19)∧w'.cell? ⟨gb10_,1,none⟩=some (.slice Ao9_0 t20.length co9_0)∧w'.cell? ⟨gb10_,2,none⟩=some (.int .i64 t21)∧w'.cell? ⟨gb10_,3,none⟩=some (.int .i64 t22)∧w'.cell? ⟨gb10_,4,none⟩=some (.slice Ao9_1 t23.length co9_1)∧w'.cell? ⟨gb10_,5,none⟩=some (.slice Ao9_2 t24.length co9_2)∧w'.cell? ⟨gb10_,6,none⟩=some (.slice Ao9_3 t25.length co9_3)))∧Kd.V k68 68 w' w.heap.size (fun k_=>((lo30j_≤k_∧k_<up30j_))) (.slice Ao6_0 t12.length co6_0) t12∧Kd.V (Kd.slice 3 (Kd.int .i64)) 28 w' w.heap.size (fun k_=>((lo30j_≤k_∧k_<up30j_))) (.slice Ao6_1 t15.length co6_1) t15∧Kd.V (Kd.slice 3 (Kd.int .i64)) 28 w' w.heap.size (fun k_=>((lo30j_≤k_∧k_<up30j_))) (.slice Ao6_2 t16.length co6_2) t16∧Kd.V (Kd.int .i64) 3 w' w.heap.size (fun k_=>((lo30j_≤k_∧k_<up30j_))) (.slice Ao6_3 t17.length co6_3) t17∧Kd.S k68 68 w' w.heap.size (fun k_=>((w8_.heap.size≤k_∧k_<w9_.heap.size)∧f9_ k_=0)) (.slice Ao9_0 t20.length co9_0) t20∧Kd.S (Kd.slice 3 (Kd.int .i64)) 28 w' w.heap.size (fun k_=>((w8_.heap.size≤k_∧k_<w9_.heap.size)∧f9_ k_=1)) (.slice Ao9_1 t23.length co9_1) t23∧Kd.S (Kd.slice 3 (Kd.int .i64)) 28 w' w.heap.size (fun k_=>((w8_.heap.size≤k_∧k_<w9_.heap.size)∧f9_ k_=2)) (.slice Ao9_2 t24.length co9_2) t24∧Kd.R (Kd.int .i64) 3 w' w.heap.size (fun k_=>((w8_.heap.size≤k_∧k_<w9_.heap.size)∧f9_ k_=3)) (.slice Ao9_3 t25.length co9_3) t25∧w'.heap[gb1_]?=some (.cells #[.int .i64 a0_0,.slice A0_1 l0_1.length c0_1,.int .i64 a0_2,.int .i64 a0_3,.slice A0_4 l0_4.length c0_4,.slice A0_5 l0_5.length c0_5,.slice A0_6 l0_6.length c0_6] 30 (0,0))∧w'.heap[gb2_]?=some (.cells #[.int .i64 a1_0,.int .i64 a1_1] 32 (0,0))∧w'.heap[gb7_]?=some (.cells #[.int .i64 t11,.slice Ao6_0 t12.length co6_0,.int .i64 t13,.int .i64 t14,.slice Ao6_1 t15.length co6_1,.slice Ao6_2 t16.length co6_2,.slice Ao6_3 t17.length co6_3] 39 (0,0))∧w'.heap[gb10_]?=some (.cells #[.int .i64 t19,.slice Ao9_0 t20.length co9_0,.int .i64 t21,.int .i64 t22,.slice Ao9_1 t23.length co9_1,.slice Ao9_2 t24.length co9_2,.slice Ao9_3 t25.length co9_3] 39 (0,0))∧Below w.heap.size w w'∧w31d_.heap.size≤w'.heap.size∧(w31d_.heap.size≤s_.2.2.2.2.2.1∧s_.2.2.2.2.2.1≤s_.2.2.2.2.2.2.1∧s_.2.2.2.2.2.2.1≤w'.heap.size)∧Kd.S k68 68 w' w.heap.size (fun k_=>(s_.2.2.2.2.2.1≤k_∧k_<s_.2.2.2.2.2.2.1)∧s_.2.2.2.2.2.2.2 k_=0) s_.1 t29∧Kd.S (Kd.slice 3 (Kd.int .i64)) 28 w' w.heap.size (fun k_=>(s_.2.2.2.2.2.1≤k_∧k_<s_.2.2.2.2.2.2.1)∧s_.2.2.2.2.2.2.2 k_=1) s_.2.1 t32∧Kd.S (Kd.slice 3 (Kd.int .i64)) 28 w' w.heap.size (fun k_=>(s_.2.2.2.2.2.1≤k_∧k_<s_.2.2.2.2.2.2.1)∧s_.2.2.2.2.2.2.2 k_=2) s_.2.2.1 t33∧Kd.R (Kd.int .i64) 3 w' w.heap.size (fun k_=>(s_.2.2.2.2.2.1≤k_∧k_<s_.2.2.2.2.2.2.1)∧s_.2.2.2.2.2.2.2 k_=3) s_.2.2.2.1 t34∧w'.heap[s_.2.2.2.2.1]?=some (.cells #[.int .i64 0,.slice none 0 0,.int .i64 0,.int .i64 0,.slice none 0 0,.slice none 0 0,.slice none 0 0] 39 (0,0))∧(w31d_.heap.size≤s_.2.2.2.2.1∧s_.2.2.2.2.1<w'.heap.size∧(s_.2.2.2.2.1<s_.2.2.2.2.2.1∨s_.2.2.2.2.2.2.1≤s_.2.2.2.2.1))) ?_ ?_
 rotate_left
 ·intro hCont
  refine jU (i:=2) (j:=7) (Ni:=some 34) (Nj:=some 9) #[T,T,T,F,F,F,F,F,F,F] #[T,T,F,F,F,F,F,T,F,F] rfl rfl rfl rfl (by kernel_rfl) (by decide) (by decide) (fun K hK=>?_) (fun K hK=>?_)
  ·skip
   refine gz_ Tryz.func9 #[.agg #[.int .i64 a1_0,.int .i64 a1_1]] ?_
   with_reducible refine (dA.calls a1_0 a1_1 t26 t27 _ A12.out).mono ?_
   rintro e w12_ ⟨rfl,hb⟩
   refine⟨_,rfl,?_⟩
   revert HO6_0 HO6_1 HO6_2 HO6_3 HO9_0 HO9_1 HO9_2 HO9_3 BK1 BK2 BK7 BK10 HB HS
   refine aD hb ?_
   intro HO6_0 HO6_1 HO6_2 HO6_3 HO9_0 HO9_1 HO9_2 HO9_3 BK1 BK2 BK7 BK10 HB HS
   clear hb 
   refine hK.out _ _ ⟨ak BK2.out,aa BK10.out⟩ (fun hHeld=>?_)
   clear hK K
   refine nm_ ?_
   refine jU (i:=3) (j:=7) (Ni:=some 35) (Nj:=some 9) #[T,T,T,T,F,F,F,F,F,F] #[T,T,T,F,F,F,F,T,F,F] rfl rfl rfl rfl (by kernel_rfl) (by decide) (by decide) (fun K hK=>?_) (fun K hK=>?_)
   ·skip
    refine gz_ Tryz.func10 #[.agg #[.int .i64 t19,.slice Ao9_0 t20.length co9_0,.int .i64 t21,.int .i64 t22,.slice Ao9_1 t23.length co9_1,.slice Ao9_2 t24.length co9_2,.slice Ao9_3 t25.length co9_3],.agg #[.int .i64 t26,.int .i64 t27]] ?_
    with_reducible refine (dC.calls k t19 _ _ t20 t21 t22 _ _ t23 _ _ t24 _ _ t25 t26 t27 t28 t29 t30 t31 t32 t33 t34 t35 _ (dV HO9_0) (dS HO9_0) (dV HO9_1) (dS HO9_1) (dV HO9_2) (dS HO9_2) (je HO9_3) (jB HO9_3) A13.out).mono ?_
    rintro e w13_ ⟨f13_,v0_,v1_,v2_,v3_,rfl,ho0_,ho1_,ho2_,ho3_,hb⟩
    refine⟨_,rfl,?_⟩
    replace HS:=aHs HS hb.size
    obtain⟨Ao13_0,co13_0,rfl,HO13_0⟩:=sSn ho0_ HB.out.size
    obtain⟨Ao13_1,co13_1,rfl,HO13_1⟩:=sSn ho1_ HB.out.size
    obtain⟨Ao13_2,co13_2,rfl,HO13_2⟩:=sSn ho2_ HB.out.size
    obtain⟨Ao13_3,co13_3,rfl,HO13_3⟩:=sRn ho3_ HB.out.size
    revert HO6_0 HO6_1 HO6_2 HO6_3 HO9_0 HO9_1 HO9_2 HO9_3 BK1 BK2 BK7 BK10 HB
    refine aD hb ?_
    intro HO6_0 HO6_1 HO6_2 HO6_3 HO9_0 HO9_1 HO9_2 HO9_3 BK1 BK2 BK7 BK10 HB
    clear hb ho0_ ho1_ ho2_ ho3_
    refine hK.out _ _ ⟨ak BK2.out,aa BK10.out⟩ (fun hHeld=>?_)
    clear hK K
    refine nm_ ?_
    refine pd_ (i:=4) (N:=some 31) #[T,T,T,T,T,F,F,F,F,F] rfl ?_
    refine pd_ (i:=5) (N:=some 36) #[T,T,T,T,T,T,F,F,F,F] rfl ?_
    refine pd_ (i:=6) (N:=some 37) #[T,T,T,T,T,T,T,F,F,F] rfl ?_
    refine on_ (i:=7) (N:=some 9) #[T,T,T,T,T,T,T,T,F,F] rfl (fun K hK=>?_)
    refine bo_ (N:=9) (cs:=#[.int .i64 0,.slice none 0 0,.int .i64 0,.int .i64 0,.slice none 0 0,.slice none 0 0,.slice none 0 0]) (t:=39) ?_
    intro gb14_ hg w14_ hbox hb
    replace HS:=aHg HS hg hbox
    revert HO13_0 HO13_1 HO13_2 HO13_3 HO6_0 HO6_1 HO6_2 HO6_3 HO9_0 HO9_1 HO9_2 HO9_3 BK1 BK2 BK7 BK10 HB
    refine aD hb ?_
    intro HO13_0 HO13_1 HO13_2 HO13_3 HO6_0 HO6_1 HO6_2 HO6_3 HO9_0 HO9_1 HO9_2 HO9_3 BK1 BK2 BK7 BK10 HB
    have BK14:=A_.mk hbox
    clear hbox hb hg
    refine hK.out _ _ ⟨ak BK2.out,aa BK10.out⟩ (fun hHeld=>?_)
    clear hK K
    refine nm_ ?_
    exact nj_ (hCont (.slice Ao13_0 t29.length co13_0,.slice Ao13_1 t32.length co13_1,.slice Ao13_2 t33.length co13_2,.slice Ao13_3 t34.length co13_3,gb14_,(w12_.heap.size),(w13_.heap.size),f13_) _ ⟨hHeld,HO6_0.out,HO6_1.out,HO6_2.out,HO6_3.out,HO9_0.out,HO9_1.out,HO9_2.out,HO9_3.out,BK1.out,BK2.out,BK7.out,BK10.out,HB.out,(ho_ HS),(by have:=HS.out;(try dsimp only);omega),HO13_0.out,HO13_1.out,HO13_2.out,HO13_3.out,BK14.out,(by have:=HS.out;(try dsimp only);omega)⟩)
   ·skip
    refine bo_ (N:=9) (cs:=#[.int .i64 0,.slice none 0 0,.int .i64 0,.int .i64 0,.slice none 0 0,.slice none 0 0,.slice none 0 0]) (t:=39) ?_
    intro gb14_ hg w14_ hbox hb
    replace HS:=aHg HS hg hbox
    revert HO6_0 HO6_1 HO6_2 HO6_3 HO9_0 HO9_1 HO9_2 HO9_3 BK1 BK2 BK7 BK10 HB
    refine aD hb ?_
    intro HO6_0 HO6_1 HO6_2 HO6_3 HO9_0 HO9_1 HO9_2 HO9_3 BK1 BK2 BK7 BK10 HB
    have BK14:=A_.mk hbox
    clear hbox hb hg
    refine hK.out _ _ ⟨ak BK2.out,aa BK10.out⟩ (fun hHeld=>?_)
    clear hK K
    refine nm_ ?_
    refine on_ (i:=3) (N:=some 35) #[T,T,T,T,F,F,F,T,F,F] rfl (fun K hK=>?_)
    refine gz_ Tryz.func10 #[.agg #[.int .i64 t19,.slice Ao9_0 t20.length co9_0,.int .i64 t21,.int .i64 t22,.slice Ao9_1 t23.length co9_1,.slice Ao9_2 t24.length co9_2,.slice Ao9_3 t25.length co9_3],.agg #[.int .i64 t26,.int .i64 t27]] ?_
    with_reducible refine (dC.calls k t19 _ _ t20 t21 t22 _ _ t23 _ _ t24 _ _ t25 t26 t27 t28 t29 t30 t31 t32 t33 t34 t35 _ (dV HO9_0) (dS HO9_0) (dV HO9_1) (dS HO9_1) (dV HO9_2) (dS HO9_2) (je HO9_3) (jB HO9_3) A13.out).mono ?_
    rintro e w13_ ⟨f13_,v0_,v1_,v2_,v3_,rfl,ho0_,ho1_,ho2_,ho3_,hb⟩
    refine⟨_,rfl,?_⟩
    replace HS:=aHs HS hb.size
    obtain⟨Ao13_0,co13_0,rfl,HO13_0⟩:=sSn ho0_ HB.out.size
    obtain⟨Ao13_1,co13_1,rfl,HO13_1⟩:=sSn ho1_ HB.out.size
    obtain⟨Ao13_2,co13_2,rfl,HO13_2⟩:=sSn ho2_ HB.out.size
    obtain⟨Ao13_3,co13_3,rfl,HO13_3⟩:=sRn ho3_ HB.out.size
    revert HO6_0 HO6_1 HO6_2 HO6_3 HO9_0 HO9_1 HO9_2 HO9_3 BK1 BK2 BK7 BK10 HB BK14
    refine aD hb ?_
    intro HO6_0 HO6_1 HO6_2 HO6_3 HO9_0 HO9_1 HO9_2 HO9_3 BK1 BK2 BK7 BK10 HB BK14
    clear hb ho0_ ho1_ ho2_ ho3_
    refine hK.out _ _ ⟨ak BK2.out,aa BK10.out⟩ (fun hHeld=>?_)
    clear hK K
    refine nm_ ?_
    refine pd_ (i:=4) (N:=some 31) #[T,T,T,T,T,F,F,T,F,F] rfl ?_
    refine pd_ (i:=5) (N:=some 36) #[T,T,T,T,T,T,F,T,F,F] rfl ?_
    refine pd_ (i:=6) (N:=some 37) #[T,T,T,T,T,T,T,T,F,F] rfl ?_
    exact nj_ (hCont (.slice Ao13_0 t29.length co13_0,.slice Ao13_1 t32.length co13_1,.slice Ao13_2 t33.length co13_2,.slice Ao13_3 t34.length co13_3,gb14_,(w14_.heap.size),(w13_.heap.size),f13_) _ ⟨hHeld,HO6_0.out,HO6_1.out,HO6_2.out,HO6_3.out,HO9_0.out,HO9_1.out,HO9_2.out,HO9_3.out,BK1.out,BK2.out,BK7.out,BK10.out,HB.out,(ho_ HS),(by have:=HS.out;(try dsimp only);omega),HO13_0.out,HO13_1.out,HO13_2.out,HO13_3.out,BK14.out,(by have:=HS.out;(try dsimp only);omega)⟩)
  ·skip
   refine bo_ (N:=9) (cs:=#[.int .i64 0,.slice none 0 0,.int .i64 0,.int .i64 0,.slice none 0 0,.slice none 0 0,.slice none 0 0]) (t:=39) ?_
   intro gb14_ hg w14_ hbox hb
   replace HS:=aHg HS hg hbox
   revert HO6_0 HO6_1 HO6_2 HO6_3 HO9_0 HO9_1 HO9_2 HO9_3 BK1 BK2 BK7 BK10 HB
   refine aD hb ?_
   intro HO6_0 HO6_1 HO6_2 HO6_3 HO9_0 HO9_1 HO9_2 HO9_3 BK1 BK2 BK7 BK10 HB
   have BK14:=A_.mk hbox
   clear hbox hb hg
   refine hK.out _ _ ⟨ak BK2.out,aa BK10.out⟩ (fun hHeld=>?_)
   clear hK K
   refine nm_ ?_
   refine on_ (i:=2) (N:=some 34) #[T,T,T,F,F,F,F,T,F,F] rfl (fun K hK=>?_)
   refine gz_ Tryz.func9 #[.agg #[.int .i64 a1_0,.int .i64 a1_1]] ?_
   with_reducible refine (dA.calls a1_0 a1_1 t26 t27 _ A12.out).mono ?_
   rintro e w12_ ⟨rfl,hb⟩
   refine⟨_,rfl,?_⟩
   revert HS HO6_0 HO6_1 HO6_2 HO6_3 HO9_0 HO9_1 HO9_2 HO9_3 BK1 BK2 BK7 BK10 HB BK14
   refine aD hb ?_
   intro HS HO6_0 HO6_1 HO6_2 HO6_3 HO9_0 HO9_1 HO9_2 HO9_3 BK1 BK2 BK7 BK10 HB BK14
   clear hb 
   refine hK.out _ _ ⟨ak BK2.out,aa BK10.out⟩ (fun hHeld=>?_)
   clear hK K
   refine nm_ ?_
   refine on_ (i:=3) (N:=some 35) #[T,T,T,T,F,F,F,T,F,F] rfl (fun K hK=>?_)
   refine gz_ Tryz.func10 #[.agg #[.int .i64 t19,.slice Ao9_0 t20.length co9_0,.int .i64 t21,.int .i64 t22,.slice Ao9_1 t23.length co9_1,.slice Ao9_2 t24.length co9_2,.slice Ao9_3 t25.length co9_3],.agg #[.int .i64 t26,.int .i64 t27]] ?_
   with_reducible refine (dC.calls k t19 _ _ t20 t21 t22 _ _ t23 _ _ t24 _ _ t25 t26 t27 t28 t29 t30 t31 t32 t33 t34 t35 _ (dV HO9_0) (dS HO9_0) (dV HO9_1) (dS HO9_1) (dV HO9_2) (dS HO9_2) (je HO9_3) (jB HO9_3) A13.out).mono ?_
   rintro e w13_ ⟨f13_,v0_,v1_,v2_,v3_,rfl,ho0_,ho1_,ho2_,ho3_,hb⟩
   refine⟨_,rfl,?_⟩
   replace HS:=aHs HS hb.size
   obtain⟨Ao13_0,co13_0,rfl,HO13_0⟩:=sSn ho0_ HB.out.size
   obtain⟨Ao13_1,co13_1,rfl,HO13_1⟩:=sSn ho1_ HB.out.size
   obtain⟨Ao13_2,co13_2,rfl,HO13_2⟩:=sSn ho2_ HB.out.size
   obtain⟨Ao13_3,co13_3,rfl,HO13_3⟩:=sRn ho3_ HB.out.size
   revert HO6_0 HO6_1 HO6_2 HO6_3 HO9_0 HO9_1 HO9_2 HO9_3 BK1 BK2 BK7 BK10 HB BK14
   refine aD hb ?_
   intro HO6_0 HO6_1 HO6_2 HO6_3 HO9_0 HO9_1 HO9_2 HO9_3 BK1 BK2 BK7 BK10 HB BK14
   clear hb ho0_ ho1_ ho2_ ho3_
   refine hK.out _ _ ⟨ak BK2.out,aa BK10.out⟩ (fun hHeld=>?_)
   clear hK K
   refine nm_ ?_
   refine pd_ (i:=4) (N:=some 31) #[T,T,T,T,T,F,F,T,F,F] rfl ?_
   refine pd_ (i:=5) (N:=some 36) #[T,T,T,T,T,T,F,T,F,F] rfl ?_
   refine pd_ (i:=6) (N:=some 37) #[T,T,T,T,T,T,T,T,F,F] rfl ?_
   exact nj_ (hCont (.slice Ao13_0 t29.length co13_0,.slice Ao13_1 t32.length co13_1,.slice Ao13_2 t33.length co13_2,.slice Ao13_3 t34.length co13_3,gb14_,(w12_.heap.size),(w13_.heap.size),f13_) _ ⟨hHeld,HO6_0.out,HO6_1.out,HO6_2.out,HO6_3.out,HO9_0.out,HO9_1.out,HO9_2.out,HO9_3.out,BK1.out,BK2.out,BK7.out,BK10.out,HB.out,(ho_ HS),(by have:=HS.out;(try dsimp only);omega),HO13_0.out,HO13_1.out,HO13_2.out,HO13_3.out,BK14.out,(by have:=HS.out;(try dsimp only);omega)⟩)
 rintro⟨z0_,z1_,z2_,z3_,gb14_,lo31j_,up31j_,f13_⟩ w31j_ ⟨hHeld,m0_,m1_,m2_,m3_,m4_,m5_,m6_,m7_,m8_,m9_,m10_,m11_,m12_,m13_,m14_,m15_,m16_,m17_,m18_,m19_,m20_⟩
 replace HO6_0:=A_.mk m0_
 replace HO6_1:=A_.mk m1_
 replace HO6_2:=A_.mk m2_
 replace HO6_3:=A_.mk m3_
 replace HO9_0:=A_.mk m4_
 replace HO9_1:=A_.mk m5_
 replace HO9_2:=A_.mk m6_
 replace HO9_3:=A_.mk m7_
 replace BK1:=A_.mk m8_
 replace BK2:=A_.mk m9_
 replace BK7:=A_.mk m10_
 replace BK10:=A_.mk m11_
 replace HB:=A_.mk m12_
 replace HS:=A_.mk (And.intro HS.out m13_)
 replace HS:=A_.mk (And.intro HS.out (show w31d_.heap.size≤lo31j_∧lo31j_≤up31j_∧up31j_≤w31j_.heap.size from m14_))
 obtain⟨Ao13_0,co13_0,ev_⟩:=Kd.dx m15_
 replace ev_:z0_=_:=ev_
 subst ev_
 have HO13_0:=A_.mk (show Kd.S k68 68 w31j_ w.heap.size (fun k_=>((lo31j_≤k_∧k_<up31j_)∧f13_ k_=0)) (.slice Ao13_0 t29.length co13_0) t29 from m15_)
 obtain⟨Ao13_1,co13_1,ev_⟩:=Kd.dx m16_
 replace ev_:z1_=_:=ev_
 subst ev_
 have HO13_1:=A_.mk (show Kd.S (Kd.slice 3 (Kd.int .i64)) 28 w31j_ w.heap.size (fun k_=>((lo31j_≤k_∧k_<up31j_)∧f13_ k_=1)) (.slice Ao13_1 t32.length co13_1) t32 from m16_)
 obtain⟨Ao13_2,co13_2,ev_⟩:=Kd.dx m17_
 replace ev_:z2_=_:=ev_
 subst ev_
 have HO13_2:=A_.mk (show Kd.S (Kd.slice 3 (Kd.int .i64)) 28 w31j_ w.heap.size (fun k_=>((lo31j_≤k_∧k_<up31j_)∧f13_ k_=2)) (.slice Ao13_2 t33.length co13_2) t33 from m17_)
 obtain⟨Ao13_3,co13_3,ev_⟩:=Kd.aX m18_
 replace ev_:z3_=_:=ev_
 subst ev_
 have HO13_3:=A_.mk (show Kd.R (Kd.int .i64) 3 w31j_ w.heap.size (fun k_=>((lo31j_≤k_∧k_<up31j_)∧f13_ k_=3)) (.slice Ao13_3 t34.length co13_3) t34 from m18_)
 have BK14:=A_.mk (show w31j_.heap[gb14_]?=some (.cells #[.int .i64 0,.slice none 0 0,.int .i64 0,.int .i64 0,.slice none 0 0,.slice none 0 0,.slice none 0 0] 39 (0,0)) from m19_)
 replace HS:=A_.mk (And.intro HS.out (show w31d_.heap.size≤gb14_∧gb14_<w31j_.heap.size∧(gb14_<lo31j_∨up31j_≤gb14_) from m20_))
 clear m0_ m1_ m2_ m3_ m4_ m5_ m6_ m7_ m8_ m9_ m10_ m11_ m12_ m13_ m14_ m15_ m16_ m17_ m18_ m19_ m20_
 refine lD (a':=?_) ?_ ?_
 rotate_left
 ·simp only [putAll,Act.put,List.setIfInBounds_toArray,List.set_cons_zero,List.set_cons_succ]
  rfl
 refine gG (i:=8) (N:=none) #[T,T,T,T,T,T,T,T,T,F] rfl rfl (by kernel_rfl) (by decide) (fun K hK=>?_)
 have Q1:=aa BK1.out
 have Q2:=ak BK2.out
 have Q7:=aa BK7.out
 have Q10:=aa BK10.out
 have Q14:=aa BK14.out
 obtain⟨qf0,qf1,qf2,qf3,qf4,qf5,qf6⟩:=gM BK14
 obtain⟨w15_,hw⟩:=lw_ ((iR w31j_ gb14_ (.int .i64 t28) (.slice Ao13_0 t29.length co13_0) (.int .i64 t30) (.int .i64 t31) (.slice Ao13_1 t32.length co13_1) (.slice Ao13_2 t33.length co13_2) (.slice Ao13_3 t34.length co13_3)))
 refine fT (w1:=w15_) (by rfl) rfl ?_ ?_
 ·rw [hw];go_simp;try rfl
 refine hK.out _ _ ?_
 clear hK K qf0 qf1 qf2 qf3 qf4 qf5 qf6 Q1 Q2 Q7 Q10 Q14
 obtain⟨hbx,hkp,hbb⟩:=iV hw BK14 HB (ho_ HS)
 clear hw
 revert HO6_0 HO6_1 HO6_2 HO6_3 HO9_0 HO9_1 HO9_2 HO9_3 BK1 BK2 BK7 BK10 HO13_0 HO13_1 HO13_2 HO13_3
 refine bC hkp HS ?_
 intro HO6_0 HO6_1 HO6_2 HO6_3 HO9_0 HO9_1 HO9_2 HO9_3 BK1 BK2 BK7 BK10 HO13_0 HO13_1 HO13_2 HO13_3
 replace BK14:=A_.mk hbx
 replace HB:=A_.mk hbb
 replace HS:=aHs HS hkp.1
 clear hkp hbb hbx
 refine pd_ (i:=9) (N:=some 10) #[T,T,T,T,T,T,T,T,T,T] rfl ?_
 refine fA (by kernel_rfl) ?_
 have Q7:=aa BK7.out
 have Q14:=aa BK14.out
 go_wp2_with (fail)
 refine(eG.calls k t28 _ _ t29 t30 t31 _ _ t32 _ _ t33 _ _ t34 t11 _ _ t12 t13 t14 _ _ t15 _ _ t16 _ _ t17 t36 _ (dV HO13_0) (dS HO13_0) (dV HO13_1) (dS HO13_1) (dV HO13_2) (dS HO13_2) (je HO13_3) (jB HO13_3) (lY HO6_0) (lX HO6_0) (lY HO6_1) (lX HO6_1) (lY HO6_2) (lX HO6_2) (lY HO6_3) (lX HO6_3) A16.out).mono ?_
 rintro e w16_ ⟨rfl,hb⟩
 revert HO6_0 HO6_1 HO6_2 HO6_3 HO9_0 HO9_1 HO9_2 HO9_3 BK1 BK2 BK7 BK10 HO13_0 HO13_1 HO13_2 HO13_3 BK14 HB HS
 refine aD hb ?_
 intro HO6_0 HO6_1 HO6_2 HO6_3 HO9_0 HO9_1 HO9_2 HO9_3 BK1 BK2 BK7 BK10 HO13_0 HO13_1 HO13_2 HO13_3 BK14 HB HS
 clear hb  Q7 Q14
 have Q1:=aa BK1.out
 have Q2:=ak BK2.out
 have Q7:=aa BK7.out
 have Q10:=aa BK10.out
 have Q14:=aa BK14.out
 replace H:=H.out
 by_cases hc2_:t36=true
 case neg =>
  rw [if_neg hc2_] at H
  replace hc2_:=eq_false_of_ne_true hc2_
  subst hc2_
  exact absurd H (by simp)
 rw [if_pos hc2_] at H
 subst hc2_
 by_cases hc3_:t35=t18
 case neg =>
  rw [if_neg hc3_] at H
  have hc3_b0:=beq_eq_false_iff_ne.mpr hc3_
  have hc3_b1:=bne_iff_ne.mpr hc3_
  replace hc3_:=A_.mk hc3_
  exact absurd H (by simp)
 rw [if_pos hc3_] at H
 have hc3_b0:=beq_iff_eq.mpr hc3_
 have hc3_b1:=bne_eq_false_iff_eq.mpr hc3_
 replace hc3_:=A_.mk hc3_
 replace H:=oa_ H
 obtain⟨⟨t37,t38,t39,t40,t41,t42,t43⟩,A17,H⟩:=H
 try dsimp only at H
 replace H:=oa_ H
 obtain⟨t44,A18,H⟩:=H
 replace H:=A_.mk H
 go_wp2_with (fail)
 refine dN (n:=5) (S:=fun w'=>(w'.cell? ⟨gb1_,0,none⟩=some (.int .i64 a0_0)∧w'.cell? ⟨gb1_,1,none⟩=some (.slice A0_1 l0_1.length c0_1)∧w'.cell? ⟨gb1_,2,none⟩=some (.int .i64 a0_2)∧w'.cell? ⟨gb1_,3,none⟩=some (.int .i64 a0_3)∧w'.cell? ⟨gb1_,4,none⟩=some (.slice A0_4 l0_4.length c0_4)∧w'.cell? ⟨gb1_,5,none⟩=some (.slice A0_5 l0_5.length c0_5)∧w'.cell? ⟨gb1_,6,none⟩=some (.slice A0_6 l0_6.length c0_6))∧(w'.cell? ⟨gb10_,0,none⟩=some (.int .i64 t19)∧w'.cell? ⟨gb10_,1,none⟩=some (.slice Ao9_0 t20.length co9_0)∧w'.cell? ⟨gb10_,2,none⟩=some (.int .i64 t21)∧w'.cell? ⟨gb10_,3,none⟩=some (.int .i64 t22)∧w'.cell? ⟨gb10_,4,none⟩=some (.slice Ao9_1 t23.length co9_1)∧w'.cell? ⟨gb10_,5,none⟩=some (.slice Ao9_2 t24.length co9_2)∧w'.cell? ⟨gb10_,6,none⟩=some (.slice Ao9_3 t25.length co9_3))) (ds:=[]) #[F,F,F,F,F] (by kernel_rfl) rfl rfl ⟨aa BK1.out,aa BK10.out⟩ (fun hHeld=>?_)
 clear Q1 Q2 Q7 Q10 Q14
 have hb:=aV (Below.refl w16_.heap.size w16_)
 replace HS:=aHs HS hb.size
 replace HO6_0:=aVb HO6_0 hb
 replace HO6_1:=aVb HO6_1 hb
 replace HO6_2:=aVb HO6_2 hb
 replace HO6_3:=aVb HO6_3 hb
 replace HO9_0:=aSb HO9_0 hb
 replace HO9_1:=aSb HO9_1 hb
 replace HO9_2:=aSb HO9_2 hb
 replace HO9_3:=aRb HO9_3 hb
 replace HO13_0:=aSb HO13_0 hb
 replace HO13_1:=aSb HO13_1 hb
 replace HO13_2:=aSb HO13_2 hb
 replace HO13_3:=aRb HO13_3 hb
 replace BK1:=aBb BK1 hb
 replace BK2:=aBb BK2 hb
 replace BK7:=aBb BK7 hb
 replace BK10:=aBb BK10 hb
 replace BK14:=aBb BK14 hb
 replace HB:=aHB HB hb
 clear hb
 generalize w16_.drew=w32d_ at HO6_0 HO6_1 HO6_2 HO6_3 HO9_0 HO9_1 HO9_2 HO9_3 HO13_0 HO13_1 HO13_2 HO13_3 BK1 BK2 BK7 BK10 BK14 HB HS hHeld ⊢
 refine tl_ (i:=0) (N:=some 47) #[T,F,F,F,F] rfl hHeld ?_
 refine tl_ (i:=1) (N:=some 48) #[T,T,F,F,F] rfl hHeld ?_
 refine on_ (i:=2) (N:=some 49) #[T,T,T,F,F] rfl (fun K hK=>?_)
 refine gz_ Tryz.func8 #[.agg #[.int .i64 a0_0,.slice A0_1 l0_1.length c0_1,.int .i64 a0_2,.int .i64 a0_3,.slice A0_4 l0_4.length c0_4,.slice A0_5 l0_5.length c0_5,.slice A0_6 l0_6.length c0_6]] ?_
 with_reducible refine (dZ.calls k a0_0 _ _ l0_1 a0_2 a0_3 _ _ l0_4 _ _ l0_5 _ _ l0_6 t37 t38 t39 t40 t41 t42 t43 _ (cb_ HR0_1 HB) HC0_1.out (cb_ HR0_4 HB) HC0_4.out (cb_ HR0_5 HB) HC0_5.out (cb_ HR0_6 HB) HC0_6.out A17.out).mono ?_
 rintro e w17_ ⟨f17_,v0_,v1_,v2_,v3_,rfl,ho0_,ho1_,ho2_,ho3_,hb⟩
 refine⟨_,rfl,?_⟩
 replace HS:=aHs HS hb.size
 obtain⟨Ao17_0,co17_0,rfl,HO17_0⟩:=sSn ho0_ HB.out.size
 obtain⟨Ao17_1,co17_1,rfl,HO17_1⟩:=sSn ho1_ HB.out.size
 obtain⟨Ao17_2,co17_2,rfl,HO17_2⟩:=sSn ho2_ HB.out.size
 obtain⟨Ao17_3,co17_3,rfl,HO17_3⟩:=sRn ho3_ HB.out.size
 revert HO6_0 HO6_1 HO6_2 HO6_3 HO9_0 HO9_1 HO9_2 HO9_3 HO13_0 HO13_1 HO13_2 HO13_3 BK1 BK2 BK7 BK10 BK14 HB
 refine aD hb ?_
 intro HO6_0 HO6_1 HO6_2 HO6_3 HO9_0 HO9_1 HO9_2 HO9_3 HO13_0 HO13_1 HO13_2 HO13_3 BK1 BK2 BK7 BK10 BK14 HB
 clear hb ho0_ ho1_ ho2_ ho3_
 refine hK.out _ _ ⟨aa BK1.out,aa BK10.out⟩ (fun hHeld=>?_)
 clear hK K
 refine nm_ ?_
 refine on_ (i:=3) (N:=some 50) #[T,T,T,T,F] rfl (fun K hK=>?_)
 refine gz_ Tryz.func11 #[.agg #[.int .i64 t19,.slice Ao9_0 t20.length co9_0,.int .i64 t21,.int .i64 t22,.slice Ao9_1 t23.length co9_1,.slice Ao9_2 t24.length co9_2,.slice Ao9_3 t25.length co9_3],.agg #[.int .i64 t37,.slice Ao17_0 t38.length co17_0,.int .i64 t39,.int .i64 t40,.slice Ao17_1 t41.length co17_1,.slice Ao17_2 t42.length co17_2,.slice Ao17_3 t43.length co17_3]] ?_
 with_reducible refine (eG.calls k t19 _ _ t20 t21 t22 _ _ t23 _ _ t24 _ _ t25 t37 _ _ t38 t39 t40 _ _ t41 _ _ t42 _ _ t43 t44 _ (dV HO9_0) (dS HO9_0) (dV HO9_1) (dS HO9_1) (dV HO9_2) (dS HO9_2) (je HO9_3) (jB HO9_3) (dV HO17_0) (dS HO17_0) (dV HO17_1) (dS HO17_1) (dV HO17_2) (dS HO17_2) (je HO17_3) (jB HO17_3) A18.out).mono ?_
 rintro e w18_ ⟨rfl,hb⟩
 refine⟨_,rfl,?_⟩
 revert HS HO17_0 HO17_1 HO17_2 HO17_3 HO6_0 HO6_1 HO6_2 HO6_3 HO9_0 HO9_1 HO9_2 HO9_3 HO13_0 HO13_1 HO13_2 HO13_3 BK1 BK2 BK7 BK10 BK14 HB
 refine aD hb ?_
 intro HS HO17_0 HO17_1 HO17_2 HO17_3 HO6_0 HO6_1 HO6_2 HO6_3 HO9_0 HO9_1 HO9_2 HO9_3 HO13_0 HO13_1 HO13_2 HO13_3 BK1 BK2 BK7 BK10 BK14 HB
 clear hb 
 refine hK.out _ _ ⟨aa BK1.out,aa BK10.out⟩ (fun hHeld=>?_)
 clear hK K
 refine nm_ ?_
 refine pd_ (i:=4) (N:=some 51) #[T,T,T,T,T] rfl ?_
 refine fA (by kernel_rfl) ?_
 have Q1:=aa BK1.out
 have Q2:=ak BK2.out
 have Q7:=aa BK7.out
 have Q10:=aa BK10.out
 have Q14:=aa BK14.out
 replace H:=H.out
 by_cases hc4_:t44=true
 case neg =>
  rw [if_neg hc4_] at H
  replace hc4_:=eq_false_of_ne_true hc4_
  subst hc4_
  exact absurd H (by simp)
 rw [if_pos hc4_] at H
 subst hc4_
 replace H:=oa_ H
 obtain⟨⟨t45,t46,t47,t48,t49⟩,A19,H⟩:=H
 try dsimp only at H
 replace H:=A_.mk H
 go_wp2_with (fail)
 refine(gy.calls k (fun k_=>(w8_.heap.size≤k_∧k_<w9_.heap.size)) f9_ t19 (.slice Ao9_0 t20.length co9_0) t20 t21 t22 (.slice Ao9_1 t23.length co9_1) t23 (.slice Ao9_2 t24.length co9_2) t24 (.slice Ao9_3 t25.length co9_3) t25 1 t45 t46 t47 t48 t49 w _ HB.out HO9_0.out HO9_1.out HO9_2.out HO9_3.out A19.out).mono ?_
 rintro e w19_ ⟨rfl,ho0_,ho1_,ho2_,ho3_,ho4_,hkp⟩
 replace HS:=aHs HS hkp.1
 replace HO6_0:=aVk HO6_0 hkp HS
 replace HO6_1:=aVk HO6_1 hkp HS
 replace HO6_2:=aVk HO6_2 hkp HS
 replace HO6_3:=aVk HO6_3 hkp HS
 replace HO13_0:=aSk HO13_0 hkp HS
 replace HO13_1:=aSk HO13_1 hkp HS
 replace HO13_2:=aSk HO13_2 hkp HS
 replace HO13_3:=aRk HO13_3 hkp HS
 replace BK1:=aBk BK1 hkp HS
 replace BK2:=aBk BK2 hkp HS
 replace BK7:=aBk BK7 hkp HS
 replace BK14:=aBk BK14 hkp HS
 replace HO9_0:=A_.mk (Kd.dw (ok':=(fun k_=>((w8_.heap.size≤k_∧k_<w9_.heap.size)∧f9_ k_=0))) ho0_ (fun _ z_=>z_))
 have LQHO9_0:=A_.mk (Kd.eF HO9_0.out).1.symm
 replace HO9_1:=A_.mk (Kd.dw (ok':=(fun k_=>((w8_.heap.size≤k_∧k_<w9_.heap.size)∧f9_ k_=1))) ho1_ (fun _ z_=>z_))
 have LQHO9_1:=A_.mk (Kd.eF HO9_1.out).1.symm
 replace HO9_2:=A_.mk (Kd.dw (ok':=(fun k_=>((w8_.heap.size≤k_∧k_<w9_.heap.size)∧f9_ k_=2))) ho2_ (fun _ z_=>z_))
 have LQHO9_2:=A_.mk (Kd.eF HO9_2.out).1.symm
 replace HO9_3:=A_.mk (Kd.oF rfl ho3_ (fun k_ e_=>HO9_3.out.1 k_ e_))
 have LQHO9_3:=A_.mk (Kd.eQ HO9_3.out).1.symm
 replace HB:=A_.mk ho4_
 clear hkp ho0_ ho1_ ho2_ ho3_ ho4_ Q1 Q2 Q7 Q10 Q14
 have Q1:=aa BK1.out
 have Q2:=ak BK2.out
 have Q7:=aa BK7.out
 have Q14:=aa BK14.out
 replace H:=H.out
 by_cases hc5_:t45<0
 case pos =>
  rw [if_pos hc5_] at H
  have hc5_b0:=decide_eq_true hc5_
  replace hc5_:=A_.mk hc5_
  exact absurd H (by simp)
 rw [if_neg hc5_] at H
 have hc5_b0:=decide_eq_false hc5_
 replace hc5_:=A_.mk hc5_
 replace H:=oa_ H
 obtain⟨t50,A20,H⟩:=H
 replace H:=A_.mk H
 go_wp2_with (fail)
 refine(eG.calls k t28 _ _ t29 t30 t31 _ _ t32 _ _ t33 _ _ t34 t11 _ _ t12 t13 t14 _ _ t15 _ _ t16 _ _ t17 t50 _ (dV HO13_0) (dS HO13_0) (dV HO13_1) (dS HO13_1) (dV HO13_2) (dS HO13_2) (je HO13_3) (jB HO13_3) (lY HO6_0) (lX HO6_0) (lY HO6_1) (lX HO6_1) (lY HO6_2) (lX HO6_2) (lY HO6_3) (lX HO6_3) A20.out).mono ?_
 rintro e w20_ ⟨rfl,hb⟩
 revert HS HO6_0 HO6_1 HO6_2 HO6_3 HO13_0 HO13_1 HO13_2 HO13_3 BK1 BK2 BK7 BK14 HB
 refine aD hb ?_
 intro HS HO6_0 HO6_1 HO6_2 HO6_3 HO13_0 HO13_1 HO13_2 HO13_3 BK1 BK2 BK7 BK14 HB
 clear hb  Q1 Q2 Q7 Q14
 have Q1:=aa BK1.out
 have Q2:=ak BK2.out
 have Q7:=aa BK7.out
 have Q14:=aa BK14.out
 replace H:=H.out
 by_cases hc6_:t50=true
 case neg =>
  rw [if_neg hc6_] at H
  replace hc6_:=eq_false_of_ne_true hc6_
  subst hc6_
  exact absurd H (by simp)
 rw [if_pos hc6_] at H
 subst hc6_
 replace H:=oa_ H
 obtain⟨⟨t51,t52,t53,t54,t55⟩,A21,H⟩:=H
 try dsimp only at H
 replace H:=oa_ H
 obtain⟨t56,A22,H⟩:=H
 replace H:=A_.mk H
 go_wp2_with (fail)
 refine(gy.calls k (fun k_=>(lo31j_≤k_∧k_<up31j_)) f13_ t28 (.slice Ao13_0 t29.length co13_0) t29 t30 t31 (.slice Ao13_1 t32.length co13_1) t32 (.slice Ao13_2 t33.length co13_2) t33 (.slice Ao13_3 t34.length co13_3) t34 1 t51 t52 t53 t54 t55 w _ HB.out HO13_0.out HO13_1.out HO13_2.out HO13_3.out A21.out).mono ?_
 rintro e w21_ ⟨rfl,ho0_,ho1_,ho2_,ho3_,ho4_,hkp⟩
 replace HS:=aHs HS hkp.1
 replace HO6_0:=aVk HO6_0 hkp HS
 replace HO6_1:=aVk HO6_1 hkp HS
 replace HO6_2:=aVk HO6_2 hkp HS
 replace HO6_3:=aVk HO6_3 hkp HS
 replace BK1:=aBk BK1 hkp HS
 replace BK2:=aBk BK2 hkp HS
 replace BK7:=aBk BK7 hkp HS
 replace BK14:=aBk BK14 hkp HS
 replace HO13_0:=A_.mk (Kd.dw (ok':=(fun k_=>((lo31j_≤k_∧k_<up31j_)∧f13_ k_=0))) ho0_ (fun _ z_=>z_))
 have LQHO13_0:=A_.mk (Kd.eF HO13_0.out).1.symm
 replace HO13_1:=A_.mk (Kd.dw (ok':=(fun k_=>((lo31j_≤k_∧k_<up31j_)∧f13_ k_=1))) ho1_ (fun _ z_=>z_))
 have LQHO13_1:=A_.mk (Kd.eF HO13_1.out).1.symm
 replace HO13_2:=A_.mk (Kd.dw (ok':=(fun k_=>((lo31j_≤k_∧k_<up31j_)∧f13_ k_=2))) ho2_ (fun _ z_=>z_))
 have LQHO13_2:=A_.mk (Kd.eF HO13_2.out).1.symm
 replace HO13_3:=A_.mk (Kd.oF rfl ho3_ (fun k_ e_=>HO13_3.out.1 k_ e_))
 have LQHO13_3:=A_.mk (Kd.eQ HO13_3.out).1.symm
 replace HB:=A_.mk ho4_
 clear hkp ho0_ ho1_ ho2_ ho3_ ho4_ Q1 Q2 Q7 Q14
 have Q14:=aa BK14.out
 go_wp2_with (fail)
 refine(kv (by rw [LQHO13_0.out,LQHO13_1.out,LQHO13_2.out,LQHO13_3.out]) (fE.calls k t28 _ _ t52 t30 t31 _ _ t53 _ _ t54 _ _ t55 1 t56 _ (dV HO13_0) (by rw [LQHO13_0.out];exact(dS HO13_0)) (dV HO13_1) (by rw [LQHO13_1.out];exact(dS HO13_1)) (dV HO13_2) (by rw [LQHO13_2.out];exact(dS HO13_2)) (je HO13_3) (by rw [LQHO13_3.out];exact(jB HO13_3)) A22.out)).mono ?_
 rintro e w22_ ⟨rfl,hb⟩
 revert HS HO6_0 HO6_1 HO6_2 HO6_3 BK1 BK2 BK7 BK14 HO13_0 HO13_1 HO13_2 HO13_3 HB
 refine aD hb ?_
 intro HS HO6_0 HO6_1 HO6_2 HO6_3 BK1 BK2 BK7 BK14 HO13_0 HO13_1 HO13_2 HO13_3 HB
 clear hb  Q14
 have Q1:=aa BK1.out
 have Q2:=ak BK2.out
 have Q7:=aa BK7.out
 have Q14:=aa BK14.out
 replace H:=H.out
 by_cases hc7_:t56<0
 case pos =>
  rw [if_pos hc7_] at H
  have hc7_b0:=decide_eq_true hc7_
  replace hc7_:=A_.mk hc7_
  exact absurd H (by simp)
 rw [if_neg hc7_] at H
 have hc7_b0:=decide_eq_false hc7_
 replace hc7_:=A_.mk hc7_
 by_cases hc8_:t56=t51
 case neg =>
  rw [if_neg hc8_] at H
  have hc8_b:=iE hc8_
  exact absurd H (by simp)
 rw [if_pos hc8_] at H
 replace hc8_:=iF hc8_
 replace H:=oa_ H
 obtain⟨⟨t57,t58,t59,t60,t61,t62,t63⟩,A23,H⟩:=H
 try dsimp only at H
 replace H:=oa_ H
 obtain⟨⟨t64,t65⟩,A24,H⟩:=H
 try dsimp only at H
 replace H:=oa_ H
 obtain⟨⟨t66,t67,t68,t69,t70,t71,t72,t73⟩,A25,H⟩:=H
 try dsimp only at H
 replace H:=oa_ H
 obtain⟨t74,A28,H⟩:=H
 replace H:=A_.mk H
 go_wp2_with (fail)
 refine dN (n:=11) (S:=fun w'=>(w'.cell? ⟨gb1_,0,none⟩=some (.int .i64 a0_0)∧w'.cell? ⟨gb1_,1,none⟩=some (.slice A0_1 l0_1.length c0_1)∧w'.cell? ⟨gb1_,2,none⟩=some (.int .i64 a0_2)∧w'.cell? ⟨gb1_,3,none⟩=some (.int .i64 a0_3)∧w'.cell? ⟨gb1_,4,none⟩=some (.slice A0_4 l0_4.length c0_4)∧w'.cell? ⟨gb1_,5,none⟩=some (.slice A0_5 l0_5.length c0_5)∧w'.cell? ⟨gb1_,6,none⟩=some (.slice A0_6 l0_6.length c0_6))∧(w'.cell? ⟨gb2_,0,none⟩=some (.int .i64 a1_0)∧w'.cell? ⟨gb2_,1,none⟩=some (.int .i64 a1_1))) (ds:=[9]) #[F,F,F,F,F,F,F,F,F,F,F] (by kernel_rfl) rfl rfl ⟨aa BK1.out,ak BK2.out⟩ (fun hHeld=>?_)
 clear Q1 Q2 Q7 Q14
 have hb:=aV (Below.refl w22_.heap.size w22_)
 revert HS HO6_0 HO6_1 HO6_2 HO6_3 BK1 BK2 BK7 BK14 HO13_0 HO13_1 HO13_2 HO13_3 HB
 refine aD hb ?_
 intro HS HO6_0 HO6_1 HO6_2 HO6_3 BK1 BK2 BK7 BK14 HO13_0 HO13_1 HO13_2 HO13_3 HB
 clear hb
 generalize w22_.drew=w33d_ at HO6_0 HO6_1 HO6_2 HO6_3 HO13_0 HO13_1 HO13_2 HO13_3 BK1 BK2 BK7 BK14 HB HS hHeld ⊢
 refine tl_ (i:=0) (N:=some 80) #[T,F,F,F,F,F,F,F,F,F,F] rfl hHeld ?_
 refine tl_ (i:=2) (N:=some 82) #[T,F,T,F,F,F,F,F,F,F,F] rfl hHeld ?_
 refine mR (σ:=Value×Value×Value×Value×Value×Value×Value×Value×Nat×Nat×Nat×(Nat→Nat)) 2 #[T,T,T,T,T,T,T,T,T,F,F] (fun s_=>[(81,.agg #[.int .i64 t57,s_.1,.int .i64 t59,.int .i64 t60,s_.2.1,s_.2.2.1,s_.2.2.2.1]),(83,.agg #[.int .i64 t64,.int .i64 t65]),(84,.tuple #[.agg #[.int .i64 t66,s_.2.2.2.2.1,.int .i64 t68,.int .i64 t69,s_.2.2.2.2.2.1,s_.2.2.2.2.2.2.1,s_.2.2.2.2.2.2.2.1],.bool t73]),(79,.tuple #[.agg #[.int .i64 t66,s_.2.2.2.2.1,.int .i64 t68,.int .i64 t69,s_.2.2.2.2.2.1,s_.2.2.2.2.2.2.1,s_.2.2.2.2.2.2.2.1],.bool t73]),(85,.agg #[.int .i64 t66,s_.2.2.2.2.1,.int .i64 t68,.int .i64 t69,s_.2.2.2.2.2.1,s_.2.2.2.2.2.2.1,s_.2.2.2.2.2.2.2.1]),(86,.bool t73),(14,.pointer (some ⟨s_.2.2.2.2.2.2.2.2.1,0,none⟩))]) (fun s_ w'=>((w'.cell? ⟨gb1_,0,none⟩=some (.int .i64 a0_0)∧w'.cell? ⟨gb1_,1,none⟩=some (.slice A0_1 l0_1.length c0_1)∧w'.cell? ⟨gb1_,2,none⟩=some (.int .i64 a0_2)∧w'.cell? ⟨gb1_,3,none⟩=some (.int .i64 a0_3)∧w'.cell? ⟨gb1_,4,none⟩=some (.slice A0_4 l0_4.length c0_4)∧w'.cell? ⟨gb1_,5,none⟩=some (.slice A0_5 l0_5.length c0_5)∧w'.cell? ⟨gb1_,6,none⟩=some (.slice A0_6 l0_6.length c0_6))∧(w'.cell? ⟨gb2_,0,none⟩=some (.int .i64 a1_0)∧w'.cell? ⟨gb2_,1,none⟩=some (.int .i64 a1_1)))∧Kd.V k68 68 w' w.heap.size (fun k_=>((lo30j_≤k_∧k_<up30j_))) (.slice Ao6_0 t12.length co6_0) t12∧Kd.V (Kd.slice 3 (Kd.int .i64)) 28 w' w.heap.size (fun k_=>((lo30j_≤k_∧k_<up30j_))) (.slice Ao6_1 t15.length co6_1) t15∧Kd.V (Kd.slice 3 (Kd.int .i64)) 28 w' w.heap.size (fun k_=>((lo30j_≤k_∧k_<up30j_))) (.slice Ao6_2 t16.length co6_2) t16∧Kd.V (Kd.int .i64) 3 w' w.heap.size (fun k_=>((lo30j_≤k_∧k_<up30j_))) (.slice Ao6_3 t17.length co6_3) t17∧Kd.S k68 68 w' w.heap.size (fun k_=>((lo31j_≤k_∧k_<up31j_)∧f13_ k_=0)) (.slice Ao13_0 t29.length co13_0) t52∧Kd.S (Kd.slice 3 (Kd.int .i64)) 28 w' w.heap.size (fun k_=>((lo31j_≤k_∧k_<up31j_)∧f13_ k_=1)) (.slice Ao13_1 t32.length co13_1) t53∧Kd.S (Kd.slice 3 (Kd.int .i64)) 28 w' w.heap.size (fun k_=>((lo31j_≤k_∧k_<up31j_)∧f13_ k_=2)) (.slice Ao13_2 t33.length co13_2) t54∧Kd.R (Kd.int .i64) 3 w' w.heap.size (fun k_=>((lo31j_≤k_∧k_<up31j_)∧f13_ k_=3)) (.slice Ao13_3 t34.length co13_3) t55∧w'.heap[gb1_]?=some (.cells #[.int .i64 a0_0,.slice A0_1 l0_1.length c0_1,.int .i64 a0_2,.int .i64 a0_3,.slice A0_4 l0_4.length c0_4,.slice A0_5 l0_5.length c0_5,.slice A0_6 l0_6.length c0_6] 30 (0,0))∧w'.heap[gb2_]?=some (.cells #[.int .i64 a1_0,.int .i64 a1_1] 32 (0,0))∧w'.heap[gb7_]?=some (.cells #[.int .i64 t11,.slice Ao6_0 t12.length co6_0,.int .i64 t13,.int .i64 t14,.slice Ao6_1 t15.length co6_1,.slice Ao6_2 t16.length co6_2,.slice Ao6_3 t17.length co6_3] 39 (0,0))∧w'.heap[gb14_]?=some (.cells #[.int .i64 t28,.slice Ao13_0 t29.length co13_0,.int .i64 t30,.int .i64 t31,.slice Ao13_1 t32.length co13_1,.slice Ao13_2 t33.length co13_2,.slice Ao13_3 t34.length co13_3] 39 (0,0))∧Below w.heap.size w w'∧w33d_.heap.size≤w'.heap.size∧(w33d_.heap.size≤s_.2.2.2.2.2.2.2.2.2.1∧s_.2.2.2.2.2.2.2.2.2.1≤s_.2.2.2.2.2.2.2.2.2.2.1∧s_.2.2.2.2.2.2.2.2.2.2.1≤w'.heap.size)∧Kd.S k68 68 w' w.heap.size (fun k_=>(s_.2.2.2.2.2.2.2.2.2.1≤k_∧k_<s_.2.2.2.2.2.2.2.2.2.2.1)∧s_.2.2.2.2.2.2.2.2.2.2.2 k_=0) s_.2.2.2.2.1 t67∧Kd.S (Kd.slice 3 (Kd.int .i64)) 28 w' w.heap.size (fun k_=>(s_.2.2.2.2.2.2.2.2.2.1≤k_∧k_<s_.2.2.2.2.2.2.2.2.2.2.1)∧s_.2.2.2.2.2.2.2.2.2.2.2 k_=1) s_.2.2.2.2.2.1 t70∧Kd.S (Kd.slice 3 (Kd.int .i64)) 28 w' w.heap.size (fun k_=>(s_.2.2.2.2.2.2.2.2.2.1≤k_∧k_<s_.2.2.2.2.2.2.2.2.2.2.1)∧s_.2.2.2.2.2.2.2.2.2.2.2 k_=2) s_.2.2.2.2.2.2.1 t71∧Kd.R (Kd.int .i64) 3 w' w.heap.size (fun k_=>(s_.2.2.2.2.2.2.2.2.2.1≤k_∧k_<s_.2.2.2.2.2.2.2.2.2.2.1)∧s_.2.2.2.2.2.2.2.2.2.2.2 k_=3) s_.2.2.2.2.2.2.2.1 t72∧w'.heap[s_.2.2.2.2.2.2.2.2.1]?=some (.cells #[.int .i64 0,.slice none 0 0,.int .i64 0,.int .i64 0,.slice none 0 0,.slice none 0 0,.slice none 0 0] 39 (0,0))∧(w33d_.heap.size≤s_.2.2.2.2.2.2.2.2.1∧s_.2.2.2.2.2.2.2.2.1<w'.heap.size∧(s_.2.2.2.2.2.2.2.2.1<s_.2.2.2.2.2.2.2.2.2.1∨s_.2.2.2.2.2.2.2.2.2.2.1≤s_.2.2.2.2.2.2.2.2.1))) ?_ ?_
 rotate_left
 ·intro hCont
  refine jU (i:=1) (j:=8) (Ni:=some 81) (Nj:=some 14) #[T,T,T,F,F,F,F,F,F,F,F] #[T,F,T,F,F,F,F,F,T,F,F] rfl rfl rfl rfl (by kernel_rfl) (by decide) (by decide) (fun K hK=>?_) (fun K hK=>?_)
  ·skip
   refine gz_ Tryz.func8 #[.agg #[.int .i64 a0_0,.slice A0_1 l0_1.length c0_1,.int .i64 a0_2,.int .i64 a0_3,.slice A0_4 l0_4.length c0_4,.slice A0_5 l0_5.length c0_5,.slice A0_6 l0_6.length c0_6]] ?_
   with_reducible refine (dZ.calls k a0_0 _ _ l0_1 a0_2 a0_3 _ _ l0_4 _ _ l0_5 _ _ l0_6 t57 t58 t59 t60 t61 t62 t63 _ (cb_ HR0_1 HB) HC0_1.out (cb_ HR0_4 HB) HC0_4.out (cb_ HR0_5 HB) HC0_5.out (cb_ HR0_6 HB) HC0_6.out A23.out).mono ?_
   rintro e w23_ ⟨f23_,v0_,v1_,v2_,v3_,rfl,ho0_,ho1_,ho2_,ho3_,hb⟩
   refine⟨_,rfl,?_⟩
   replace HS:=aHs HS hb.size
   obtain⟨Ao23_0,co23_0,rfl,HO23_0⟩:=sSn ho0_ HB.out.size
   obtain⟨Ao23_1,co23_1,rfl,HO23_1⟩:=sSn ho1_ HB.out.size
   obtain⟨Ao23_2,co23_2,rfl,HO23_2⟩:=sSn ho2_ HB.out.size
   obtain⟨Ao23_3,co23_3,rfl,HO23_3⟩:=sRn ho3_ HB.out.size
   revert HO6_0 HO6_1 HO6_2 HO6_3 HO13_0 HO13_1 HO13_2 HO13_3 BK1 BK2 BK7 BK14 HB
   refine aD hb ?_
   intro HO6_0 HO6_1 HO6_2 HO6_3 HO13_0 HO13_1 HO13_2 HO13_3 BK1 BK2 BK7 BK14 HB
   clear hb ho0_ ho1_ ho2_ ho3_
   refine hK.out _ _ ⟨aa BK1.out,ak BK2.out⟩ (fun hHeld=>?_)
   clear hK K
   refine nm_ ?_
   refine jU (i:=3) (j:=8) (Ni:=some 83) (Nj:=some 14) #[T,T,T,T,F,F,F,F,F,F,F] #[T,T,T,F,F,F,F,F,T,F,F] rfl rfl rfl rfl (by kernel_rfl) (by decide) (by decide) (fun K hK=>?_) (fun K hK=>?_)
   ·skip
    refine gz_ Tryz.func9 #[.agg #[.int .i64 a1_0,.int .i64 a1_1]] ?_
    with_reducible refine (dA.calls a1_0 a1_1 t64 t65 _ A24.out).mono ?_
    rintro e w24_ ⟨rfl,hb⟩
    refine⟨_,rfl,?_⟩
    revert HS HO23_0 HO23_1 HO23_2 HO23_3 HO6_0 HO6_1 HO6_2 HO6_3 HO13_0 HO13_1 HO13_2 HO13_3 BK1 BK2 BK7 BK14 HB
    refine aD hb ?_
    intro HS HO23_0 HO23_1 HO23_2 HO23_3 HO6_0 HO6_1 HO6_2 HO6_3 HO13_0 HO13_1 HO13_2 HO13_3 BK1 BK2 BK7 BK14 HB
    clear hb 
    refine hK.out _ _ ⟨aa BK1.out,ak BK2.out⟩ (fun hHeld=>?_)
    clear hK K
    refine nm_ ?_
    refine jU (i:=4) (j:=8) (Ni:=some 84) (Nj:=some 14) #[T,T,T,T,T,F,F,F,F,F,F] #[T,T,T,T,F,F,F,F,T,F,F] rfl rfl rfl rfl (by kernel_rfl) (by decide) (by decide) (fun K hK=>?_) (fun K hK=>?_)
    ·skip
     refine gz_ Tryz.func10 #[.agg #[.int .i64 t57,.slice Ao23_0 t58.length co23_0,.int .i64 t59,.int .i64 t60,.slice Ao23_1 t61.length co23_1,.slice Ao23_2 t62.length co23_2,.slice Ao23_3 t63.length co23_3],.agg #[.int .i64 t64,.int .i64 t65]] ?_
     with_reducible refine (dC.calls k t57 _ _ t58 t59 t60 _ _ t61 _ _ t62 _ _ t63 t64 t65 t66 t67 t68 t69 t70 t71 t72 t73 _ (dV HO23_0) (dS HO23_0) (dV HO23_1) (dS HO23_1) (dV HO23_2) (dS HO23_2) (je HO23_3) (jB HO23_3) A25.out).mono ?_
     rintro e w25_ ⟨f25_,v0_,v1_,v2_,v3_,rfl,ho0_,ho1_,ho2_,ho3_,hb⟩
     refine⟨_,rfl,?_⟩
     replace HS:=aHs HS hb.size
     obtain⟨Ao25_0,co25_0,rfl,HO25_0⟩:=sSn ho0_ HB.out.size
     obtain⟨Ao25_1,co25_1,rfl,HO25_1⟩:=sSn ho1_ HB.out.size
     obtain⟨Ao25_2,co25_2,rfl,HO25_2⟩:=sSn ho2_ HB.out.size
     obtain⟨Ao25_3,co25_3,rfl,HO25_3⟩:=sRn ho3_ HB.out.size
     revert HO23_0 HO23_1 HO23_2 HO23_3 HO6_0 HO6_1 HO6_2 HO6_3 HO13_0 HO13_1 HO13_2 HO13_3 BK1 BK2 BK7 BK14 HB
     refine aD hb ?_
     intro HO23_0 HO23_1 HO23_2 HO23_3 HO6_0 HO6_1 HO6_2 HO6_3 HO13_0 HO13_1 HO13_2 HO13_3 BK1 BK2 BK7 BK14 HB
     clear hb ho0_ ho1_ ho2_ ho3_
     refine hK.out _ _ ⟨aa BK1.out,ak BK2.out⟩ (fun hHeld=>?_)
     clear hK K
     refine nm_ ?_
     refine pd_ (i:=5) (N:=some 79) #[T,T,T,T,T,T,F,F,F,F,F] rfl ?_
     refine pd_ (i:=6) (N:=some 85) #[T,T,T,T,T,T,T,F,F,F,F] rfl ?_
     refine pd_ (i:=7) (N:=some 86) #[T,T,T,T,T,T,T,T,F,F,F] rfl ?_
     refine on_ (i:=8) (N:=some 14) #[T,T,T,T,T,T,T,T,T,F,F] rfl (fun K hK=>?_)
     refine bo_ (N:=14) (cs:=#[.int .i64 0,.slice none 0 0,.int .i64 0,.int .i64 0,.slice none 0 0,.slice none 0 0,.slice none 0 0]) (t:=39) ?_
     intro gb26_ hg w26_ hbox hb
     replace HS:=aHg HS hg hbox
     revert HO25_0 HO25_1 HO25_2 HO25_3 HO23_0 HO23_1 HO23_2 HO23_3 HO6_0 HO6_1 HO6_2 HO6_3 HO13_0 HO13_1 HO13_2 HO13_3 BK1 BK2 BK7 BK14 HB
     refine aD hb ?_
     intro HO25_0 HO25_1 HO25_2 HO25_3 HO23_0 HO23_1 HO23_2 HO23_3 HO6_0 HO6_1 HO6_2 HO6_3 HO13_0 HO13_1 HO13_2 HO13_3 BK1 BK2 BK7 BK14 HB
     have BK26:=A_.mk hbox
     clear hbox hb hg
     refine hK.out _ _ ⟨aa BK1.out,ak BK2.out⟩ (fun hHeld=>?_)
     clear hK K
     refine nm_ ?_
     exact nj_ (hCont (.slice Ao23_0 t58.length co23_0,.slice Ao23_1 t61.length co23_1,.slice Ao23_2 t62.length co23_2,.slice Ao23_3 t63.length co23_3,.slice Ao25_0 t67.length co25_0,.slice Ao25_1 t70.length co25_1,.slice Ao25_2 t71.length co25_2,.slice Ao25_3 t72.length co25_3,gb26_,(w24_.heap.size),(w25_.heap.size),f25_) _ ⟨hHeld,HO6_0.out,HO6_1.out,HO6_2.out,HO6_3.out,HO13_0.out,HO13_1.out,HO13_2.out,HO13_3.out,BK1.out,BK2.out,BK7.out,BK14.out,HB.out,(ho_ HS),(by have:=HS.out;(try dsimp only);omega),HO25_0.out,HO25_1.out,HO25_2.out,HO25_3.out,BK26.out,(by have:=HS.out;(try dsimp only);omega)⟩)
    ·skip
     refine bo_ (N:=14) (cs:=#[.int .i64 0,.slice none 0 0,.int .i64 0,.int .i64 0,.slice none 0 0,.slice none 0 0,.slice none 0 0]) (t:=39) ?_
     intro gb26_ hg w26_ hbox hb
     replace HS:=aHg HS hg hbox
     revert HO23_0 HO23_1 HO23_2 HO23_3 HO6_0 HO6_1 HO6_2 HO6_3 HO13_0 HO13_1 HO13_2 HO13_3 BK1 BK2 BK7 BK14 HB
     refine aD hb ?_
     intro HO23_0 HO23_1 HO23_2 HO23_3 HO6_0 HO6_1 HO6_2 HO6_3 HO13_0 HO13_1 HO13_2 HO13_3 BK1 BK2 BK7 BK14 HB
     have BK26:=A_.mk hbox
     clear hbox hb hg
     refine hK.out _ _ ⟨aa BK1.out,ak BK2.out⟩ (fun hHeld=>?_)
     clear hK K
     refine nm_ ?_
     refine on_ (i:=4) (N:=some 84) #[T,T,T,T,T,F,F,F,T,F,F] rfl (fun K hK=>?_)
     refine gz_ Tryz.func10 #[.agg #[.int .i64 t57,.slice Ao23_0 t58.length co23_0,.int .i64 t59,.int .i64 t60,.slice Ao23_1 t61.length co23_1,.slice Ao23_2 t62.length co23_2,.slice Ao23_3 t63.length co23_3],.agg #[.int .i64 t64,.int .i64 t65]] ?_
     with_reducible refine (dC.calls k t57 _ _ t58 t59 t60 _ _ t61 _ _ t62 _ _ t63 t64 t65 t66 t67 t68 t69 t70 t71 t72 t73 _ (dV HO23_0) (dS HO23_0) (dV HO23_1) (dS HO23_1) (dV HO23_2) (dS HO23_2) (je HO23_3) (jB HO23_3) A25.out).mono ?_
     rintro e w25_ ⟨f25_,v0_,v1_,v2_,v3_,rfl,ho0_,ho1_,ho2_,ho3_,hb⟩
     refine⟨_,rfl,?_⟩
     replace HS:=aHs HS hb.size
     obtain⟨Ao25_0,co25_0,rfl,HO25_0⟩:=sSn ho0_ HB.out.size
     obtain⟨Ao25_1,co25_1,rfl,HO25_1⟩:=sSn ho1_ HB.out.size
     obtain⟨Ao25_2,co25_2,rfl,HO25_2⟩:=sSn ho2_ HB.out.size
     obtain⟨Ao25_3,co25_3,rfl,HO25_3⟩:=sRn ho3_ HB.out.size
     revert HO23_0 HO23_1 HO23_2 HO23_3 HO6_0 HO6_1 HO6_2 HO6_3 HO13_0 HO13_1 HO13_2 HO13_3 BK1 BK2 BK7 BK14 HB BK26
     refine aD hb ?_
     intro HO23_0 HO23_1 HO23_2 HO23_3 HO6_0 HO6_1 HO6_2 HO6_3 HO13_0 HO13_1 HO13_2 HO13_3 BK1 BK2 BK7 BK14 HB BK26
     clear hb ho0_ ho1_ ho2_ ho3_
     refine hK.out _ _ ⟨aa BK1.out,ak BK2.out⟩ (fun hHeld=>?_)
     clear hK K
     refine nm_ ?_
     refine pd_ (i:=5) (N:=some 79) #[T,T,T,T,T,T,F,F,T,F,F] rfl ?_
     refine pd_ (i:=6) (N:=some 85) #[T,T,T,T,T,T,T,F,T,F,F] rfl ?_
     refine pd_ (i:=7) (N:=some 86) #[T,T,T,T,T,T,T,T,T,F,F] rfl ?_
     exact nj_ (hCont (.slice Ao23_0 t58.length co23_0,.slice Ao23_1 t61.length co23_1,.slice Ao23_2 t62.length co23_2,.slice Ao23_3 t63.length co23_3,.slice Ao25_0 t67.length co25_0,.slice Ao25_1 t70.length co25_1,.slice Ao25_2 t71.length co25_2,.slice Ao25_3 t72.length co25_3,gb26_,(w26_.heap.size),(w25_.heap.size),f25_) _ ⟨hHeld,HO6_0.out,HO6_1.out,HO6_2.out,HO6_3.out,HO13_0.out,HO13_1.out,HO13_2.out,HO13_3.out,BK1.out,BK2.out,BK7.out,BK14.out,HB.out,(ho_ HS),(by have:=HS.out;(try dsimp only);omega),HO25_0.out,HO25_1.out,HO25_2.out,HO25_3.out,BK26.out,(by have:=HS.out;(try dsimp only);omega)⟩)
   ·skip
    refine bo_ (N:=14) (cs:=#[.int .i64 0,.slice none 0 0,.int .i64 0,.int .i64 0,.slice none 0 0,.slice none 0 0,.slice none 0 0]) (t:=39) ?_
    intro gb26_ hg w26_ hbox hb
    replace HS:=aHg HS hg hbox
    revert HO23_0 HO23_1 HO23_2 HO23_3 HO6_0 HO6_1 HO6_2 HO6_3 HO13_0 HO13_1 HO13_2 HO13_3 BK1 BK2 BK7 BK14 HB
    refine aD hb ?_
    intro HO23_0 HO23_1 HO23_2 HO23_3 HO6_0 HO6_1 HO6_2 HO6_3 HO13_0 HO13_1 HO13_2 HO13_3 BK1 BK2 BK7 BK14 HB
    have BK26:=A_.mk hbox
    clear hbox hb hg
    refine hK.out _ _ ⟨aa BK1.out,ak BK2.out⟩ (fun hHeld=>?_)
    clear hK K
    refine nm_ ?_
    refine on_ (i:=3) (N:=some 83) #[T,T,T,T,F,F,F,F,T,F,F] rfl (fun K hK=>?_)
    refine gz_ Tryz.func9 #[.agg #[.int .i64 a1_0,.int .i64 a1_1]] ?_
    with_reducible refine (dA.calls a1_0 a1_1 t64 t65 _ A24.out).mono ?_
    rintro e w24_ ⟨rfl,hb⟩
    refine⟨_,rfl,?_⟩
    revert HS HO23_0 HO23_1 HO23_2 HO23_3 HO6_0 HO6_1 HO6_2 HO6_3 HO13_0 HO13_1 HO13_2 HO13_3 BK1 BK2 BK7 BK14 HB BK26
    refine aD hb ?_
    intro HS HO23_0 HO23_1 HO23_2 HO23_3 HO6_0 HO6_1 HO6_2 HO6_3 HO13_0 HO13_1 HO13_2 HO13_3 BK1 BK2 BK7 BK14 HB BK26
    clear hb 
    refine hK.out _ _ ⟨aa BK1.out,ak BK2.out⟩ (fun hHeld=>?_)
    clear hK K
    refine nm_ ?_
    refine on_ (i:=4) (N:=some 84) #[T,T,T,T,T,F,F,F,T,F,F] rfl (fun K hK=>?_)
    refine gz_ Tryz.func10 #[.agg #[.int .i64 t57,.slice Ao23_0 t58.length co23_0,.int .i64 t59,.int .i64 t60,.slice Ao23_1 t61.length co23_1,.slice Ao23_2 t62.length co23_2,.slice Ao23_3 t63.length co23_3],.agg #[.int .i64 t64,.int .i64 t65]] ?_
    with_reducible refine (dC.calls k t57 _ _ t58 t59 t60 _ _ t61 _ _ t62 _ _ t63 t64 t65 t66 t67 t68 t69 t70 t71 t72 t73 _ (dV HO23_0) (dS HO23_0) (dV HO23_1) (dS HO23_1) (dV HO23_2) (dS HO23_2) (je HO23_3) (jB HO23_3) A25.out).mono ?_
    rintro e w25_ ⟨f25_,v0_,v1_,v2_,v3_,rfl,ho0_,ho1_,ho2_,ho3_,hb⟩
    refine⟨_,rfl,?_⟩
    replace HS:=aHs HS hb.size
    obtain⟨Ao25_0,co25_0,rfl,HO25_0⟩:=sSn ho0_ HB.out.size
    obtain⟨Ao25_1,co25_1,rfl,HO25_1⟩:=sSn ho1_ HB.out.size
    obtain⟨Ao25_2,co25_2,rfl,HO25_2⟩:=sSn ho2_ HB.out.size
    obtain⟨Ao25_3,co25_3,rfl,HO25_3⟩:=sRn ho3_ HB.out.size
    revert HO23_0 HO23_1 HO23_2 HO23_3 HO6_0 HO6_1 HO6_2 HO6_3 HO13_0 HO13_1 HO13_2 HO13_3 BK1 BK2 BK7 BK14 HB BK26
    refine aD hb ?_
    intro HO23_0 HO23_1 HO23_2 HO23_3 HO6_0 HO6_1 HO6_2 HO6_3 HO13_0 HO13_1 HO13_2 HO13_3 BK1 BK2 BK7 BK14 HB BK26
    clear hb ho0_ ho1_ ho2_ ho3_
    refine hK.out _ _ ⟨aa BK1.out,ak BK2.out⟩ (fun hHeld=>?_)
    clear hK K
    refine nm_ ?_
    refine pd_ (i:=5) (N:=some 79) #[T,T,T,T,T,T,F,F,T,F,F] rfl ?_
    refine pd_ (i:=6) (N:=some 85) #[T,T,T,T,T,T,T,F,T,F,F] rfl ?_
    refine pd_ (i:=7) (N:=some 86) #[T,T,T,T,T,T,T,T,T,F,F] rfl ?_
    exact nj_ (hCont (.slice Ao23_0 t58.length co23_0,.slice Ao23_1 t61.length co23_1,.slice Ao23_2 t62.length co23_2,.slice Ao23_3 t63.length co23_3,.slice Ao25_0 t67.length co25_0,.slice Ao25_1 t70.length co25_1,.slice Ao25_2 t71.length co25_2,.slice Ao25_3 t72.length co25_3,gb26_,(w24_.heap.size),(w25_.heap.size),f25_) _ ⟨hHeld,HO6_0.out,HO6_1.out,HO6_2.out,HO6_3.out,HO13_0.out,HO13_1.out,HO13_2.out,HO13_3.out,BK1.out,BK2.out,BK7.out,BK14.out,HB.out,(ho_ HS),(by have:=HS.out;(try dsimp only);omega),HO25_0.out,HO25_1.out,HO25_2.out,HO25_3.out,BK26.out,(by have:=HS.out;(try dsimp only);omega)⟩)
  ·skip
   refine bo_ (N:=14) (cs:=#[.int .i64 0,.slice none 0 0,.int .i64 0,.int .i64 0,.slice none 0 0,.slice none 0 0,.slice none 0 0]) (t:=39) ?_
   intro gb26_ hg w26_ hbox hb
   replace HS:=aHg HS hg hbox
   revert HO6_0 HO6_1 HO6_2 HO6_3 HO13_0 HO13_1 HO13_2 HO13_3 BK1 BK2 BK7 BK14 HB
   refine aD hb ?_
   intro HO6_0 HO6_1 HO6_2 HO6_3 HO13_0 HO13_1 HO13_2 HO13_3 BK1 BK2 BK7 BK14 HB
   have BK26:=A_.mk hbox
   clear hbox hb hg
   refine hK.out _ _ ⟨aa BK1.out,ak BK2.out⟩ (fun hHeld=>?_)
   clear hK K
   refine nm_ ?_
   refine on_ (i:=1) (N:=some 81) #[T,T,T,F,F,F,F,F,T,F,F] rfl (fun K hK=>?_)
   refine gz_ Tryz.func8 #[.agg #[.int .i64 a0_0,.slice A0_1 l0_1.length c0_1,.int .i64 a0_2,.int .i64 a0_3,.slice A0_4 l0_4.length c0_4,.slice A0_5 l0_5.length c0_5,.slice A0_6 l0_6.length c0_6]] ?_
   with_reducible refine (dZ.calls k a0_0 _ _ l0_1 a0_2 a0_3 _ _ l0_4 _ _ l0_5 _ _ l0_6 t57 t58 t59 t60 t61 t62 t63 _ (cb_ HR0_1 HB) HC0_1.out (cb_ HR0_4 HB) HC0_4.out (cb_ HR0_5 HB) HC0_5.out (cb_ HR0_6 HB) HC0_6.out A23.out).mono ?_
   rintro e w23_ ⟨f23_,v0_,v1_,v2_,v3_,rfl,ho0_,ho1_,ho2_,ho3_,hb⟩
   refine⟨_,rfl,?_⟩
   replace HS:=aHs HS hb.size
   obtain⟨Ao23_0,co23_0,rfl,HO23_0⟩:=sSn ho0_ HB.out.size
   obtain⟨Ao23_1,co23_1,rfl,HO23_1⟩:=sSn ho1_ HB.out.size
   obtain⟨Ao23_2,co23_2,rfl,HO23_2⟩:=sSn ho2_ HB.out.size
   obtain⟨Ao23_3,co23_3,rfl,HO23_3⟩:=sRn ho3_ HB.out.size
   revert HO6_0 HO6_1 HO6_2 HO6_3 HO13_0 HO13_1 HO13_2 HO13_3 BK1 BK2 BK7 BK14 HB BK26
   refine aD hb ?_
   intro HO6_0 HO6_1 HO6_2 HO6_3 HO13_0 HO13_1 HO13_2 HO13_3 BK1 BK2 BK7 BK14 HB BK26
   clear hb ho0_ ho1_ ho2_ ho3_
   refine hK.out _ _ ⟨aa BK1.out,ak BK2.out⟩ (fun hHeld=>?_)
   clear hK K
   refine nm_ ?_
   refine on_ (i:=3) (N:=some 83) #[T,T,T,T,F,F,F,F,T,F,F] rfl (fun K hK=>?_)
   refine gz_ Tryz.func9 #[.agg #[.int .i64 a1_0,.int .i64 a1_1]] ?_
   with_reducible refine (dA.calls a1_0 a1_1 t64 t65 _ A24.out).mono ?_
   rintro e w24_ ⟨rfl,hb⟩
   refine⟨_,rfl,?_⟩
   revert HS HO23_0 HO23_1 HO23_2 HO23_3 HO6_0 HO6_1 HO6_2 HO6_3 HO13_0 HO13_1 HO13_2 HO13_3 BK1 BK2 BK7 BK14 HB BK26
   refine aD hb ?_
   intro HS HO23_0 HO23_1 HO23_2 HO23_3 HO6_0 HO6_1 HO6_2 HO6_3 HO13_0 HO13_1 HO13_2 HO13_3 BK1 BK2 BK7 BK14 HB BK26
   clear hb 
   refine hK.out _ _ ⟨aa BK1.out,ak BK2.out⟩ (fun hHeld=>?_)
   clear hK K
   refine nm_ ?_
   refine on_ (i:=4) (N:=some 84) #[T,T,T,T,T,F,F,F,T,F,F] rfl (fun K hK=>?_)
   refine gz_ Tryz.func10 #[.agg #[.int .i64 t57,.slice Ao23_0 t58.length co23_0,.int .i64 t59,.int .i64 t60,.slice Ao23_1 t61.length co23_1,.slice Ao23_2 t62.length co23_2,.slice Ao23_3 t63.length co23_3],.agg #[.int .i64 t64,.int .i64 t65]] ?_
   with_reducible refine (dC.calls k t57 _ _ t58 t59 t60 _ _ t61 _ _ t62 _ _ t63 t64 t65 t66 t67 t68 t69 t70 t71 t72 t73 _ (dV HO23_0) (dS HO23_0) (dV HO23_1) (dS HO23_1) (dV HO23_2) (dS HO23_2) (je HO23_3) (jB HO23_3) A25.out).mono ?_
   rintro e w25_ ⟨f25_,v0_,v1_,v2_,v3_,rfl,ho0_,ho1_,ho2_,ho3_,hb⟩
   refine⟨_,rfl,?_⟩
   replace HS:=aHs HS hb.size
   obtain⟨Ao25_0,co25_0,rfl,HO25_0⟩:=sSn ho0_ HB.out.size
   obtain⟨Ao25_1,co25_1,rfl,HO25_1⟩:=sSn ho1_ HB.out.size
   obtain⟨Ao25_2,co25_2,rfl,HO25_2⟩:=sSn ho2_ HB.out.size
   obtain⟨Ao25_3,co25_3,rfl,HO25_3⟩:=sRn ho3_ HB.out.size
   revert HO23_0 HO23_1 HO23_2 HO23_3 HO6_0 HO6_1 HO6_2 HO6_3 HO13_0 HO13_1 HO13_2 HO13_3 BK1 BK2 BK7 BK14 HB BK26
   refine aD hb ?_
   intro HO23_0 HO23_1 HO23_2 HO23_3 HO6_0 HO6_1 HO6_2 HO6_3 HO13_0 HO13_1 HO13_2 HO13_3 BK1 BK2 BK7 BK14 HB BK26
   clear hb ho0_ ho1_ ho2_ ho3_
   refine hK.out _ _ ⟨aa BK1.out,ak BK2.out⟩ (fun hHeld=>?_)
   clear hK K
   refine nm_ ?_
   refine pd_ (i:=5) (N:=some 79) #[T,T,T,T,T,T,F,F,T,F,F] rfl ?_
   refine pd_ (i:=6) (N:=some 85) #[T,T,T,T,T,T,T,F,T,F,F] rfl ?_
   refine pd_ (i:=7) (N:=some 86) #[T,T,T,T,T,T,T,T,T,F,F] rfl ?_
   exact nj_ (hCont (.slice Ao23_0 t58.length co23_0,.slice Ao23_1 t61.length co23_1,.slice Ao23_2 t62.length co23_2,.slice Ao23_3 t63.length co23_3,.slice Ao25_0 t67.length co25_0,.slice Ao25_1 t70.length co25_1,.slice Ao25_2 t71.length co25_2,.slice Ao25_3 t72.length co25_3,gb26_,(w24_.heap.size),(w25_.heap.size),f25_) _ ⟨hHeld,HO6_0.out,HO6_1.out,HO6_2.out,HO6_3.out,HO13_0.out,HO13_1.out,HO13_2.out,HO13_3.out,BK1.out,BK2.out,BK7.out,BK14.out,HB.out,(ho_ HS),(by have:=HS.out;(try dsimp only);omega),HO25_0.out,HO25_1.out,HO25_2.out,HO25_3.out,BK26.out,(by have:=HS.out;(try dsimp only);omega)⟩)
 rintro⟨z0_,z1_,z2_,z3_,z4_,z5_,z6_,z7_,gb26_,lo33j_,up33j_,f25_⟩ w33j_ ⟨hHeld,m0_,m1_,m2_,m3_,m4_,m5_,m6_,m7_,m8_,m9_,m10_,m11_,m12_,m13_,m14_,m15_,m16_,m17_,m18_,m19_,m20_⟩
 replace HO6_0:=A_.mk m0_
 replace HO6_1:=A_.mk m1_
 replace HO6_2:=A_.mk m2_
 replace HO6_3:=A_.mk m3_
 replace HO13_0:=A_.mk m4_
 replace HO13_1:=A_.mk m5_
 replace HO13_2:=A_.mk m6_
 replace HO13_3:=A_.mk m7_
 replace BK1:=A_.mk m8_
 replace BK2:=A_.mk m9_
 replace BK7:=A_.mk m10_
 replace BK14:=A_.mk m11_
 replace HB:=A_.mk m12_
 replace HS:=A_.mk (And.intro HS.out m13_)
 replace HS:=A_.mk (And.intro HS.out (show w33d_.heap.size≤lo33j_∧lo33j_≤up33j_∧up33j_≤w33j_.heap.size from m14_))
 obtain⟨Ao25_0,co25_0,ev_⟩:=Kd.dx m15_
 replace ev_:z4_=_:=ev_
 subst ev_
 have HO25_0:=A_.mk (show Kd.S k68 68 w33j_ w.heap.size (fun k_=>((lo33j_≤k_∧k_<up33j_)∧f25_ k_=0)) (.slice Ao25_0 t67.length co25_0) t67 from m15_)
 obtain⟨Ao25_1,co25_1,ev_⟩:=Kd.dx m16_
 replace ev_:z5_=_:=ev_
 subst ev_
 have HO25_1:=A_.mk (show Kd.S (Kd.slice 3 (Kd.int .i64)) 28 w33j_ w.heap.size (fun k_=>((lo33j_≤k_∧k_<up33j_)∧f25_ k_=1)) (.slice Ao25_1 t70.length co25_1) t70 from m16_)
 obtain⟨Ao25_2,co25_2,ev_⟩:=Kd.dx m17_
 replace ev_:z6_=_:=ev_
 subst ev_
 have HO25_2:=A_.mk (show Kd.S (Kd.slice 3 (Kd.int .i64)) 28 w33j_ w.heap.size (fun k_=>((lo33j_≤k_∧k_<up33j_)∧f25_ k_=2)) (.slice Ao25_2 t71.length co25_2) t71 from m17_)
 obtain⟨Ao25_3,co25_3,ev_⟩:=Kd.aX m18_
 replace ev_:z7_=_:=ev_
 subst ev_
 have HO25_3:=A_.mk (show Kd.R (Kd.int .i64) 3 w33j_ w.heap.size (fun k_=>((lo33j_≤k_∧k_<up33j_)∧f25_ k_=3)) (.slice Ao25_3 t72.length co25_3) t72 from m18_)
 have BK26:=A_.mk (show w33j_.heap[gb26_]?=some (.cells #[.int .i64 0,.slice none 0 0,.int .i64 0,.int .i64 0,.slice none 0 0,.slice none 0 0,.slice none 0 0] 39 (0,0)) from m19_)
 replace HS:=A_.mk (And.intro HS.out (show w33d_.heap.size≤gb26_∧gb26_<w33j_.heap.size∧(gb26_<lo33j_∨up33j_≤gb26_) from m20_))
 clear m0_ m1_ m2_ m3_ m4_ m5_ m6_ m7_ m8_ m9_ m10_ m11_ m12_ m13_ m14_ m15_ m16_ m17_ m18_ m19_ m20_
 refine lD (a':=?_) ?_ ?_
 rotate_left
 ·simp only [putAll,Act.put,List.setIfInBounds_toArray,List.set_cons_zero,List.set_cons_succ]
  rfl
 refine gG (i:=9) (N:=none) #[T,T,T,T,T,T,T,T,T,T,F] rfl rfl (by kernel_rfl) (by decide) (fun K hK=>?_)
 have Q1:=aa BK1.out
 have Q2:=ak BK2.out
 have Q7:=aa BK7.out
 have Q14:=aa BK14.out
 have Q26:=aa BK26.out
 obtain⟨qf0,qf1,qf2,qf3,qf4,qf5,qf6⟩:=gM BK26
 obtain⟨w27_,hw⟩:=lw_ ((iR w33j_ gb26_ (.int .i64 t66) (.slice Ao25_0 t67.length co25_0) (.int .i64 t68) (.int .i64 t69) (.slice Ao25_1 t70.length co25_1) (.slice Ao25_2 t71.length co25_2) (.slice Ao25_3 t72.length co25_3)))
 refine fT (w1:=w27_) (by rfl) rfl ?_ ?_
 ·rw [hw];go_simp;try rfl
 refine hK.out _ _ ?_
 clear hK K qf0 qf1 qf2 qf3 qf4 qf5 qf6 Q1 Q2 Q7 Q14 Q26
 obtain⟨hbx,hkp,hbb⟩:=iV hw BK26 HB (ho_ HS)
 clear hw
 revert HO6_0 HO6_1 HO6_2 HO6_3 HO13_0 HO13_1 HO13_2 HO13_3 BK1 BK2 BK7 BK14 HO25_0 HO25_1 HO25_2 HO25_3
 refine bC hkp HS ?_
 intro HO6_0 HO6_1 HO6_2 HO6_3 HO13_0 HO13_1 HO13_2 HO13_3 BK1 BK2 BK7 BK14 HO25_0 HO25_1 HO25_2 HO25_3
 replace BK26:=A_.mk hbx
 replace HB:=A_.mk hbb
 replace HS:=aHs HS hkp.1
 clear hkp hbb hbx
 refine pd_ (i:=10) (N:=some 15) #[T,T,T,T,T,T,T,T,T,T,T] rfl ?_
 refine fA (by kernel_rfl) ?_
 have Q7:=aa BK7.out
 have Q26:=aa BK26.out
 go_wp2_with (fail)
 refine(eG.calls k t66 _ _ t67 t68 t69 _ _ t70 _ _ t71 _ _ t72 t11 _ _ t12 t13 t14 _ _ t15 _ _ t16 _ _ t17 t74 _ (dV HO25_0) (dS HO25_0) (dV HO25_1) (dS HO25_1) (dV HO25_2) (dS HO25_2) (je HO25_3) (jB HO25_3) (lY HO6_0) (lX HO6_0) (lY HO6_1) (lX HO6_1) (lY HO6_2) (lX HO6_2) (lY HO6_3) (lX HO6_3) A28.out).mono ?_
 rintro e w28_ ⟨rfl,hb⟩
 revert HO6_0 HO6_1 HO6_2 HO6_3 HO13_0 HO13_1 HO13_2 HO13_3 BK14 HO25_0 HO25_1 HO25_2 HO25_3 HB HS
 refine aD hb ?_
 intro HO6_0 HO6_1 HO6_2 HO6_3 HO13_0 HO13_1 HO13_2 HO13_3 BK14 HO25_0 HO25_1 HO25_2 HO25_3 HB HS
 clear hb  Q7 Q26
 have Q14:=aa BK14.out
 replace H:=H.out
 by_cases hc9_:t74=true
 case neg =>
  rw [if_neg hc9_] at H
  replace hc9_:=eq_false_of_ne_true hc9_
  subst hc9_
  exact absurd H (by simp)
 rw [if_pos hc9_] at H
 subst hc9_
 by_cases hc10_:t73=t18
 case neg =>
  rw [if_neg hc10_] at H
  have hc10_b0:=beq_eq_false_iff_ne.mpr hc10_
  have hc10_b1:=bne_iff_ne.mpr hc10_
  replace hc10_:=A_.mk hc10_
  exact absurd H (by simp)
 rw [if_pos hc10_] at H
 have hc10_b0:=beq_iff_eq.mpr hc10_
 have hc10_b1:=bne_eq_false_iff_eq.mpr hc10_
 replace hc10_:=A_.mk hc10_
 replace H:=oa_ H
 obtain⟨t75,A29,H⟩:=H
 replace H:=A_.mk H
 go_wp2_with (fail)
 refine(kv (by rw [LQHO13_0.out,LQHO13_1.out,LQHO13_2.out,LQHO13_3.out]) (fE.calls k t28 _ _ t52 t30 t31 _ _ t53 _ _ t54 _ _ t55 1 t75 _ (dV HO13_0) (by rw [LQHO13_0.out];exact(dS HO13_0)) (dV HO13_1) (by rw [LQHO13_1.out];exact(dS HO13_1)) (dV HO13_2) (by rw [LQHO13_2.out];exact(dS HO13_2)) (je HO13_3) (by rw [LQHO13_3.out];exact(jB HO13_3)) A29.out)).mono ?_
 rintro e w29_ ⟨rfl,hb⟩
 replace HS:=aHs HS hb.size
 replace HO13_0:=aSb HO13_0 hb
 replace HO13_1:=aSb HO13_1 hb
 replace HO13_2:=aSb HO13_2 hb
 replace HO13_3:=aRb HO13_3 hb
 replace HB:=aHB HB hb
 clear hb  Q14
 replace H:=H.out
 by_cases hc11_:t75<0
 case pos =>
  rw [if_pos hc11_] at H
  have hc11_b0:=decide_eq_true hc11_
  replace hc11_:=A_.mk hc11_
  exact absurd H (by simp)
 rw [if_neg hc11_] at H
 have hc11_b0:=decide_eq_false hc11_
 replace hc11_:=A_.mk hc11_
 by_cases hc12_:t75=t51
 case pos =>
  rw [if_pos hc12_] at H
  replace hc12_:=iF hc12_
  clear H
  go_wp2
  go_ret
  exact⟨rfl,HB.out⟩
 rw [if_neg hc12_] at H
 have hc12_b:=iE hc12_
 exact absurd H (by simp)
def cK.Pure:Prop:=∀ (a0_0:Int) (l0_1:List (S108)) (a0_2:Int) (a0_3:Int) (l0_4:List (List Int)) (l0_5:List (List Int)) (l0_6:List Int) (a1_0:Int) (a1_1:Int),((Lit.int .i64 a0_0).wf=true)→(l0_1.length≤9223372036854775807∧∀ e423∈l0_1,((Lit.int .i64 e423.f0).wf=true)∧((e423.f1.length≤9223372036854775807∧∀ e424∈e423.f1,(Lit.int .i64 e424).wf=true)))→((Lit.int .i64 a0_2).wf=true)→((Lit.int .i64 a0_3).wf=true)→(l0_4.length≤9223372036854775807∧∀ e425∈l0_4,e425.length≤9223372036854775807∧∀ e426∈e425,(Lit.int .i64 e426).wf=true)→(l0_5.length≤9223372036854775807∧∀ e427∈l0_5,e427.length≤9223372036854775807∧∀ e428∈e427,(Lit.int .i64 e428).wf=true)→(l0_6.length≤9223372036854775807∧∀ e429∈l0_6,(Lit.int .i64 e429).wf=true)→((Lit.int .i64 a1_0).wf=true)→((Lit.int .i64 a1_1).wf=true)→∃ k,cK.f k a0_0 l0_1 a0_2 a0_3 l0_4 l0_5 l0_6 a1_0 a1_1=some true
end Go.Proofs.YtmdehehgmnihpaaGreat.PFnExactLinkStep
